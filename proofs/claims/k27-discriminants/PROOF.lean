import PyProof.Rows.All
import Wide.All
import OpenK.AllK
import Wide.FinOn
import HandS.ForExc
import HandS.Comp
import HandS.Iter
import HandS.Dict
import HandS.Text
import HandS.TupAny
import HandS.Zip
import HandS.IsInst
import HandS.WideBits
import HandS.Gcd
import PyProof.Rows.EqBoolInt
import PyProof.Rows.IntBool
import PyProof.ReprRoads
import PyProof.P3In
import HandS.EndBits
import HandS.RaiseMore
import HandS.Style
import HandS.TupMul
import HandS.Defaults
import KE.GoesMore
import HandS.HeadHook3
import HandS.Strs
import HandS.Codes
import PySem.Challenge.RW_twoletters_k27_discriminants_of_degrees
set_option Elab.async false
set_option linter.all false
set_option maxRecDepth 100000
set_option maxHeartbeats 4000000
/-! TL0: values, stores, outcomes; how they lie in the abstract heap. -/
namespace TL
open PySem PySem.Spec L2
abbrev St := L2.St

/-- a list of the module, known to the object -/
def LsK (K : PySem.W.Frag) (a : Addr) (xs : List V) : Prop := ∃ (its : List Value) (n : Nat), K.lookup a = some { cls := .type "list", data := .seq its.toArray n } ∧ xs.length ≤ sizeLine ∧ Vals xs its
/-- a list that stays as it is -/
def Ls (K : PySem.W.Frag) (H : Hp) (a : Addr) (xs : List V) : Prop := Rd H a (.lst xs) ∨ LsK K a xs
theorem Ls.of {K : PySem.W.Frag} {H : Hp} {a : Addr} {xs : List V} (h : H a = some (.lst xs)) : Ls K H a xs := .inl (.of h)
theorem Ls.sq {K : PySem.W.Frag} {H : Hp} {a : Addr} {xs : List V} (h : Ls K H a xs) : SqL K H a xs := by
  rcases h with h | ⟨its, n, h, hz, r⟩
  · exact .inl h
  · exact .inr ⟨_, its.toArray, n, h, rfl, rfl, rfl, by rw [List.size_toArray, ← r.length]; exact hz, by simpa using r⟩
theorem Ls.ob {X : Cx} {pins : List (Addr × Obj)} {σ : L2.St} {H : Hp} {s : Shared} {a : Addr} {xs : List V} (h : Ls X.K H a xs) (I : Inv X pins σ H s) : xs.length ≤ sizeLine ∧ ∃ (its : List Value) (n : Nat), Vals xs its ∧ s.heap.get? a = some { cls := .type "list", data := .seq its.toArray n } := by
  rcases h with h | ⟨its, n, h, hz, r⟩
  · obtain ⟨z, its, n, r, e⟩ := h.ok I.hok
    exact ⟨z, its, n, r, e⟩
  · exact ⟨hz, its, n, r, I.kIn a _ h⟩

/-! ### data in the abstract heap -/
mutual
inductive Dq (K : PySem.W.Frag) (H : Hp) : V → PyData → Prop
  | non : Dq K H .non .none
  | bl (b : Bool) : Dq K H (.bl b) (.bool b)
  | int (i : Int) : Dq K H (.int i) (.int i)
  | str (x : Str) : Dq K H (.str x) (.str x)
  | lst {a : Addr} {xs : List V} {ds : List PyData} : Ls K H a xs → DqAll K H xs ds → Dq K H (.ref a) (.list ds)
  | tup {a : Addr} {xs : List V} {ds : List PyData} : SqT K H a xs → DqAll K H xs ds → Dq K H (.ref a) (.tuple ds)
  | dic {a : Addr} : H a = some (.dK []) → Dq K H (.ref a) (.dict [])
inductive DqAll (K : PySem.W.Frag) (H : Hp) : List V → List PyData → Prop
  | nil : DqAll K H [] []
  | cons {v : V} {vs : List V} {d : PyData} {ds : List PyData} : Dq K H v d → DqAll K H vs ds → DqAll K H (v :: vs) (d :: ds)
end

theorem sameR {H H' : Hp} {a : Addr} {u : HO} (e : Same H H') (h : Rd H a u) : Rd H' a u := by
  rcases h with h | ⟨o, h⟩
  · exact .inl (e _ _ h)
  · exact .inr ⟨o, e _ _ h⟩
theorem sameL {K : PySem.W.Frag} {H H' : Hp} {a : Addr} {xs : List V} (e : Same H H') (h : Ls K H a xs) : Ls K H' a xs := h.elim (fun z => .inl (sameR e z)) .inr
theorem sameT {K : PySem.W.Frag} {H H' : Hp} {a : Addr} {xs : List V} (e : Same H H') (h : SqT K H a xs) : SqT K H' a xs := by
  rcases h with (h | ⟨o, h⟩) | h
  · exact .inl (.inl (e _ _ h))
  · exact .inl (.inr ⟨o, e _ _ h⟩)
  · exact .inr h
section
variable {K : PySem.W.Frag} {H H' : Hp}
mutual
theorem Dq.mono (e : Same H H') : ∀ {v : V} {d : PyData}, Dq K H v d → Dq K H' v d
  | _, _, .non => .non
  | _, _, .bl b => .bl b
  | _, _, .int i => .int i
  | _, _, .str x => .str x
  | _, _, .lst h hs => .lst (sameL e h) (hs.mono e)
  | _, _, .tup h hs => .tup (sameT e h) (hs.mono e)
  | _, _, .dic h => .dic (e _ _ h)
theorem DqAll.mono (e : Same H H') : ∀ {vs : List V} {ds : List PyData}, DqAll K H vs ds → DqAll K H' vs ds
  | _, _, .nil => .nil
  | _, _, .cons h hs => .cons (h.mono e) (hs.mono e)
end
theorem DqAll.length : ∀ {vs : List V} {ds : List PyData}, DqAll K H vs ds → vs.length = ds.length
  | _, _, .nil => rfl
  | _, _, .cons _ h => congrArg Nat.succ (DqAll.length h)
theorem DqAll.get : ∀ {vs : List V} {ds : List PyData} {i : Nat} {d : PyData}, DqAll K H vs ds → ds[i]? = some d → ∃ v, vs[i]? = some v ∧ Dq K H v d
  | _, _, _, _, .nil, e => by simp at e
  | _, _, 0, _, .cons r _, e => by
    simp at e
    subst e
    exact ⟨_, rfl, r⟩
  | _, _, i + 1, x, .cons _ t, e => by
    obtain ⟨u, h1, h2⟩ := DqAll.get (i := i) (d := x) t (by simpa using e)
    exact ⟨u, by simpa using h1, h2⟩
theorem DqAll.getV : ∀ {vs : List V} {ds : List PyData} {i : Nat} {v : V}, DqAll K H vs ds → vs[i]? = some v → ∃ d, ds[i]? = some d ∧ Dq K H v d
  | _, _, _, _, .nil, e => by simp at e
  | _, _, 0, _, .cons r _, e => by
    simp at e
    subst e
    exact ⟨_, rfl, r⟩
  | _, _, i + 1, x, .cons _ t, e => by
    obtain ⟨u, h1, h2⟩ := DqAll.getV (i := i) (v := x) t (by simpa using e)
    exact ⟨u, by simpa using h1, h2⟩
theorem DqAll.append : ∀ {vs ws : List V} {ds es : List PyData}, DqAll K H vs ds → DqAll K H ws es → DqAll K H (vs ++ ws) (ds ++ es)
  | _, _, _, _, .nil, s => s
  | _, _, _, _, .cons r t, s => .cons r (DqAll.append t s)
theorem DqAll.take : ∀ {vs : List V} {ds : List PyData} (n : Nat), DqAll K H vs ds → DqAll K H (vs.take n) (ds.take n)
  | _, _, 0, _ => .nil
  | _, _, _ + 1, .nil => .nil
  | _, _, n + 1, .cons r t => .cons r (DqAll.take n t)
theorem DqAll.drop : ∀ {vs : List V} {ds : List PyData} (n : Nat), DqAll K H vs ds → DqAll K H (vs.drop n) (ds.drop n)
  | _, _, 0, r => r
  | _, _, _ + 1, .nil => .nil
  | _, _, n + 1, .cons _ t => DqAll.drop n t
theorem DqAll.set {v : V} {d : PyData} (r : Dq K H v d) : ∀ {vs : List V} {ds : List PyData} (i : Nat), DqAll K H vs ds → DqAll K H (vs.set i v) (ds.set i d)
  | _, _, _, .nil => .nil
  | _, _, 0, .cons _ t => .cons r t
  | _, _, i + 1, .cons q t => .cons q (DqAll.set r i t)
theorem DqAll.dropLast {vs : List V} {ds : List PyData} (h : DqAll K H vs ds) : DqAll K H vs.dropLast ds.dropLast := by
  rw [List.dropLast_eq_take, List.dropLast_eq_take, h.length]
  exact h.take _
theorem DqAll.reverse : ∀ {vs : List V} {ds : List PyData}, DqAll K H vs ds → DqAll K H vs.reverse ds.reverse
  | _, _, .nil => .nil
  | _, _, .cons r t => by
    rw [List.reverse_cons, List.reverse_cons]
    exact (DqAll.reverse t).append (.cons r .nil)
theorem DqAll.replicate {v : V} {d : PyData} (r : Dq K H v d) : ∀ n : Nat, DqAll K H (List.replicate n v) (List.replicate n d)
  | 0 => .nil
  | n + 1 => .cons r (DqAll.replicate r n)
theorem DqAll.flat {vs : List V} {ds : List PyData} (h : DqAll K H vs ds) : ∀ n : Nat, DqAll K H (List.replicate n vs).flatten (List.replicate n ds).flatten
  | 0 => .nil
  | n + 1 => by
    rw [List.replicate_succ, List.replicate_succ, List.flatten_cons, List.flatten_cons]
    exact h.append (DqAll.flat h n)
theorem DqAll.ints : ∀ {vs : List V} {ns : List Int}, DqAll K H vs (ns.map PyData.int) → vs = ns.map V.int
  | _, [], h => by
    cases h
    rfl
  | _, n :: ns, h => by
    cases h with
    | cons r t =>
      cases r
      rw [DqAll.ints t]
      rfl
theorem DqAll.bools : ∀ {vs : List V} {ns : List Bool}, DqAll K H vs (ns.map PyData.bool) → vs = ns.map V.bl
  | _, [], h => by
    cases h
    rfl
  | _, n :: ns, h => by
    cases h with
    | cons r t =>
      cases r
      rw [DqAll.bools t]
      rfl
theorem DqAll.strs : ∀ {vs : List V} {ns : List Str}, DqAll K H vs (ns.map PyData.str) → vs = ns.map V.str
  | _, [], h => by
    cases h
    rfl
  | _, n :: ns, h => by
    cases h with
    | cons r t =>
      cases r
      rw [DqAll.strs t]
      rfl
end

theorem Paired.app {β γ : Type} {R : β → γ → Prop} : ∀ {l l2 : List β} {m m2 : List γ}, Paired R l m → Paired R l2 m2 → Paired R (l ++ l2) (m ++ m2)
  | _, _, _, _, .nil, h => h
  | _, _, _, _, .cons r t, h => .cons r (Paired.app t h)
theorem Paired.at_ {β γ : Type} {R : β → γ → Prop} : ∀ {l : List β} {m : List γ} {i : Nat}, Paired R l m → i < l.length → ∃ b c, l[i]? = some b ∧ m[i]? = some c ∧ R b c
  | _, _, i, .nil, h => absurd h (Nat.not_lt_zero _)
  | _, _, 0, .cons r t, _ => ⟨_, _, rfl, rfl, r⟩
  | _, _, i + 1, .cons r t, h => by
    obtain ⟨b, c, h1, h2, h3⟩ := Paired.at_ t (Nat.lt_of_succ_lt_succ h)
    exact ⟨b, c, by simpa using h1, by simpa using h2, h3⟩

/-! ### values, stores, outcomes -/
inductive Wv where
  | d (x : PyData)
  | r (k : Nat)
  /-- a tuple that a display has made, known to its object -/
  | t (xs : List PyData)
abbrev Cell := List PyData
abbrev Mu := List (Option Cell)
abbrev Rho := List (Option Wv)
inductive Out (α : Type) where
  | ok (a : α) (μ : Mu)
  | err (x : Str) (ws : List Wv) (μ : Mu)
  | bad
def Out.bind {α β : Type} (o : Out α) (k : α → Mu → Out β) : Out β :=
  match o with
  | .ok a μ => k a μ
  | .err x ws μ => .err x ws μ
  | .bad => .bad
@[simp] theorem Out.bind_ok {α β : Type} (a : α) (μ : Mu) (k : α → Mu → Out β) : (Out.ok a μ).bind k = k a μ := rfl
@[simp] theorem Out.bind_err {α β : Type} (x : Str) (ws : List Wv) (μ : Mu) (k : α → Mu → Out β) : (Out.err x ws μ).bind k = .err x ws μ := rfl
@[simp] theorem Out.bind_bad {α β : Type} (k : α → Mu → Out β) : (Out.bad : Out α).bind k = .bad := rfl

/-- a value: data frozen in F, or the address of a cell -/
def Rw (K : PySem.W.Frag) (α : List Addr) (F : Hp) : V → Wv → Prop
  | v, .d x => Dq K F v x
  | v, .r k => ∃ a, α[k]? = some a ∧ v = .ref a
  | v, .t ds => ∃ a o vs, v = .ref a ∧ F a = some (.frz o (.tup vs)) ∧ o.cls = .type "tuple" ∧ o.dict = none ∧ DqAll K F vs ds
abbrev Rws (K : PySem.W.Frag) (α : List Addr) (F : Hp) : List V → List Wv → Prop := Paired (Rw K α F)
/-- the slots -/
structure RepE (K : PySem.W.Frag) (α : List Addr) (F : Hp) (ρ : Rho) (σ : St) : Prop where
  len : ρ.length = σ.length
  at_ : ∀ (i : Nat) (w : Wv), ρ[i]? = some (some w) → ∃ v, σ[i]? = some (some v) ∧ Rw K α F v w
/-- the store: F is what is frozen, α the cells' addresses -/
structure Rep (K : PySem.W.Frag) (α : List Addr) (F : Hp) (μ : Mu) (H : Hp) : Prop where
  len : μ.length = α.length
  sub : Same F H
  cell : ∀ (k : Nat) (c : Cell), μ[k]? = some (some c) → ∃ a vs, α[k]? = some a ∧ H a = some (.lst vs) ∧ F a = none ∧ DqAll K F vs c
  inj : ∀ (i j : Nat) (a : Addr) (c c' : Cell), μ[i]? = some (some c) → μ[j]? = some (some c') → α[i]? = some a → α[j]? = some a → i = j
  had : ∀ a ∈ α, H a ≠ none
structure Ext (α : List Addr) (F H : Hp) (α' : List Addr) (F' H' : Hp) : Prop where
  pre : ∃ β, α' = α ++ β
  fro : Same F F'
  frame : ∀ a o, H a = some o → a ∉ α → H' a = some o
  keep : ∀ a, H a ≠ none → H' a ≠ none
  newF : ∀ a, F' a ≠ none → F a ≠ none ∨ H a = none ∨ a ∈ α
  newA : ∀ a ∈ α', a ∈ α ∨ H a = none
section
variable {K : PySem.W.Frag} {α α' α'' : List Addr} {F F' F'' H H' H'' : Hp} {μ μ' : Mu}
theorem Ext.refl : Ext α F H α F H := ⟨⟨[], by simp⟩, Same.refl _, fun _ _ h _ => h, fun _ h => h, fun _ h => .inl h, fun _ h => .inl h⟩
theorem Ext.mem (e : Ext α F H α' F' H') {a : Addr} (h : a ∈ α) : a ∈ α' := by
  obtain ⟨β, rfl⟩ := e.pre
  exact List.mem_append_left _ h
theorem Ext.trans (e : Ext α F H α' F' H') (e' : Ext α' F' H' α'' F'' H'') : Ext α F H α'' F'' H'' where
  pre := by
    obtain ⟨β, rfl⟩ := e.pre
    obtain ⟨γ, rfl⟩ := e'.pre
    exact ⟨β ++ γ, by simp⟩
  fro := e.fro.trans e'.fro
  frame := fun a o h n => e'.frame a o (e.frame a o h n) fun m => by
    rcases e.newA a m with q | q
    · exact n q
    · rw [h] at q; cases q
  keep := fun a h => e'.keep a (e.keep a h)
  newF := fun a h => by
    rcases e'.newF a h with q | q | q
    · exact e.newF a q
    · by_cases z : H a = none
      · exact .inr (.inl z)
      · exact absurd q (e.keep a z)
    · rcases e.newA a q with q | q
      · exact .inr (.inr q)
      · exact .inr (.inl q)
  newA := fun a h => by
    rcases e'.newA a h with q | q
    · exact e.newA a q
    · by_cases z : H a = none
      · exact .inr z
      · exact absurd q (e.keep a z)
theorem Rw.ext {v : V} {w : Wv} (r : Rw K α F v w) (e : Ext α F H α' F' H') : Rw K α' F' v w := by
  cases w with
  | d x => exact Dq.mono e.fro r
  | r k =>
    obtain ⟨a, h, rfl⟩ := r
    obtain ⟨β, rfl⟩ := e.pre
    exact ⟨a, by rw [List.getElem?_append_left (List.getElem?_eq_some_iff.mp h).1]; exact h, rfl⟩
  | t ds =>
    obtain ⟨a, o, vs, rfl, h1, h2, h3, h4⟩ := r
    exact ⟨a, o, vs, rfl, e.fro _ _ h1, h2, h3, h4.mono e.fro⟩
theorem Rws.ext {vs : List V} {ws : List Wv} (r : Rws K α F vs ws) (e : Ext α F H α' F' H') : Rws K α' F' vs ws := Paired.mapP r fun _ _ q => q.ext e
theorem RepE.ext {ρ : Rho} {σ : St} (r : RepE K α F ρ σ) (e : Ext α F H α' F' H') : RepE K α' F' ρ σ :=
  ⟨r.len, fun i w h => let ⟨v, h1, h2⟩ := r.at_ i w h; ⟨v, h1, h2.ext e⟩⟩
theorem RepE.set {ρ : Rho} {σ : St} (r : RepE K α F ρ σ) {v : V} {w : Wv} (i : Nat) (q : Rw K α F v w) : RepE K α F (ρ.set i (some w)) (σ.set i (some v)) := by
  refine ⟨by rw [List.length_set, List.length_set]; exact r.len, fun j u h => ?_⟩
  by_cases hj : i = j
  · subst hj
    have hl : i < ρ.length := by
      have := (List.getElem?_eq_some_iff.mp h).1
      rwa [List.length_set] at this
    rw [List.getElem?_set_self hl] at h
    cases h
    exact ⟨v, List.getElem?_set_self (by rw [← r.len]; exact hl), q⟩
  · rw [List.getElem?_set_ne hj] at h
    rw [List.getElem?_set_ne hj]
    exact r.at_ j u h
/-- a new frozen object -/
theorem Rep.new {p : Addr} {o : HO} (r : Rep K α F μ H) (hp : H p = none) : Rep K α (upd F p o) μ (upd H p o) ∧ Ext α F H α (upd F p o) (upd H p o) := by
  have fp : F p = none := r.sub.free hp
  have sF : Same F (upd F p o) := fun b u h => by
    rw [upd_ne (ne_of_none h fp)]
    exact h
  have hn : p ∉ α := fun m => r.had p m hp
  refine ⟨⟨r.len, fun b u h => ?_, fun k c h => ?_, r.inj, fun a m => ?_⟩, ⟨⟨[], by simp⟩, sF, fun a u h _ => ?_, fun a h => ?_, fun a h => ?_, fun a h => .inl h⟩⟩
  · by_cases e : b = p
    · subst e
      rw [upd_same] at h ⊢
      exact h
    · rw [upd_ne e] at h ⊢
      exact r.sub _ _ h
  · obtain ⟨a, vs, h1, h2, h3, h4⟩ := r.cell k c h
    have ne : a ≠ p := ne_of_none h2 hp
    exact ⟨a, vs, h1, by rw [upd_ne ne]; exact h2, by rw [upd_ne ne]; exact h3, h4.mono sF⟩
  · have ne : a ≠ p := fun e => hn (by rw [← e]; exact m)
    rw [upd_ne ne]
    exact r.had a m
  · rw [upd_ne (ne_of_none h hp)]
    exact h
  · by_cases e : a = p
    · subst e
      rw [upd_same]
      exact fun z => nomatch z
    · rw [upd_ne e]
      exact h
  · by_cases e : a = p
    · subst e
      exact .inr (.inl hp)
    · rw [upd_ne e] at h
      exact .inl h
/-- an object laid by the side: not frozen, no cell -/
theorem Rep.side {p : Addr} {o : HO} (r : Rep K α F μ H) (hp : H p = none) : Rep K α F μ (upd H p o) ∧ Ext α F H α F (upd H p o) := by
  have hn : p ∉ α := fun m => r.had p m hp
  have sH : Same H (upd H p o) := fun b u h => by
    rw [upd_ne (ne_of_none h hp)]
    exact h
  refine ⟨⟨r.len, r.sub.trans sH, fun k c h => ?_, r.inj, fun a m => ?_⟩, ⟨⟨[], by simp⟩, Same.refl _, fun a u h _ => sH _ _ h, fun a h => ?_, fun a h => .inl h, fun a h => .inl h⟩⟩
  · obtain ⟨a, vs, h1, h2, h3, h4⟩ := r.cell k c h
    exact ⟨a, vs, h1, sH _ _ h2, h3, h4⟩
  · have ne : a ≠ p := fun e => hn (by rw [← e]; exact m)
    rw [upd_ne ne]
    exact r.had a m
  · by_cases e : a = p
    · subst e
      rw [upd_same]
      exact fun z => nomatch z
    · rw [upd_ne e]
      exact h
/-- a list by the side becomes frozen -/
theorem Rep.freezeSide {p : Addr} {o : HO} (r : Rep K α F μ H) (hp : H p = some o) (hf : F p = none) (hn : p ∉ α) : Rep K α (upd F p o) μ H := by
  have sF : Same F (upd F p o) := fun b u h => by
    rw [upd_ne (ne_of_none h hf)]
    exact h
  refine ⟨r.len, fun b u h => ?_, fun k c h => ?_, r.inj, r.had⟩
  · by_cases e : b = p
    · subst e
      rw [upd_same] at h
      cases h
      exact hp
    · rw [upd_ne e] at h
      exact r.sub _ _ h
  · obtain ⟨a, vs, h1, h2, h3, h4⟩ := r.cell k c h
    have ne : a ≠ p := fun e => hn (e ▸ List.mem_of_getElem? h1)
    exact ⟨a, vs, h1, h2, by rw [upd_ne ne]; exact h3, h4.mono sF⟩
/-- a list by the side becomes a cell -/
theorem Rep.cellSide {p : Addr} {vs : List V} {c : Cell} (r : Rep K α F μ H) (hp : H p = some (.lst vs)) (hf : F p = none) (hn : p ∉ α) (hc : DqAll K F vs c) : Rep K (α ++ [p]) F (μ ++ [some c]) H := by
  refine ⟨by simp [r.len], r.sub, fun k c' h => ?_, fun i j a c1 c2 h1 h2 h3 h4 => ?_, fun a m => ?_⟩
  · by_cases hk : k < μ.length
    · rw [List.getElem?_append_left hk] at h
      obtain ⟨a, ws, q1, q2⟩ := r.cell k c' h
      exact ⟨a, ws, by rw [List.getElem?_append_left (by rw [← r.len]; exact hk)]; exact q1, q2⟩
    · rw [List.getElem?_append_right (by omega)] at h
      have hk0 : k - μ.length = 0 := by
        by_cases z : k - μ.length = 0
        · exact z
        · rw [List.getElem?_eq_none (by simp; omega)] at h; cases h
      rw [hk0] at h
      simp at h
      subst h
      refine ⟨p, vs, ?_, hp, hf, hc⟩
      rw [List.getElem?_append_right (by rw [← r.len]; omega), ← r.len, hk0]
      rfl
  · have key : ∀ (i : Nat) (c1 : Cell), (μ ++ [some c])[i]? = some (some c1) → (α ++ [p])[i]? = some a → (i < μ.length ∧ μ[i]? = some (some c1) ∧ α[i]? = some a) ∨ (i = μ.length ∧ a = p) := fun i c1 h1 h3 => by
      by_cases hi : i < μ.length
      · rw [List.getElem?_append_left hi] at h1
        rw [List.getElem?_append_left (by rw [← r.len]; exact hi)] at h3
        exact .inl ⟨hi, h1, h3⟩
      · have hi0 : i = μ.length := by
          have := (List.getElem?_eq_some_iff.mp h1).1
          rw [List.length_append] at this
          simp at this
          omega
        subst hi0
        rw [r.len, List.getElem?_append_right (Nat.le_refl _), Nat.sub_self] at h3
        simp at h3
        exact .inr ⟨rfl, h3.symm⟩
    rcases key i c1 h1 h3 with ⟨_, a1, a2⟩ | ⟨rfl, a2⟩ <;> rcases key j c2 h2 h4 with ⟨_, b1, b2⟩ | ⟨rfl, b2⟩
    · exact r.inj i j a c1 c2 a1 b1 a2 b2
    · exact absurd (b2 ▸ List.mem_of_getElem? a2) hn
    · exact absurd (a2 ▸ List.mem_of_getElem? b2) hn
    · rfl
  · rcases List.mem_append.mp m with m | m
    · exact r.had a m
    · simp at m
      subst m
      rw [hp]
      exact fun z => nomatch z
end
end TL
/-! TL1: cells written, frozen, dropped; readings from semantic functions. -/
namespace TL
open PySem PySem.Spec L2
section
variable {K : PySem.W.Frag} {α α' α'' : List Addr} {F F' F'' H H' H'' : Hp} {μ μ' : Mu}
theorem Rep.write {k : Nat} {c c' : Cell} {a : Addr} {vs' : List V} (r : Rep K α F μ H) (hk : μ[k]? = some (some c)) (ha : α[k]? = some a) (h' : DqAll K F vs' c') :
    Rep K α F (μ.set k (some c')) (upd H a (.lst vs')) ∧ Ext α F H α F (upd H a (.lst vs')) := by
  obtain ⟨a0, vs, h1, h2, h3, h4⟩ := r.cell k c hk
  rw [ha] at h1
  cases h1
  have sF : Same F (upd H a (.lst vs')) := fun b u h => by
    rw [upd_ne (fun e => by rw [e, h3] at h; cases h)]
    exact r.sub _ _ h
  have hl : k < μ.length := (List.getElem?_eq_some_iff.mp hk).1
  have old : ∀ (i : Nat) (c1 : Cell), (μ.set k (some c'))[i]? = some (some c1) → ∃ c0, μ[i]? = some (some c0) := fun i c1 h => by
    by_cases hi : k = i
    · subst hi
      exact ⟨c, hk⟩
    · rw [List.getElem?_set_ne hi] at h
      exact ⟨c1, h⟩
  refine ⟨⟨by rw [List.length_set]; exact r.len, sF, fun i c1 h => ?_, fun i j b c1 c2 q1 q2 q3 q4 => ?_, fun b m => ?_⟩, ⟨⟨[], by simp⟩, Same.refl _, fun b u h n => ?_, fun b h => ?_, fun b h => .inl h, fun b h => .inl h⟩⟩
  · by_cases hi : k = i
    · subst hi
      rw [List.getElem?_set_self hl] at h
      cases h
      exact ⟨a, vs', ha, upd_same, h3, h'⟩
    · rw [List.getElem?_set_ne hi] at h
      obtain ⟨b, ws, g1, g2, g3, g4⟩ := r.cell i c1 h
      have ne : b ≠ a := fun e => hi (r.inj k i a c c1 hk h ha (by rw [← e]; exact g1))
      exact ⟨b, ws, g1, by rw [upd_ne ne]; exact g2, g3, g4⟩
  · obtain ⟨d1, e1⟩ := old i c1 q1
    obtain ⟨d2, e2⟩ := old j c2 q2
    exact r.inj i j b d1 d2 e1 e2 q3 q4
  · by_cases e : b = a
    · rw [e, upd_same]
      exact fun z => nomatch z
    · rw [upd_ne e]
      exact r.had b m
  · have ne : b ≠ a := fun e => n (by rw [e]; exact List.mem_of_getElem? ha)
    rw [upd_ne ne]
    exact h
  · by_cases e : b = a
    · rw [e, upd_same]
      exact fun z => nomatch z
    · rw [upd_ne e]
      exact h
theorem Rep.freeze {k : Nat} {c : Cell} (r : Rep K α F μ H) (hk : μ[k]? = some (some c)) :
    ∃ F', Rep K α F' (μ.set k none) H ∧ Ext α F H α F' H ∧ ∀ v, Rw K α F v (.r k) → Dq K F' v (.list c) := by
  obtain ⟨a, vs, h1, h2, h3, h4⟩ := r.cell k c hk
  have hl : k < μ.length := (List.getElem?_eq_some_iff.mp hk).1
  have sF : Same F (upd F a (.lst vs)) := fun b u h => by
    rw [upd_ne (ne_of_none h h3)]
    exact h
  have ham : a ∈ α := List.mem_of_getElem? h1
  refine ⟨upd F a (.lst vs), ⟨by rw [List.length_set]; exact r.len, fun b u h => ?_, fun i c1 h => ?_, fun i j b c1 c2 q1 q2 q3 q4 => ?_, r.had⟩, ⟨⟨[], by simp⟩, sF, fun b u h n => h, fun b h => h, fun b h => ?_, fun b h => .inl h⟩, fun v q => ?_⟩
  · by_cases e : b = a
    · subst e
      rw [upd_same] at h
      cases h
      exact h2
    · rw [upd_ne e] at h
      exact r.sub _ _ h
  · by_cases hi : k = i
    · subst hi
      rw [List.getElem?_set_self hl] at h
      cases h
    · rw [List.getElem?_set_ne hi] at h
      obtain ⟨b, ws, g1, g2, g3, g4⟩ := r.cell i c1 h
      have ne : b ≠ a := fun e => hi (r.inj k i a c c1 hk h h1 (by rw [← e]; exact g1))
      exact ⟨b, ws, g1, g2, by rw [upd_ne ne]; exact g3, g4.mono sF⟩
  · have old : ∀ (i : Nat) (c1 : Cell), (μ.set k none)[i]? = some (some c1) → μ[i]? = some (some c1) := fun i c1 h => by
      by_cases hi : k = i
      · subst hi
        rw [List.getElem?_set_self hl] at h
        cases h
      · rw [List.getElem?_set_ne hi] at h
        exact h
    exact r.inj i j b c1 c2 (old _ _ q1) (old _ _ q2) q3 q4
  · by_cases e : b = a
    · rw [e]
      exact .inr (.inr ham)
    · rw [upd_ne e] at h
      exact .inl h
  · obtain ⟨b, g1, rfl⟩ := q
    rw [h1] at g1
    cases g1
    exact .lst (.of upd_same) (h4.mono sF)
/-- behind a call: the callee's cells forgotten -/
theorem Rep.drop {n : Nat} (e : Ext α F H α' F' H') (hn : n = α.length) (r : Rep K α' F' μ' H') : Rep K α F' (μ'.take n) H' ∧ Ext α F H α F' H' := by
  subst hn
  obtain ⟨β, rfl⟩ := e.pre
  have at_ : ∀ (k : Nat) (c : Cell), (μ'.take α.length)[k]? = some (some c) → k < α.length ∧ μ'[k]? = some (some c) := fun k c h => by
    rw [List.getElem?_take] at h
    split at h
    · exact ⟨by assumption, h⟩
    · cases h
  have al : ∀ (k : Nat), k < α.length → (α ++ β)[k]? = α[k]? := fun k h => List.getElem?_append_left h
  refine ⟨⟨?_, r.sub, fun k c h => ?_, fun i j a c1 c2 q1 q2 q3 q4 => ?_, fun a m => r.had a (List.mem_append_left _ m)⟩, ⟨⟨[], by simp⟩, e.fro, e.frame, e.keep, e.newF, fun a h => .inl h⟩⟩
  · rw [List.length_take, r.len, List.length_append]
    omega
  · obtain ⟨hk, h⟩ := at_ k c h
    obtain ⟨a, vs, g1, g2, g3, g4⟩ := r.cell k c h
    rw [al k hk] at g1
    exact ⟨a, vs, g1, g2, g3, g4⟩
  · obtain ⟨l1, q1⟩ := at_ i c1 q1
    obtain ⟨l2, q2⟩ := at_ j c2 q2
    exact r.inj i j a c1 c2 q1 q2 (by rw [al i l1]; exact q3) (by rw [al j l2]; exact q4)
/-- .. all but one, that is handed back -/
theorem Rep.drop1 {n k : Nat} {c : Cell} (e : Ext α F H α' F' H') (hn : n = α.length) (r : Rep K α' F' μ' H') (hk : n ≤ k) (hc : μ'[k]? = some (some c)) :
    ∃ a, α'[k]? = some a ∧ Rep K (α ++ [a]) F' (μ'.take n ++ [some c]) H' ∧ Ext α F H (α ++ [a]) F' H' := by
  obtain ⟨a, vs, g1, g2, g3, g4⟩ := r.cell k c hc
  obtain ⟨r', e'⟩ := r.drop e hn
  subst hn
  have na : a ∈ α ∨ H a = none := e.newA a (List.mem_of_getElem? g1)
  obtain ⟨β, rfl⟩ := e.pre
  have kl : k < (α ++ β).length := (List.getElem?_eq_some_iff.mp g1).1
  have ml : (μ'.take α.length).length = α.length := r'.len
  have at_ : ∀ (i : Nat) (c1 : Cell) (b : Addr), (μ'.take α.length ++ [some c])[i]? = some (some c1) → (α ++ [a])[i]? = some b → (i < α.length ∧ (μ'.take α.length)[i]? = some (some c1) ∧ α[i]? = some b) ∨ (i = α.length ∧ c1 = c ∧ b = a) := fun i c1 b h1 h3 => by
    by_cases hi : i < α.length
    · rw [List.getElem?_append_left (by omega)] at h1
      rw [List.getElem?_append_left hi] at h3
      exact .inl ⟨hi, h1, h3⟩
    · have hi0 : i = α.length := by
        have := (List.getElem?_eq_some_iff.mp h1).1
        rw [List.length_append, ml] at this
        simp at this
        omega
      subst hi0
      rw [List.getElem?_append_right (Nat.le_refl _), Nat.sub_self] at h3
      rw [List.getElem?_append_right (by omega), ml, Nat.sub_self] at h1
      simp at h1 h3
      exact .inr ⟨rfl, h1.symm, h3.symm⟩
  have far : ∀ (i : Nat) (c1 : Cell), i < α.length → (μ'.take α.length)[i]? = some (some c1) → α[i]? = some a → False := fun i c1 hi q1 q2 => by
    rw [List.getElem?_take, if_pos hi] at q1
    have := r.inj k i a c c1 hc q1 g1 (by rw [List.getElem?_append_left hi]; exact q2)
    omega
  refine ⟨a, g1, ⟨by simp [ml], r.sub, fun i c1 h => ?_, fun i j b c1 c2 q1 q2 q3 q4 => ?_, fun b m => ?_⟩, ⟨⟨[a], rfl⟩, e'.fro, e'.frame, e'.keep, e'.newF, fun b m => ?_⟩⟩
  · have hb : i < (α ++ [a]).length := by
      have := (List.getElem?_eq_some_iff.mp h).1
      rw [List.length_append, ml] at this
      simpa using this
    obtain ⟨b, hb⟩ : ∃ b, (α ++ [a])[i]? = some b := ⟨_, List.getElem?_eq_getElem hb⟩
    rcases at_ i c1 b h hb with ⟨hi, q1, q2⟩ | ⟨rfl, rfl, rfl⟩
    · obtain ⟨b', ws, z1, z2, z3, z4⟩ := r'.cell i c1 q1
      rw [q2] at z1
      cases z1
      exact ⟨b, ws, hb, z2, z3, z4⟩
    · exact ⟨b, vs, hb, g2, g3, g4⟩
  · rcases at_ i c1 b q1 q3 with ⟨hi, a1, a2⟩ | ⟨rfl, rfl, rfl⟩ <;> rcases at_ j c2 b q2 q4 with ⟨hj, b1, b2⟩ | ⟨rfl, rfl, z⟩
    · exact r'.inj i j b c1 c2 a1 b1 a2 b2
    · subst z
      exact (far i c1 hi a1 a2).elim
    · exact (far j c2 hj b1 b2).elim
    · rfl
  · rcases List.mem_append.mp m with m | m
    · exact r'.had b m
    · simp at m
      rw [m, g2]
      exact fun z => nomatch z
  · rcases List.mem_append.mp m with m | m
    · exact .inl m
    · simp at m
      subst m
      exact na
end

/-! ### what is wanted behind a computation -/
def gp (K : PySem.W.Frag) (mg : Str → Option Value) {γ : Type} (α : List Addr) (F H : Hp) (o : Out γ) (G : γ → Mu → List Addr → Hp → Hp → Prop) (X : XK) : Prop :=
  match o with
  | .ok c μ' => ∀ α' F' H', Ext α F H α' F' H' → Rep K α' F' μ' H' → G c μ' α' F' H'
  | .err x ws μ' => ∀ α' F' H' C d fs, Ext α F H α' F' H' → Rep K α' F' μ' H' → mg x = some (.ref C) → H' d = some (.xd fs) → Rws K α' F' (fs.map (·.2)) ws → X (.ref C) (some d) H'
  | .bad => False
section
variable {K : PySem.W.Frag} {mg : Str → Option Value} {γ δ : Type} {α α' : List Addr} {F F' H H' : Hp} {o : Out γ} {G G' : γ → Mu → List Addr → Hp → Hp → Prop} {X : XK}
theorem gp.mono (h : gp K mg α F H o G X) (hG : ∀ c μ' α' F' H', Ext α F H α' F' H' → Rep K α' F' μ' H' → G c μ' α' F' H' → G' c μ' α' F' H') : gp K mg α F H o G' X := by
  cases o with
  | ok c μ' => exact fun α' F' H' e r => hG _ _ _ _ _ e r (h α' F' H' e r)
  | err x ws μ' => exact h
  | bad => exact h
theorem gp.base (h : gp K mg α F H o G X) (e : Ext α F H α' F' H') : gp K mg α' F' H' o G X := by
  cases o with
  | ok c μ' => exact fun α1 F1 H1 e1 r => h _ _ _ (e.trans e1) r
  | err x ws μ' => exact fun α1 F1 H1 C d fs e1 r => h _ _ _ C d fs (e.trans e1) r
  | bad => exact h
theorem gp.bind {k : γ → Mu → Out δ} {G : δ → Mu → List Addr → Hp → Hp → Prop} (h : gp K mg α F H (o.bind k) G X) :
    gp K mg α F H o (fun c μ' α' F' H' => gp K mg α' F' H' (k c μ') G X) X := by
  cases o with
  | ok c μ' => exact fun α' F' H' e r => gp.base (o := k c μ') h e
  | err x ws μ' => exact h
  | bad => exact h
theorem gp.unbind {k : γ → Mu → Out δ} {G : δ → Mu → List Addr → Hp → Hp → Prop} {μ : Mu} (r : Rep K α F μ H) {c : γ} (ho : o = .ok c μ) (h : gp K mg α F H (o.bind k) G X) : gp K mg α F H (k c μ) G X := by
  subst ho
  exact h
theorem gp.now {c : γ} {μ : Mu} (h : gp K mg α F H (.ok c μ) G X) (r : Rep K α F μ H) : G c μ α F H := h _ _ _ .refl r
theorem gp.at {c : γ} {μ : Mu} (h : gp K mg α F H (.ok c μ) G X) (e : Ext α F H α' F' H') (r : Rep K α' F' μ H') : G c μ α' F' H' := h _ _ _ e r
end
end TL
/-! TL2: readings from semantic functions; the structural rules. -/
namespace TL
open PySem PySem.Spec L2

abbrev Ev := Rho → Mu → Out Wv
abbrev Bv := Rho → Mu → Out Bool
abbrev Av := Rho → Mu → Out (List Wv)
abbrev Lv := Rho → Mu → Out Cell
inductive Fl where
  | nx (ρ : Rho)
  | rt (w : Wv)
  | bk (ρ : Rho)
  | ct (ρ : Rho)
  | er (x : Str) (ws : List Wv) (ρ : Rho)
abbrev Sv := Rho → Mu → Out Fl
/-- a target: the value stored -/
abbrev Gv := Wv → Rho → Mu → Out Rho

/-- what is wanted of a value, of a list just made -/
abbrev Gw (K : PySem.W.Frag) (Q : VK) : Wv → Mu → List Addr → Hp → Hp → Prop := fun w _ α' F' H' => ∀ v, Rw K α' F' v w → Q v H'
abbrev Gl' (K : PySem.W.Frag) (H : Hp) (Q : VK) : Cell → Mu → List Addr → Hp → Hp → Prop := fun c _ α' F' H' => ∀ (D : Addr) (vs : List V), H D = none → H' D = some (.lst vs) → F' D = none → D ∉ α' → DqAll K F' vs c → Q (.ref D) H'

section
variable (K : PySem.W.Frag) (mg : Str → Option Value) (W : WX)
def tE (f : Ev) : TE := fun σ H Q => ∃ ρ μ α F, Rep K α F μ H ∧ RepE K α F ρ σ ∧ gp K mg α F H (f ρ μ) (Gw K Q) (fun c d H' => W c d σ H')
def tT (f : Bv) : TT := fun σ H Q => ∃ ρ μ α F, Rep K α F μ H ∧ RepE K α F ρ σ ∧ gp K mg α F H (f ρ μ) (fun b _ _ _ H' => Q b H') (fun c d H' => W c d σ H')
def tA (f : Av) : TA := fun σ H Q => ∃ ρ μ α F, Rep K α F μ H ∧ RepE K α F ρ σ ∧ gp K mg α F H (f ρ μ) (fun ws _ α' F' H' => ∀ vs, Rws K α' F' vs ws → Q vs H') (fun c d H' => W c d σ H')
def tL (f : Lv) : TE := fun σ H Q => ∃ ρ μ α F, Rep K α F μ H ∧ RepE K α F ρ σ ∧ gp K mg α F H (f ρ μ) (Gl' K H Q) (fun c d H' => W c d σ H')
def GS (D : Ends) : Fl → Mu → List Addr → Hp → Hp → Prop := fun fl μ' α' F' H' =>
  match fl with
  | .nx ρ' => ∀ σ', RepE K α' F' ρ' σ' → D.nx σ' H'
  | .bk ρ' => ∀ σ', RepE K α' F' ρ' σ' → D.bk σ' H'
  | .ct ρ' => ∀ σ', RepE K α' F' ρ' σ' → D.ct σ' H'
  | .rt w => ∀ v, Rw K α' F' v w → D.rt v H'
  | .er x ws ρ' => ∀ σ' C d fs, RepE K α' F' ρ' σ' → mg x = some (.ref C) → H' d = some (.xd fs) → Rws K α' F' (fs.map (·.2)) ws → W (.ref C) (some d) σ' H'
def tS (g : Sv) : TS := fun D σ H => ∃ ρ μ α F, Rep K α F μ H ∧ RepE K α F ρ σ ∧ gp K mg α F H (g ρ μ) (GS K mg W D) (fun _ _ _ => False)
def tG (t : Gv) : TG := fun v σ H Q => ∃ ρ μ α F w, Rep K α F μ H ∧ RepE K α F ρ σ ∧ Rw K α F v w ∧ gp K mg α F H (t w ρ μ) (fun ρ' _ α' F' H' => ∀ σ', RepE K α' F' ρ' σ' → Q σ' H') (fun _ _ _ => False)
end
abbrev SE (X : Cx) (W : WX) (e : Expr) (f : Ev) : Prop := PE X e (tE X.K X.mg W f)
abbrev ST (X : Cx) (W : WX) (e : Expr) (f : Bv) : Prop := PT X e (tT X.K X.mg W f)
abbrev SA (X : Cx) (W : WX) (es : List Expr) (f : Av) : Prop := PA X es (tA X.K X.mg W f)
abbrev SL (X : Cx) (W : WX) (e : Expr) (f : Lv) : Prop := PE X e (tL X.K X.mg W f)
abbrev SS (X : Cx) (W : WX) (st : Stmt) (g : Sv) : Prop := PS X st (tS X.K X.mg W g)
abbrev SSs (X : Cx) (W : WX) (st : List Stmt) (g : Sv) : Prop := PSs X st (tS X.K X.mg W g)
abbrev SG (X : Cx) (tg : Expr) (t : Gv) : Prop := PG X tg (tG X.K X.mg t)

theorem _root_.L2.PE.imp {X : Cx} {e : Expr} {t t' : TE} (h : PE X e t) (i : ∀ σ H Q, t' σ H Q → t σ H Q) : PE X e t' := ⟨fun pins s σ H Q I q => h.run pins s σ H Q I (i _ _ _ q)⟩
theorem _root_.L2.PT.imp {X : Cx} {e : Expr} {t t' : TT} (h : PT X e t) (i : ∀ σ H Q, t' σ H Q → t σ H Q) : PT X e t' := ⟨fun pins s σ H Q I q => h.run pins s σ H Q I (i _ _ _ q)⟩
theorem _root_.L2.PA.imp {X : Cx} {e : List Expr} {t t' : TA} (h : PA X e t) (i : ∀ σ H Q, t' σ H Q → t σ H Q) : PA X e t' := ⟨fun pos pins s σ H Q I q => h.run pos pins s σ H Q I (i _ _ _ q)⟩
theorem _root_.L2.PS.imp {X : Cx} {e : Stmt} {t t' : TS} (h : PS X e t) (i : ∀ D σ H, t' D σ H → t D σ H) : PS X e t' := ⟨fun pins s σ H D I q => h.run pins s σ H D I (i _ _ _ q)⟩
theorem _root_.L2.PSs.imp {X : Cx} {e : List Stmt} {t t' : TS} (h : PSs X e t) (i : ∀ D σ H, t' D σ H → t D σ H) : PSs X e t' := ⟨fun pins s σ H D I q => h.run pins s σ H D I (i _ _ _ q)⟩
theorem _root_.L2.PG.imp {X : Cx} {e : Expr} {t t' : TG} (h : PG X e t) (i : ∀ v σ H Q, t' v σ H Q → t v σ H Q) : PG X e t' := ⟨fun pins s σ H v u Q I r q => h.run pins s σ H v u Q I r (i _ _ _ _ q)⟩

theorem gp.bind0 {K : PySem.W.Frag} {mg : Str → Option Value} {γ δ : Type} {α : List Addr} {F H : Hp} {o : Out γ} {X : XK} {k : γ → Mu → Out δ} {G : δ → Mu → List Addr → Hp → Hp → Prop} (h : gp K mg α F H (o.bind k) G X) :
    gp K mg α F H o (fun c μ' _ _ _ => gp K mg α F H (k c μ') G X) X := by
  cases o with
  | ok c μ' => exact fun α' F' H' e r => h
  | err x ws μ' => exact h
  | bad => exact h

/-! ### what functions on values ask -/
/-- a result of an operation that raises nothing -/
def r1G (K : PySem.W.Frag) (mg : Str → Option Value) (g : Wv → Mu → Out Wv) : V → Hp → VK → Prop := fun x H Q => ∃ μ α F w, Rep K α F μ H ∧ Rw K α F x w ∧ gp K mg α F H (g w μ) (Gw K Q) (fun _ _ _ => False)
def r2G (K : PySem.W.Frag) (mg : Str → Option Value) (g : Wv → Wv → Mu → Out Wv) : R2 := fun x y H Q => ∃ μ α F w1 w2, Rep K α F μ H ∧ Rw K α F x w1 ∧ Rw K α F y w2 ∧ gp K mg α F H (g w1 w2 μ) (Gw K Q) (fun _ _ _ => False)
def rnG (K : PySem.W.Frag) (mg : Str → Option Value) (g : List Wv → Mu → Out Wv) : List V → Hp → VK → Prop := fun xs H Q => ∃ μ α F ws, Rep K α F μ H ∧ Rws K α F xs ws ∧ gp K mg α F H (g ws μ) (Gw K Q) (fun _ _ _ => False)
/-- raising turned into nothing promised -/
def calm {γ : Type} (o : Out γ) : Out γ := match o with
  | .ok c μ => .ok c μ
  | _ => .bad
theorem gp.calm {K : PySem.W.Frag} {mg : Str → Option Value} {γ : Type} {α : List Addr} {F H : Hp} {o : Out γ} {G : γ → Mu → List Addr → Hp → Hp → Prop} {X X' : XK} (h : gp K mg α F H (TL.calm o) G X) : gp K mg α F H o G X' := by
  cases o with
  | ok c μ' => exact h
  | err x ws μ' => exact h.elim
  | bad => exact h
theorem gp.none {K : PySem.W.Frag} {mg : Str → Option Value} {γ : Type} {α : List Addr} {F H : Hp} {o : Out γ} {G : γ → Mu → List Addr → Hp → Hp → Prop} {X : XK} (h : gp K mg α F H (TL.calm o) G X) : gp K mg α F H (TL.calm o) G (fun _ _ _ => False) := by
  cases o with
  | ok c μ' => exact h
  | err x ws μ' => exact h.elim
  | bad => exact h

/-! ### semantic combinators -/
def eVar (i : Nat) : Ev := fun ρ μ => match ρ[i]? with
  | some (some w) => .ok w μ
  | _ => .bad
def eK (x : PyData) : Ev := fun _ μ => .ok (.d x) μ
def e1 (g : Wv → Mu → Out Wv) (a : Ev) : Ev := fun ρ μ => (a ρ μ).bind fun w μ1 => calm (g w μ1)
def e2 (g : Wv → Wv → Mu → Out Wv) (a b : Ev) : Ev := fun ρ μ => (a ρ μ).bind fun w μ1 => (b ρ μ1).bind fun u μ2 => calm (g w u μ2)
def en (g : List Wv → Mu → Out Wv) (as : Av) : Ev := fun ρ μ => (as ρ μ).bind fun ws μ1 => calm (g ws μ1)
def eCall (g : List Wv → Mu → Out Wv) (as : Av) : Ev := fun ρ μ => (as ρ μ).bind g
def aNil : Av := fun _ μ => .ok [] μ
def aCons (a : Ev) (as : Av) : Av := fun ρ μ => (a ρ μ).bind fun w μ1 => (as ρ μ1).bind fun ws μ2 => .ok (w :: ws) μ2
/-- all are data -/
def allD : List Wv → Option (List PyData)
  | [] => some []
  | .d x :: r => (allD r).map (x :: ·)
  | .r _ :: _ => none
  | .t _ :: _ => none
def lDisp (as : Av) : Lv := fun ρ μ => (as ρ μ).bind fun ws μ1 => match allD ws with
  | some c => if c.length ≤ 16777216 then .ok c μ1 else .bad
  | none => .bad
def eTup (as : Av) : Ev := fun ρ μ => (lDisp as ρ μ).bind fun c μ1 => .ok (.d (.tuple c)) μ1
def eFrz (l : Lv) : Ev := fun ρ μ => (l ρ μ).bind fun c μ1 => .ok (.d (.list c)) μ1
def eNew (l : Lv) : Ev := fun ρ μ => (l ρ μ).bind fun c μ1 => .ok (.r μ1.length) (μ1 ++ [some c])
def wB (w : Wv) (μ : Mu) : Out Bool := match w with
  | .d (.bool b) => .ok b μ
  | _ => .bad
def tB' (a : Ev) : Bv := fun ρ μ => (a ρ μ).bind wB
def eB (a : Bv) : Ev := fun ρ μ => (a ρ μ).bind fun b μ1 => .ok (.d (.bool b)) μ1
def bNot (a : Bv) : Bv := fun ρ μ => (a ρ μ).bind fun b μ1 => .ok (!b) μ1
def bAnd (a b : Bv) : Bv := fun ρ μ => (a ρ μ).bind fun c μ1 => if c = true then b ρ μ1 else .ok false μ1
def bOr (a b : Bv) : Bv := fun ρ μ => (a ρ μ).bind fun c μ1 => if c = true then .ok true μ1 else b ρ μ1
def eAnd (a b : Ev) : Ev := fun ρ μ => (a ρ μ).bind fun w μ0 => (wB w μ0).bind fun c μ1 => if c = true then b ρ μ1 else .ok (.d (.bool false)) μ1
def eOr (a b : Ev) : Ev := fun ρ μ => (a ρ μ).bind fun w μ0 => (wB w μ0).bind fun c μ1 => if c = true then .ok (.d (.bool true)) μ1 else b ρ μ1
def eNot (a : Ev) : Ev := fun ρ μ => (a ρ μ).bind fun w μ0 => (wB w μ0).bind fun c μ1 => .ok (.d (.bool (!c))) μ1
def eIf (c : Bv) (a b : Ev) : Ev := fun ρ μ => (c ρ μ).bind fun c μ1 => if c = true then a ρ μ1 else b ρ μ1
def bIf (c : Bv) (a b : Bv) : Bv := fun ρ μ => (c ρ μ).bind fun c μ1 => if c = true then a ρ μ1 else b ρ μ1

theorem wB_ok {K : PySem.W.Frag} {mg : Str → Option Value} {α : List Addr} {F H : Hp} {w : Wv} {v : V} {μ : Mu} {G : Bool → Mu → List Addr → Hp → Hp → Prop} {X : XK} (h : gp K mg α F H (wB w μ) G X) (r : Rw K α F v w) : ∃ b, v = .bl b ∧ w = .d (.bool b) ∧ gp K mg α F H (.ok b μ) G X := by
  cases w with
  | r k => exact h.elim
  | t ds => exact h.elim
  | d x =>
    cases x with
    | bool b =>
      cases r
      exact ⟨b, rfl, rfl, h⟩
    | _ => exact h.elim

section
variable {X : Cx} {W : WX}
theorem se_var {i : Nat} {x : Str} {pos : Pos} (hN : X.N[i]? = some x) (hv : Vis X.env.scope x) (hd : (x == ("__debug__" : Str)) = false) (hcd : (x == ("__classdict__" : Str)) = false) : SE X W (.Name x pos) (eVar i) := by
  refine (pe_var hN hv hd hcd).imp fun σ H Q h => ?_
  obtain ⟨ρ, μ, α, F, r, re, q⟩ := h
  unfold eVar at q
  split at q
  · rename_i w e
    obtain ⟨v, h1, h2⟩ := re.at_ i w e
    exact ⟨v, h1, q.now r v h2⟩
  · exact q.elim
theorem se_int {i j pos} : SE X W (.Constant (.int i) j pos) (eK (.int i)) := pe_int.imp fun σ H Q ⟨_, _, _, _, r, _, q⟩ => q.now r _ (.int i)
theorem se_str {i j pos} : SE X W (.Constant (.str i) j pos) (eK (.str i)) := pe_str.imp fun σ H Q ⟨_, _, _, _, r, _, q⟩ => q.now r _ (.str i)
theorem se_bl {i j pos} : SE X W (.Constant (.bool i) j pos) (eK (.bool i)) := pe_bl.imp fun σ H Q ⟨_, _, _, _, r, _, q⟩ => q.now r _ (.bl i)
theorem se_non {j pos} : SE X W (.Constant .none j pos) (eK .none) := pe_non.imp fun σ H Q ⟨_, _, _, _, r, _, q⟩ => q.now r _ .non
/-- a constant of the module -/
theorem se_glob {x : Str} {v : V} {u : Value} {c : PyData} {pos : Pos} (hg : Gl X x) (hm : X.mg x = some u) (r : RelV v u) (hc : ∀ F, Dq X.K F v c) (hd : (x == ("__debug__" : Str)) = false) : SE X W (.Name x pos) (eK c) :=
  (pe_glob hg hm r hd).imp fun σ H Q ⟨_, _, _, _, r, _, q⟩ => q.now r _ (hc _)

/-! arguments -/
theorem sa_nil : SA X W [] aNil := pa_nil.imp fun σ H Q ⟨_, _, _, _, r, _, q⟩ => q.now r [] .nil
theorem sa_cons {e : Expr} {es : List Expr} {a : Ev} {as : Av} (ha : SE X W e a) (hr : SA X W es as) (hs : starEach (e :: es) X.env = (false, eval e X.env) :: starEach es X.env) : SA X W (e :: es) (aCons a as) := by
  refine (pa_cons ha hr hs).imp fun σ H Q ⟨ρ, μ, α, F, r, re, q⟩ => ?_
  refine ⟨ρ, μ, α, F, r, re, q.bind.mono fun w μ1 α1 F1 H1 x1 r1 q1 v rv => ?_⟩
  refine ⟨ρ, μ1, α1, F1, r1, re.ext x1, q1.bind.mono fun ws μ2 α2 F2 H2 x2 r2 q2 vs rvs => ?_⟩
  exact q2.now r2 (v :: vs) (.cons (rv.ext x2) rvs)

/-! operators on values -/
theorem se_op {a b : Expr} {op : Operator} {pos : Pos} {g : Wv → Wv → Mu → Out Wv} {fa fb : Ev} (ho : OpR X (binaryOp op) (r2G X.K X.mg g)) (ha : SE X W a fa) (hb : SE X W b fb) : SE X W (.BinOp a op b pos) (e2 g fa fb) := by
  refine (pe_op ho ha hb).imp fun σ H Q ⟨ρ, μ, α, F, r, re, q⟩ => ?_
  refine ⟨ρ, μ, α, F, r, re, q.bind.mono fun w μ1 α1 F1 H1 x1 r1 q1 v rv => ?_⟩
  refine ⟨ρ, μ1, α1, F1, r1, re.ext x1, q1.bind.mono fun u μ2 α2 F2 H2 x2 r2 q2 v' rv' => ?_⟩
  exact ⟨μ2, α2, F2, w, u, r2, rv.ext x2, rv', q2.calm⟩
theorem se_un {a : Expr} {op : UnaryOp} {pos : Pos} {g : Wv → Mu → Out Wv} {fa : Ev} (ho : UnR X (unaryOp op) (r1G X.K X.mg g)) (ha : SE X W a fa) : SE X W (.UnaryOp op a pos) (e1 g fa) := by
  refine (pe_un ho ha).imp fun σ H Q ⟨ρ, μ, α, F, r, re, q⟩ => ?_
  refine ⟨ρ, μ, α, F, r, re, q.bind.mono fun w μ1 α1 F1 H1 x1 r1 q1 v rv => ?_⟩
  exact ⟨μ1, α1, F1, w, r1, rv, q1.calm⟩
theorem se_cmp {a b : Expr} {op : CmpOp} {pos : Pos} {g : Wv → Wv → Mu → Out Wv} {fa fb : Ev} (ho : OpR X (compareOp op) (r2G X.K X.mg g)) (ha : SE X W a fa) (hb : SE X W b fb) (hm : behindInMarks op b = false) : SE X W (.Compare a [op] [b] pos) (e2 g fa fb) := by
  refine (pe_cmpR ho ha hb hm).imp fun σ H Q ⟨ρ, μ, α, F, r, re, q⟩ => ?_
  refine ⟨ρ, μ, α, F, r, re, q.bind.mono fun w μ1 α1 F1 H1 x1 r1 q1 v rv => ?_⟩
  refine ⟨ρ, μ1, α1, F1, r1, re.ext x1, q1.bind.mono fun u μ2 α2 F2 H2 x2 r2 q2 v' rv' => ?_⟩
  exact ⟨μ2, α2, F2, w, u, r2, rv.ext x2, rv', q2.calm⟩
theorem st_cmp {a b : Expr} {op : CmpOp} {pos : Pos} {g : Wv → Wv → Mu → Out Wv} {fa fb : Ev} (ho : OpR X (compareOp op) (r2G X.K X.mg g)) (ha : SE X W a fa) (hb : SE X W b fb) (hm : behindInMarks op b = false) : ST X W (.Compare a [op] [b] pos) (tB' (e2 g fa fb)) := by
  refine (pt_cmpR ho ha hb hm).imp fun σ H Q ⟨ρ, μ, α, F, r, re, q⟩ => ?_
  refine ⟨ρ, μ, α, F, r, re, q.bind.bind.mono fun w μ1 α1 F1 H1 x1 r1 q1 v rv => ?_⟩
  refine ⟨ρ, μ1, α1, F1, r1, re.ext x1, q1.bind.mono fun u μ2 α2 F2 H2 x2 r2 q2 v' rv' => ?_⟩
  refine ⟨μ2, α2, F2, w, u, r2, rv.ext x2, rv', q2.calm.mono fun z μ3 α3 F3 H3 x3 r3 q3 v3 rv3 => ?_⟩
  obtain ⟨c, rfl, rfl, q4⟩ := wB_ok q3 rv3
  exact ⟨c, rfl, q4.now r3⟩
theorem st_val {e : Expr} {f : Ev} (h : SE X W e f) (he : ∀ whole, isTrue e X.env whole = (do let v ← whole; standAt e.pos; holding [v] (truthy v))) : ST X W e (tB' f) := by
  refine (pt_val h he).imp fun σ H Q ⟨ρ, μ, α, F, r, re, q⟩ => ?_
  refine ⟨ρ, μ, α, F, r, re, q.bind.mono fun w μ1 α1 F1 H1 x1 r1 q1 v rv => ?_⟩
  obtain ⟨c, rfl, rfl, q2⟩ := wB_ok q1 rv
  exact ⟨c, rfl, q2.now r1⟩
theorem st_not {a : Expr} {pos : Pos} {f : Bv} (ha : ST X W a f) : ST X W (.UnaryOp .Not a pos) (bNot f) := by
  refine (pt_not ha).imp fun σ H Q ⟨ρ, μ, α, F, r, re, q⟩ => ?_
  exact ⟨ρ, μ, α, F, r, re, q.bind.mono fun w μ1 α1 F1 H1 x1 r1 q1 => q1.now r1⟩
abbrev SW (X : Cx) (W : WX) (e : Expr) (f : Bv) : Prop := PW X e (tT X.K X.mg W f)
theorem _root_.L2.PW.imp {X : Cx} {e : Expr} {t t' : TT} (h : PW X e t) (i : ∀ σ H Q, t' σ H Q → t σ H Q) : PW X e t' := ⟨fun wh pins s σ H Q I q => h.run wh pins s σ H Q I (i _ _ _ q)⟩
theorem sw_and {a b : Expr} {rest : List Expr} {pos : Pos} {f g : Bv} (ha : ST X W a f) (hb : SW X W (.BoolOp .And (b :: rest) pos) g) : SW X W (.BoolOp .And (a :: b :: rest) pos) (bAnd f g) := by
  refine (pw_and ha hb).imp fun σ H Q ⟨ρ, μ, α, F, r, re, q⟩ => ?_
  refine ⟨ρ, μ, α, F, r, re, q.bind.mono fun c μ1 α1 F1 H1 x1 r1 q1 => ?_⟩
  cases c with
  | true => exact ⟨ρ, μ1, α1, F1, r1, re.ext x1, q1⟩
  | false => exact q1.now r1
theorem sw_or {a b : Expr} {rest : List Expr} {pos : Pos} {f g : Bv} (ha : ST X W a f) (hb : SW X W (.BoolOp .Or (b :: rest) pos) g) : SW X W (.BoolOp .Or (a :: b :: rest) pos) (bOr f g) := by
  refine (pw_or ha hb).imp fun σ H Q ⟨ρ, μ, α, F, r, re, q⟩ => ?_
  refine ⟨ρ, μ, α, F, r, re, q.bind.mono fun c μ1 α1 F1 H1 x1 r1 q1 => ?_⟩
  cases c with
  | false => exact ⟨ρ, μ1, α1, F1, r1, re.ext x1, q1⟩
  | true => exact q1.now r1
theorem sw_and1 {a : Expr} {pos : Pos} {f : Bv} (ha : ST X W a f) : SW X W (.BoolOp .And [a] pos) f := pw_and1 ha
theorem sw_or1 {a : Expr} {pos : Pos} {f : Bv} (ha : ST X W a f) : SW X W (.BoolOp .Or [a] pos) f := pw_or1 ha
theorem se_and {a b : Expr} {rest : List Expr} {pos : Pos} {f g : Ev} (ha : SE X W a f) (hb : SE X W (.BoolOp .And (b :: rest) pos) g) : SE X W (.BoolOp .And (a :: b :: rest) pos) (eAnd f g) := by
  refine (pe_and ha hb).imp fun σ H Q ⟨ρ, μ, α, F, r, re, q⟩ => ?_
  refine ⟨ρ, μ, α, F, r, re, q.bind.mono fun w μ1 α1 F1 H1 x1 r1 q1 v rv => ?_⟩
  obtain ⟨c, rfl, rfl, q2⟩ := wB_ok q1.bind0 rv
  refine ⟨c, rfl, ?_⟩
  cases c with
  | true => exact ⟨ρ, μ1, α1, F1, r1, re.ext x1, q1⟩
  | false => exact gp.now (c := Wv.d (.bool false)) q1 r1 _ (.bl false)
theorem se_or {a b : Expr} {rest : List Expr} {pos : Pos} {f g : Ev} (ha : SE X W a f) (hb : SE X W (.BoolOp .Or (b :: rest) pos) g) : SE X W (.BoolOp .Or (a :: b :: rest) pos) (eOr f g) := by
  refine (pe_or ha hb).imp fun σ H Q ⟨ρ, μ, α, F, r, re, q⟩ => ?_
  refine ⟨ρ, μ, α, F, r, re, q.bind.mono fun w μ1 α1 F1 H1 x1 r1 q1 v rv => ?_⟩
  obtain ⟨c, rfl, rfl, q2⟩ := wB_ok q1.bind0 rv
  refine ⟨c, rfl, ?_⟩
  cases c with
  | false => exact ⟨ρ, μ1, α1, F1, r1, re.ext x1, q1⟩
  | true => exact gp.now (c := Wv.d (.bool true)) q1 r1 _ (.bl true)
theorem se_one {op} {a : Expr} {pos : Pos} {f : Ev} (h : SE X W a f) : SE X W (.BoolOp op [a] pos) f := pe_one h
theorem se_not {a : Expr} {pos : Pos} {f : Ev} (ha : SE X W a f) : SE X W (.UnaryOp .Not a pos) (eNot f) := by
  refine (pe_not ha).imp fun σ H Q ⟨ρ, μ, α, F, r, re, q⟩ => ?_
  refine ⟨ρ, μ, α, F, r, re, q.bind.mono fun w μ1 α1 F1 H1 x1 r1 q1 v rv => ?_⟩
  obtain ⟨c, rfl, rfl, q2⟩ := wB_ok q1.bind0 rv
  exact ⟨c, rfl, gp.now (c := Wv.d (.bool (!c))) q1 r1 _ (.bl _)⟩
theorem se_if {c a b : Expr} {pos : Pos} {fc : Bv} {fa fb : Ev} (hc : ST X W c fc) (ha : SE X W a fa) (hb : SE X W b fb) : SE X W (.IfExp c a b pos) (eIf fc fa fb) := by
  refine (pe_ifExp hc ha hb).imp fun σ H Q ⟨ρ, μ, α, F, r, re, q⟩ => ?_
  refine ⟨ρ, μ, α, F, r, re, q.bind.mono fun c μ1 α1 F1 H1 x1 r1 q1 => ?_⟩
  cases c with
  | true => exact ⟨ρ, μ1, α1, F1, r1, re.ext x1, q1⟩
  | false => exact ⟨ρ, μ1, α1, F1, r1, re.ext x1, q1⟩

/-! displays -/
theorem allD_ok {K : PySem.W.Frag} {α : List Addr} {F : Hp} : ∀ {ws : List Wv} {c : Cell} {vs : List V}, allD ws = some c → Rws K α F vs ws → DqAll K F vs c
  | [], c, _, h, r => by
    cases r
    cases h
    exact .nil
  | .d x :: ws, c, _, h, r => by
    cases r with
    | cons r1 r2 =>
      unfold allD at h
      cases e : allD ws with
      | none =>
        rw [e] at h
        cases h
      | some c' =>
        rw [e] at h
        cases h
        exact .cons r1 (allD_ok e r2)
  | .r k :: ws, c, _, h, r => by cases h
  | .t ds :: ws, c, _, h, r => by cases h
theorem le_line {n : Nat} (h : n ≤ 16777216) : n ≤ sizeLine := by
  rw [sizeLine_eq]
  exact h
theorem sl_disp {es : List Expr} {pos : Pos} {as : Av} (h : SA X W es as) : SL X W (.List es pos) (lDisp as) := by
  refine (pe_lst h).imp fun σ H Q ⟨ρ, μ, α, F, r, re, q⟩ => ?_
  refine ⟨ρ, μ, α, F, r, re, q.bind0.mono fun ws μ1 α1 F1 H1 x1 r1 q1 vs rvs => ?_⟩
  cases e : allD ws with
  | none =>
    rw [e] at q1
    exact q1.elim
  | some c =>
    rw [e] at q1
    have q1' : gp X.K X.mg α F H (if c.length ≤ 16777216 then .ok c μ1 else .bad) (Gl' X.K H Q) (fun c d H' => W c d σ H') := q1
    have dq := allD_ok e rvs
    split at q1'
    · rename_i hl
      refine ⟨by rw [dq.length]; exact le_line hl, fun p hp => ?_⟩
      obtain ⟨r2, x2⟩ := r1.side (o := .lst vs) hp
      have hF : F1 p = none := r1.sub.free hp
      have hH : H p = none := by
        by_cases z : H p = none
        · exact z
        · exact absurd hp (x1.keep p z)
      exact q1'.at (x1.trans x2) r2 p vs hH upd_same hF (fun m => r1.had p m hp) dq
    · exact q1'.elim
theorem se_tup {es : List Expr} {x1} {pos : Pos} {as : Av} (h : SA X W es as) : SE X W (.Tuple es x1 pos) (eTup as) := by
  refine (pe_tup h).imp fun σ H Q ⟨ρ, μ, α, F, r, re, q⟩ => ?_
  refine ⟨ρ, μ, α, F, r, re, q.bind.bind.mono fun ws μ1 α1 F1 H1 x1 r1 q1 vs rvs => ?_⟩
  cases e : allD ws with
  | none =>
    rw [e] at q1
    exact q1.elim
  | some c =>
    rw [e] at q1
    have dq := allD_ok e rvs
    by_cases hl : c.length ≤ 16777216
    · have q2 : gp X.K X.mg α1 F1 H1 ((if c.length ≤ 16777216 then Out.ok c μ1 else .bad).bind fun c μ1 => .ok (.d (.tuple c)) μ1) (Gw X.K Q) (fun c d H' => W c d σ H') := by
        cases z : (if c.length ≤ 16777216 then Out.ok c μ1 else .bad) with
        | ok c' μ' =>
          have : gp X.K X.mg α1 F1 H1 (if c.length ≤ 16777216 then Out.ok c μ1 else .bad) _ _ := q1
          rw [z] at this
          exact fun α' F' H' e r => gp.now (this α' F' H' e r) r
        | err x ws μ' =>
          rw [if_pos hl] at z
          cases z
        | bad =>
          rw [if_pos hl] at z
          cases z
      rw [if_pos hl] at q2
      refine ⟨by rw [dq.length]; exact le_line hl, fun p hp => ?_⟩
      obtain ⟨r2, x2⟩ := r1.new (o := .tup vs) hp
      exact q2.at x2 r2 _ (.tup (.of upd_same) (dq.mono x2.fro))
    · have : gp X.K X.mg α1 F1 H1 (if c.length ≤ 16777216 then Out.ok c μ1 else .bad) _ _ := q1
      rw [if_neg hl] at this
      exact this.elim
theorem Ext.frozen {α α' : List Addr} {F F' H H' : Hp} {D : Addr} {o : HO} (e : Ext α F H α' F' H') (hD : H D = none) (hF : F' D = none) : Ext α F H α' (upd F' D o) H' :=
  ⟨e.pre, fun b u h => by
    have := e.fro _ _ h
    rw [upd_ne (ne_of_none this hF)]
    exact this, e.frame, e.keep, fun a h => by
    by_cases z : a = D
    · subst z
      exact .inr (.inl hD)
    · rw [upd_ne z] at h
      exact e.newF a h, e.newA⟩
theorem Ext.celled {α α' : List Addr} {F F' H H' : Hp} {D : Addr} (e : Ext α F H α' F' H') (hD : H D = none) : Ext α F H (α' ++ [D]) F' H' :=
  ⟨by
    obtain ⟨β, rfl⟩ := e.pre
    exact ⟨β ++ [D], by simp⟩, e.fro, e.frame, e.keep, e.newF, fun a h => by
    rcases List.mem_append.mp h with h | h
    · exact e.newA a h
    · simp at h
      subst h
      exact .inr hD⟩
theorem same_frozen {F : Hp} {D : Addr} {o : HO} (hF : F D = none) : Same F (upd F D o) := fun b u h => by
  rw [upd_ne (ne_of_none h hF)]
  exact h
theorem se_frz {e : Expr} {l : Lv} (h : SL X W e l) : SE X W e (eFrz l) := by
  refine h.imp fun σ H Q ⟨ρ, μ, α, F, r, re, q⟩ => ?_
  refine ⟨ρ, μ, α, F, r, re, q.bind0.mono fun c μ1 α1 F1 H1 x1 r1 q1 D vs hD hD1 hF hn dq => ?_⟩
  exact q1.at (x1.frozen hD hF) (r1.freezeSide hD1 hF hn) _ (.lst (.of upd_same) (dq.mono (same_frozen hF)))
theorem se_new {e : Expr} {l : Lv} (h : SL X W e l) : SE X W e (eNew l) := by
  refine h.imp fun σ H Q ⟨ρ, μ, α, F, r, re, q⟩ => ?_
  refine ⟨ρ, μ, α, F, r, re, q.bind0.mono fun c μ1 α1 F1 H1 x1 r1 q1 D vs hD hD1 hF hn dq => ?_⟩
  refine q1.at (x1.celled hD) (r1.cellSide hD1 hF hn dq) _ ⟨D, ?_, rfl⟩
  rw [r1.len, List.getElem?_append_right (Nat.le_refl _), Nat.sub_self]
  rfl
end
end TL
/-! TL3: operators, comparisons, built-in functions by data. -/
namespace TL
open PySem PySem.Spec L2

abbrev wI (i : Int) : Wv := .d (.int i)
abbrev wBl (b : Bool) : Wv := .d (.bool b)
abbrev wS (x : Str) : Wv := .d (.str x)
abbrev wT (xs : List PyData) : Wv := .d (.tuple xs)
abbrev wL (xs : List PyData) : Wv := .d (.list xs)
def bi (b : Bool) : Int := if b = true then 1 else 0
/-- a number: an int or a truth -/
def numOf : Wv → Option Int
  | .d (.int i) => some i
  | .d (.bool b) => some (bi b)
  | _ => none
theorem num_ok {K : PySem.W.Frag} {α : List Addr} {F : Hp} {v : V} {w : Wv} {i : Int} (h : numOf w = some i) (r : Rw K α F v w) : v = .int i ∨ ∃ b, v = .bl b ∧ i = bi b := by
  cases w with
  | r k => cases h
  | t ds => cases h
  | d x =>
    cases x with
    | int j =>
      cases h
      cases r
      exact .inl rfl
    | bool b =>
      cases h
      cases r
      exact .inr ⟨b, rfl, rfl⟩
    | _ => cases h
/-- the line of products: bits together -/

noncomputable def mulOk (i j : Int) : Bool := @decide ((Builtin.Int.intBits i : Int) + (Builtin.Int.intBits j : Int) ≤ 134217728) (Classical.propDecidable _)

def gAdd (a b : Wv) (μ : Mu) : Out Wv :=
  match numOf a, numOf b with
  | some i, some j => .ok (wI (i + j)) μ
  | _, _ => match a, b with
    | .d (.str x), .d (.str y) => if x.length + y.length ≤ 16777216 then .ok (wS (x ++ y)) μ else .bad
    | .d (.tuple xs), .d (.tuple ys) => if xs.length + ys.length ≤ 16777216 then .ok (wT (xs ++ ys)) μ else .bad
    | _, _ => .bad
def gSub (a b : Wv) (μ : Mu) : Out Wv :=
  match numOf a, numOf b with
  | some i, some j => .ok (wI (i - j)) μ
  | _, _ => .bad
noncomputable def gMul (a b : Wv) (μ : Mu) : Out Wv :=
  match numOf a, numOf b with
  | some i, some j => if mulOk i j = true then .ok (wI (i * j)) μ else .bad
  | _, _ => .bad
def gMod (a b : Wv) (μ : Mu) : Out Wv :=
  match a, b with
  | .d (.int i), .d (.int j) => if j = 0 then .bad else .ok (wI (i.fmod j)) μ
  | _, _ => .bad
def gDiv (a b : Wv) (μ : Mu) : Out Wv :=
  match a, b with
  | .d (.int i), .d (.int j) => if j = 0 ∨ Builtin.divisionGoesByPylong i j = true then .bad else .ok (wI (i.fdiv j)) μ
  | _, _ => .bad
def gPow (a b : Wv) (μ : Mu) : Out Wv :=
  match a, b with
  | .d (.int i), .d (.int j) => if 0 ≤ j ∧ j ≤ 1000000 ∧ i.natAbs < 2 ^ 64 then .ok (wI (i ^ j.toNat)) μ else .bad
  | _, _ => .bad
def gNeg (a : Wv) (μ : Mu) : Out Wv :=
  match a with
  | .d (.int i) => .ok (wI (-i)) μ
  | _ => .bad
def gCmp (p : Int → Int → Bool) (a b : Wv) (μ : Mu) : Out Wv :=
  match a, b with
  | .d (.int i), .d (.int j) => .ok (wBl (p i j)) μ
  | _, _ => .bad

section
variable {X : Cx}
theorem op_gAdd : OpR X (binaryOp .Add) (r2G X.K X.mg gAdd) := by
  intro pins s σ H x y v u Q I rx ry ⟨μ, α, F, w1, w2, r, h1, h2, q⟩
  unfold gAdd at q
  split at q
  · rename_i i j e1 e2
    have q := q.now r _ (.int _)
    rcases num_ok e1 h1 with rfl | ⟨b1, rfl, rfl⟩ <;> rcases num_ok e2 h2 with rfl | ⟨b2, rfl, rfl⟩
    · exact op_add pins s σ H _ _ v u Q I rx ry ⟨_, _, rfl, rfl, q⟩
    · obtain ⟨t, rfl⟩ := rx
      cases ry
      exact PySem.add_int_bool ⟨.int _, H, I.tok _, ⟨_, rfl⟩, q⟩
    · obtain ⟨t, rfl⟩ := ry
      cases rx
      exact PySem.IntBool.add_bool_int ⟨.int _, H, I.tok _, ⟨_, rfl⟩, q⟩
    · cases rx
      cases ry
      exact PyProof.Rows.add_bool ⟨.int _, H, I.tok _, ⟨_, rfl⟩, q⟩
  · split at q
    · split at q
      · rename_i hl
        cases h1
        cases h2
        exact op_add_str pins s σ H _ _ v u Q I rx ry ⟨_, _, rfl, rfl, le_line hl, q.now r _ (.str _)⟩
      · exact q.elim
    · rename_i xs ys _
      split at q
      · rename_i hl
        cases h1 with
        | @tup a vs _ t1 d1 =>
          cases h2 with
          | @tup b us _ t2 d2 =>
            refine op_catA pins s σ H _ _ v u Q I rx ry ⟨a, b, vs, us, rfl, rfl, sameT r.sub t1, sameT r.sub t2, ?_, fun e => ?_, fun _ e => ?_, fun _ _ p hp => ?_⟩
            · rw [d1.length, d2.length]
              exact le_line hl
            · subst e
              cases d1
              exact q.now r _ (.tup t2 d2)
            · subst e
              cases d2
              rw [List.append_nil] at q
              exact q.now r _ (.tup t1 d1)
            · obtain ⟨r2, x2⟩ := r.new (o := .tup (vs ++ us)) hp
              exact q.at x2 r2 _ (.tup (.of upd_same) ((d1.mono x2.fro).append (d2.mono x2.fro)))
      · exact q.elim
    · exact q.elim
theorem op_gSub : OpR X (binaryOp .Sub) (r2G X.K X.mg gSub) := by
  intro pins s σ H x y v u Q I rx ry ⟨μ, α, F, w1, w2, r, h1, h2, q⟩
  unfold gSub at q
  split at q
  · rename_i i j e1 e2
    have q := q.now r _ (.int _)
    rcases num_ok e1 h1 with rfl | ⟨b1, rfl, rfl⟩ <;> rcases num_ok e2 h2 with rfl | ⟨b2, rfl, rfl⟩
    · exact op_sub pins s σ H _ _ v u Q I rx ry ⟨_, _, rfl, rfl, q⟩
    · obtain ⟨t, rfl⟩ := rx
      cases ry
      exact PySem.IntBool.sub_int_bool ⟨.int _, H, I.tok _, ⟨_, rfl⟩, q⟩
    · obtain ⟨t, rfl⟩ := ry
      cases rx
      exact PySem.IntBool.sub_bool_int ⟨.int _, H, I.tok _, ⟨_, rfl⟩, q⟩
    · cases rx
      cases ry
      exact PyProof.Rows.sub_bool ⟨.int _, H, I.tok _, ⟨_, rfl⟩, q⟩
  · exact q.elim
theorem op_gMul : OpR X (binaryOp .Mult) (r2G X.K X.mg gMul) := by
  intro pins s σ H x y v u Q I rx ry ⟨μ, α, F, w1, w2, r, h1, h2, q⟩
  unfold gMul at q
  split at q
  · rename_i i j e1 e2
    split at q
    · rename_i hm
      have q := q.now r _ (.int _)
      rcases num_ok e1 h1 with rfl | ⟨b1, rfl, rfl⟩ <;> rcases num_ok e2 h2 with rfl | ⟨b2, rfl, rfl⟩
      · have hm' : (Builtin.Int.intBits i : Int) + (Builtin.Int.intBits j : Int) ≤ 134217728 := @of_decide_eq_true _ (Classical.propDecidable _) hm
        exact op_mulX pins s σ H _ _ v u Q I rx ry ⟨_, _, rfl, rfl, hm', q⟩
      · obtain ⟨t, rfl⟩ := rx
        cases ry
        exact PySem.IntBool.mul_int_bool ⟨.int _, H, I.tok _, ⟨_, rfl⟩, q⟩
      · obtain ⟨t, rfl⟩ := ry
        cases rx
        exact PySem.IntBool.mul_bool_int ⟨.int _, H, I.tok _, ⟨_, rfl⟩, q⟩
      · cases rx
        cases ry
        exact PyProof.Rows.mul_bool ⟨.int _, H, I.tok _, ⟨_, rfl⟩, q⟩
    · exact q.elim
  · exact q.elim
theorem op_gMod : OpR X (binaryOp .Mod) (r2G X.K X.mg gMod) := by
  intro pins s σ H x y v u Q I rx ry ⟨μ, α, F, w1, w2, r, h1, h2, q⟩
  unfold gMod at q
  split at q
  · split at q
    · exact q.elim
    · rename_i hz
      cases h1
      cases h2
      exact op_modN pins s σ H _ _ v u Q I rx ry ⟨_, _, rfl, rfl, hz, q.now r _ (.int _)⟩
  · exact q.elim
theorem op_gDiv : OpR X (binaryOp .FloorDiv) (r2G X.K X.mg gDiv) := by
  intro pins s σ H x y v u Q I rx ry ⟨μ, α, F, w1, w2, r, h1, h2, q⟩
  unfold gDiv at q
  split at q
  · split at q
    · exact q.elim
    · rename_i hz
      cases h1
      cases h2
      obtain ⟨t, rfl⟩ := rx
      obtain ⟨t', rfl⟩ := ry
      have hz' := not_or.mp hz
      exact PyProof.Rows.floordiv_int hz'.1 ⟨.int _, H, I.tok _, ⟨_, rfl⟩, q.now r _ (.int _)⟩ (.inl (by simpa using hz'.2))
  · exact q.elim
theorem op_gPow : OpR X (binaryOp .Pow) (r2G X.K X.mg gPow) := by
  intro pins s σ H x y v u Q I rx ry ⟨μ, α, F, w1, w2, r, h1, h2, q⟩
  unfold gPow at q
  split at q
  · split at q
    · rename_i hz
      cases h1
      cases h2
      exact op_pow pins s σ H _ _ v u Q I rx ry ⟨_, _, rfl, rfl, hz, q.now r _ (.int _)⟩
    · exact q.elim
  · exact q.elim
theorem un_gNeg : UnR X (unaryOp .USub) (r1G X.K X.mg gNeg) := by
  intro pins s σ H x v Q I rx ⟨μ, α, F, w1, r, h1, q⟩
  unfold gNeg at q
  split at q
  · cases h1
    exact un_neg pins s σ H _ v Q I rx ⟨_, rfl, q.now r _ (.int _)⟩
  · exact q.elim
theorem op_gLt : OpR X (compareOp .Lt) (r2G X.K X.mg (gCmp fun i j => decide (i < j))) := by
  intro pins s σ H x y v u Q I rx ry ⟨μ, α, F, w1, w2, r, h1, h2, q⟩
  unfold gCmp at q
  split at q
  · cases h1
    cases h2
    exact op_lt pins s σ H _ _ v u Q I rx ry ⟨_, _, rfl, rfl, q.now r _ (.bl _)⟩
  · exact q.elim
theorem op_gLe : OpR X (compareOp .LtE) (r2G X.K X.mg (gCmp fun i j => decide (i ≤ j))) := by
  intro pins s σ H x y v u Q I rx ry ⟨μ, α, F, w1, w2, r, h1, h2, q⟩
  unfold gCmp at q
  split at q
  · cases h1
    cases h2
    exact op_le pins s σ H _ _ v u Q I rx ry ⟨_, _, rfl, rfl, q.now r _ (.bl _)⟩
  · exact q.elim
theorem op_gGt : OpR X (compareOp .Gt) (r2G X.K X.mg (gCmp fun i j => decide (j < i))) := by
  intro pins s σ H x y v u Q I rx ry ⟨μ, α, F, w1, w2, r, h1, h2, q⟩
  unfold gCmp at q
  split at q
  · cases h1
    cases h2
    exact op_gt pins s σ H _ _ v u Q I rx ry ⟨_, _, rfl, rfl, q.now r _ (.bl _)⟩
  · exact q.elim
theorem op_gGe : OpR X (compareOp .GtE) (r2G X.K X.mg (gCmp fun i j => decide (j ≤ i))) := by
  intro pins s σ H x y v u Q I rx ry ⟨μ, α, F, w1, w2, r, h1, h2, q⟩
  unfold gCmp at q
  split at q
  · cases h1
    cases h2
    exact op_ge pins s σ H _ _ v u Q I rx ry ⟨_, _, rfl, rfl, q.now r _ (.bl _)⟩
  · exact q.elim
end

/-! ### data of a value -/
def dataOf (μ : Mu) : Wv → Option PyData
  | .d x => some x
  | .r k => (μ[k]?.join).map PyData.list
  | .t _ => none
theorem data_ok {K : PySem.W.Frag} {α : List Addr} {F H : Hp} {μ : Mu} {v : V} {w : Wv} {x : PyData} (r : Rep K α F μ H) (h : dataOf μ w = some x) (q : Rw K α F v w) : Dq K H v x := by
  cases w with
  | d y =>
    cases h
    exact Dq.mono r.sub q
  | t ds => cases h
  | r k =>
    have h' : (μ[k]?.join).map PyData.list = some x := h
    obtain ⟨c, e, rfl⟩ := Option.map_eq_some_iff.mp h'
    have e' : μ[k]? = some (some c) := by
      cases z : μ[k]? with
      | none =>
        rw [z] at e
        cases e
      | some o =>
        rw [z] at e
        have e2 : o = some c := e
        rw [e2]
    obtain ⟨a, vs, h1, h2, h3, h4⟩ := r.cell k c e'
    obtain ⟨b, g1, rfl⟩ := q
    rw [h1] at g1
    cases g1
    exact .lst (.of h2) (h4.mono r.sub)
section
variable {X : Cx} {pins : List (Addr × Obj)} {σ : St} {H : Hp} {s : Shared}
mutual
theorem Dq.reads (I : Inv X pins σ H s) : ∀ (d : PyData) (v : V) (u : Value), Dq X.K H v d → RelV v u → ∃ as, Reads s.heap u d as ∧ ((∀ o, s.heap.get? sysModules = some o → o.cls ≠ .type "list") → sysModules ∉ as)
  | .none, _, _, h, r => by
    cases h
    cases r
    exact ⟨_, .none, by simp⟩
  | .bool b, _, _, h, r => by
    cases h
    cases r
    exact ⟨_, .bool b, by simp⟩
  | .int i, _, _, h, r => by
    cases h
    obtain ⟨t, rfl⟩ := r
    exact ⟨_, .int i t, by simp⟩
  | .str x, _, _, h, r => by
    cases h
    obtain ⟨t, rfl⟩ := r
    exact ⟨_, .str x t, by simp⟩
  | .list ds, _, _, h, r => by
    cases h with
    | lst hs ha =>
      cases r
      obtain ⟨z, its, n, rv, e⟩ := hs.ob I
      obtain ⟨as, hr, hm⟩ := Dq.readsAll I ds _ its ha rv
      refine ⟨_, .list e rfl rfl hr, fun hS hm' => ?_⟩
      rcases List.mem_cons.mp hm' with q | q
      · subst q
        exact hS _ e rfl
      · exact hm hS q
  | .tuple ds, _, _, h, r => by
    cases h with
    | tup hs ha =>
      cases r
      obtain ⟨its, rv, ⟨o, ho, hc, n, hd⟩, _⟩ := I.tuple hs
      obtain ⟨as, hr, hm⟩ := Dq.readsAll I ds _ its ha rv
      exact ⟨_, .tuple ho hc hd hr, hm⟩
  | .dict _, _, _, h, r => by
    cases h with
    | dic hs =>
      cases r
      obtain ⟨z, y, vs, kv, o, es, ep, e1, e2, e3, e4, e5, e6⟩ := I.hok _ _ hs
      cases kv
      have e7 : es.toList = [] := by
        cases q : es.toList with
        | nil => rfl
        | cons a b =>
          rw [q] at e5
          exact nomatch e5
      refine ⟨_, .dict (as := []) (bs := []) e1 e2.1 e3 (by rw [e7]; exact .nil) (by rw [e7]; exact .nil), fun _ hm => ?_⟩
      simp at hm
      rw [← hm] at y
      exact absurd y (by decide)
theorem Dq.readsAll (I : Inv X pins σ H s) : ∀ (ds : List PyData) (vs : List V) (us : List Value), DqAll X.K H vs ds → Vals vs us → ∃ as, ReadsAll s.heap us ds as ∧ ((∀ o, s.heap.get? sysModules = some o → o.cls ≠ .type "list") → sysModules ∉ as)
  | [], _, _, h, r => by
    cases h
    cases r
    exact ⟨_, .nil, by simp⟩
  | d :: ds, _, _, h, r => by
    cases h with
    | cons h1 h2 =>
      cases r with
      | cons r1 r2 =>
        obtain ⟨as, q1, m1⟩ := Dq.reads I d _ _ h1 r1
        obtain ⟨bs, q2, m2⟩ := Dq.readsAll I ds _ _ h2 r2
        exact ⟨_, .cons q1 q2, fun hS => by simp [m1 hS, m2 hS]⟩
end
end
end TL
/-! TL4: ==, in, is; built-in functions. -/
namespace TL
open PySem PySem.Spec L2

/-- what == of two data is, where the model's own comparison is known -/
def eqP : PyData → PyData → Option Bool
  | .str x, .str y => some (decide (x = y))
  | .tuple [], .tuple ys => some ys.isEmpty
  | .tuple (_ :: _), .tuple [] => some false
  | .list [], .list ys => some ys.isEmpty
  | .list (_ :: _), .list [] => some false
  | x, y => if SeqAt.shaped x = true ∧ SeqAt.shaped y = true then some (PyData.eqv x y) else none
def gEq (neg : Bool) (a b : Wv) (μ : Mu) : Out Wv :=
  match dataOf μ a, dataOf μ b with
  | some x, some y => match eqP x y with
    | some c => .ok (wBl (if neg then !c else c)) μ
    | none => .bad
  | _, _ => .bad
/-- x in c -/
def inP : PyData → PyData → Option Bool
  | .str x, .str y => some (!(Builtin.Str.occurrences y x 0 y.length 1).isEmpty)
  | x, .list ys => if SeqAt.shaped x = true ∧ SeqAt.shaped (.list ys) = true then some (ys.any fun z => PyData.eqv z x) else none
  | x, .tuple ys => if SeqAt.shaped x = true ∧ SeqAt.shaped (.tuple ys) = true then some (ys.any fun z => PyData.eqv z x) else none
  | _, _ => none
def gIn (neg : Bool) (a b : Wv) (μ : Mu) : Out Wv :=
  match dataOf μ a, dataOf μ b with
  | some x, some y => match inP x y with
    | some c => .ok (wBl (if neg then !c else c)) μ
    | none => .bad
  | _, _ => .bad
def isNoneD : PyData → Bool
  | .none => true
  | _ => false
/-- x is None -/
def gIsN (neg : Bool) (a b : Wv) (μ : Mu) : Out Wv :=
  match a, b with
  | .d x, .d .none => .ok (wBl (if neg then !isNoneD x else isNoneD x)) μ
  | .r _, .d .none => .ok (wBl neg) μ
  | _, _ => .bad

section
variable {X : Cx} {pins : List (Addr × Obj)} {σ : St} {H : Hp} {s : Shared}
theorem Dq.tupAt (I : Inv X pins σ H s) {xs : List PyData} {v : V} {u : Value} (h : Dq X.K H v (.tuple xs)) (r : RelV v u) : ∃ a its, u = .ref a ∧ s.heap.IsTuple a its ∧ its.size = xs.length := by
  cases h with
  | tup hs ha =>
    cases r
    obtain ⟨its, rv, p, _⟩ := I.tuple hs
    exact ⟨_, its.toArray, rfl, p, by rw [List.size_toArray, ← rv.length, ha.length]⟩
theorem Dq.lstAt (I : Inv X pins σ H s) {xs : List PyData} {v : V} {u : Value} (h : Dq X.K H v (.list xs)) (r : RelV v u) : ∃ a its, u = .ref a ∧ s.heap.IsList a its ∧ its.size = xs.length := by
  cases h with
  | lst hs ha =>
    cases r
    obtain ⟨z, its, n, rv, e⟩ := hs.ob I
    exact ⟨_, its.toArray, rfl, ⟨_, e, rfl, n, rfl⟩, by rw [List.size_toArray, ← rv.length, ha.length]⟩
/-- both answers at once -/
def EqN (A : Around) (s : Shared) (y x : Value) (b : Bool) : Prop := SeqAt.RcAt A s y x b ∧ SeqAt.RcNeAt A s y x (!b)
theorem eqN_tup0 {A : Around} {l b : Addr} {i1 i2 : Array Value} (hl : s.heap.IsTuple l i1) (hb : s.heap.IsTuple b i2) (hu : A.units < cLine) (h0 : i1.size = 0 ∨ i2.size = 0) : EqN A s (.ref l) (.ref b) (i1.size == i2.size) := by
  have he : ∀ j (h1 : j < i1.size) (h2 : j < i2.size), SeqAt.EqAt A.in1 s i1[j] i2[j] (true) := fun j h1 h2 => by omega
  have e : (List.range (min i1.size i2.size)).all (fun _ => true) = true := by simp
  have q1 := SeqAt.RcAt.tuples (e := fun _ => true) hl hb hu he
  have q2 := SeqAt.RcNeAt.tuples (e := fun _ => true) hl hb hu he
  rw [e, Bool.true_and] at q1 q2
  exact ⟨q1, q2⟩
theorem eqN_lst0 {A : Around} {l b : Addr} {i1 i2 : Array Value} (hl : s.heap.IsList l i1) (hb : s.heap.IsList b i2) (hu : A.units < cLine) (h0 : i1.size = 0 ∨ i2.size = 0) : EqN A s (.ref l) (.ref b) (i1.size == i2.size) := by
  by_cases hz : i1.size = i2.size
  · have he : ∀ j (h1 : j < i1.size) (h2 : j < i2.size), SeqAt.EqAt A.in1 s i1[j] i2[j] (true) := fun j h1 h2 => by omega
    have e : (List.range i1.size).all (fun _ => true) = true := by simp
    have q1 := SeqAt.RcAt.lists (e := fun _ => true) hl hb hz hu he
    have q2 := SeqAt.RcNeAt.lists (e := fun _ => true) hl hb hz hu he
    rw [e] at q1 q2
    rw [show (i1.size == i2.size) = true by simpa using hz]
    exact ⟨q1, q2⟩
  · rw [show (i1.size == i2.size) = false by simpa using hz]
    exact ⟨SeqAt.RcAt.lists_lengths hl hb (by simpa using hz) hu, SeqAt.RcNeAt.lists_lengths hl hb (by simpa using hz) hu⟩
theorem eqP_at (I : Inv X pins σ H s) (hu : X.A.units + 64 < cLine) {x y : PyData} {c : Bool} (h : eqP x y = some c) {v1 v2 : V} {u1 u2 : Value} (h1 : Dq X.K H v1 x) (h2 : Dq X.K H v2 y) (r1 : RelV v1 u1) (r2 : RelV v2 u2) {Q : VK} :
    (Q (.bl c) H → wpAny (model X.prog X.w) X.A (compareOp .Eq u1 u2) (EP X pins σ Q) X.xe s) ∧ (Q (.bl (!c)) H → wpAny (model X.prog X.w) X.A (compareOp .NotEq u1 u2) (EP X pins σ Q) X.xe s) := by
  have hu0 : X.A.units < cLine := by omega
  have fin : ∀ b : Bool, Q (.bl b) H → EP X pins σ Q (.bool b) s := fun b q => ⟨.bl b, H, I, rfl, q⟩
  have ofN : EqN X.A s u1 u2 c → (Q (.bl c) H → wpAny (model X.prog X.w) X.A (compareOp .Eq u1 u2) (EP X pins σ Q) X.xe s) ∧ (Q (.bl (!c)) H → wpAny (model X.prog X.w) X.A (compareOp .NotEq u1 u2) (EP X pins σ Q) X.xe s) :=
    fun n => ⟨fun q => n.1 _ _ _ _ (fin _ q), fun q => n.2 _ _ _ _ (fin _ q)⟩
  unfold eqP at h
  split at h
  · rename_i z1 z2
    cases h
    cases h1
    cases h2
    refine ⟨fun q => op_eq pins s σ H _ _ u1 u2 Q I r1 r2 ⟨rfl, ?_⟩, fun q => op_ne pins s σ H _ _ u1 u2 Q I r1 r2 ⟨rfl, ?_⟩⟩
    · have e : decide (V.str z1 = V.str z2) = decide (z1 = z2) := by simp
      rw [e]
      exact q
    · have e : decide (V.str z1 = V.str z2) = decide (z1 = z2) := by simp
      rw [e]
      exact q
  · rename_i ys
    cases h
    obtain ⟨a, i1, rfl, t1, z1⟩ := h1.tupAt I r1
    obtain ⟨b, i2, rfl, t2, z2⟩ := h2.tupAt I r2
    refine ofN ?_
    have q := eqN_tup0 (A := X.A) t1 t2 hu0 (.inl z1)
    have e : (i1.size == i2.size) = ys.isEmpty := by
      rw [z1, z2]
      cases ys <;> rfl
    rw [e] at q
    exact q
  · rename_i hd tl
    cases h
    obtain ⟨a, i1, rfl, t1, z1⟩ := h1.tupAt I r1
    obtain ⟨b, i2, rfl, t2, z2⟩ := h2.tupAt I r2
    refine ofN ?_
    have q := eqN_tup0 (A := X.A) t1 t2 hu0 (.inr z2)
    rw [show (i1.size == i2.size) = false by rw [z1, z2]; rfl] at q
    exact q
  · rename_i ys
    cases h
    obtain ⟨a, i1, rfl, t1, z1⟩ := h1.lstAt I r1
    obtain ⟨b, i2, rfl, t2, z2⟩ := h2.lstAt I r2
    refine ofN ?_
    have q := eqN_lst0 (A := X.A) t1 t2 hu0 (.inl z1)
    have e : (i1.size == i2.size) = ys.isEmpty := by
      rw [z1, z2]
      cases ys <;> rfl
    rw [e] at q
    exact q
  · rename_i hd tl
    cases h
    obtain ⟨a, i1, rfl, t1, z1⟩ := h1.lstAt I r1
    obtain ⟨b, i2, rfl, t2, z2⟩ := h2.lstAt I r2
    refine ofN ?_
    have q := eqN_lst0 (A := X.A) t1 t2 hu0 (.inr z2)
    rw [show (i1.size == i2.size) = false by rw [z1, z2]; rfl] at q
    exact q
  · split at h
    · rename_i hs
      cases h
      obtain ⟨as, d1, _⟩ := Dq.reads I x v1 u1 h1 r1
      obtain ⟨bs, d2, _⟩ := Dq.reads I y v2 u2 h2 r2
      exact ⟨fun q => SeqAt.compareEq_shaped d1 d2 hs.1 hs.2 hu (fin _ q), fun q => SeqAt.compareNe_shaped d1 d2 hs.1 hs.2 hu (fin _ q)⟩
    · cases h
end
section
variable {X : Cx}
theorem op_gEq (hu : X.A.units + 64 < cLine) : OpR X (compareOp .Eq) (r2G X.K X.mg (gEq false)) := by
  intro pins s σ H x y v u Q I rx ry ⟨μ, α, F, w1, w2, r, h1, h2, q⟩
  unfold gEq at q
  split at q
  · rename_i a b e1 e2
    split at q
    · rename_i c e
      exact (eqP_at I hu e (data_ok r e1 h1) (data_ok r e2 h2) rx ry).1 (q.now r _ (.bl _))
    · exact q.elim
  · exact q.elim
theorem op_gNe (hu : X.A.units + 64 < cLine) : OpR X (compareOp .NotEq) (r2G X.K X.mg (gEq true)) := by
  intro pins s σ H x y v u Q I rx ry ⟨μ, α, F, w1, w2, r, h1, h2, q⟩
  unfold gEq at q
  split at q
  · rename_i a b e1 e2
    split at q
    · rename_i c e
      exact (eqP_at I hu e (data_ok r e1 h1) (data_ok r e2 h2) rx ry).2 (q.now r _ (.bl _))
    · exact q.elim
  · exact q.elim
theorem shaped_all {xs : List PyData} (h : SeqAt.shaped (.tuple xs) = true) : PyData.canLayAll0 xs = true ∧ PyData.depthAll xs ≤ 64 := by
  have h1 := SeqAt.canLay_of_shaped h
  have h2 := SeqAt.depth_of_shaped h
  refine ⟨by simpa only [PyData.canLay0] using h1, ?_⟩
  simp only [PyData.depth] at h2
  omega
theorem shaped_allL {xs : List PyData} (h : SeqAt.shaped (.list xs) = true) : PyData.canLayAll0 xs = true ∧ PyData.depthAll xs ≤ 64 := by
  have h1 := SeqAt.canLay_of_shaped h
  have h2 := SeqAt.depth_of_shaped h
  refine ⟨by simpa only [PyData.canLay0] using h1, ?_⟩
  simp only [PyData.depth] at h2
  omega
theorem inP_at {pins : List (Addr × Obj)} {σ : St} {H : Hp} {s : Shared} (I : Inv X pins σ H s) (hu : X.A.units + 65 < cLine) {x y : PyData} {c : Bool} (h : inP x y = some c) {v1 v2 : V} {u1 u2 : Value} (h1 : Dq X.K H v1 x) (h2 : Dq X.K H v2 y) (r1 : RelV v1 u1) (r2 : RelV v2 u2) {Q : VK} :
    (Q (.bl c) H → wpAny (model X.prog X.w) X.A (compareOp .In u1 u2) (EP X pins σ Q) X.xe s) ∧ (Q (.bl (!c)) H → wpAny (model X.prog X.w) X.A (compareOp .NotIn u1 u2) (EP X pins σ Q) X.xe s) := by
  have fin : ∀ b : Bool, Q (.bl b) H → EP X pins σ Q (.bool b) s := fun b q => ⟨.bl b, H, I, rfl, q⟩
  unfold inP at h
  split at h
  · cases h
    cases h1
    cases h2
    exact ⟨fun q => op_in_str pins s σ H _ _ u1 u2 Q I r1 r2 ⟨_, _, rfl, rfl, q⟩, fun q => op_notin_str pins s σ H _ _ u1 u2 Q I r1 r2 ⟨_, _, rfl, rfl, q⟩⟩
  · split at h
    · rename_i hs
      cases h
      obtain ⟨as, d1, _⟩ := Dq.reads I _ v1 u1 h1 r1
      obtain ⟨bs, d2, _⟩ := Dq.reads I _ v2 u2 h2 r2
      obtain ⟨c1, c2⟩ := shaped_allL hs.2
      have hm : ∀ n : Nat, X.A.units + 1 + min (PyData.depthAll _) n < cLine := fun n => Nat.lt_of_le_of_lt (Nat.add_le_add_left (Nat.le_trans (Nat.min_le_left _ _) c2) _) (by omega)
      exact ⟨fun q => SeqAt.in_list_reads d2 d1 c1 (SeqAt.canLay_of_shaped hs.1) (hm _) (fin _ q), fun q => SeqAt.notIn_list_reads d2 d1 c1 (SeqAt.canLay_of_shaped hs.1) (hm _) (fin _ q)⟩
    · cases h
  · split at h
    · rename_i hs
      cases h
      obtain ⟨as, d1, _⟩ := Dq.reads I _ v1 u1 h1 r1
      obtain ⟨bs, d2, _⟩ := Dq.reads I _ v2 u2 h2 r2
      obtain ⟨c1, c2⟩ := shaped_all hs.2
      have hm : ∀ n : Nat, X.A.units + 1 + min (PyData.depthAll _) n < cLine := fun n => Nat.lt_of_le_of_lt (Nat.add_le_add_left (Nat.le_trans (Nat.min_le_left _ _) c2) _) (by omega)
      exact ⟨fun q => SeqAt.in_tuple_reads d2 d1 c1 (SeqAt.canLay_of_shaped hs.1) (hm _) (fin _ q), fun q => SeqAt.notIn_tuple_reads d2 d1 c1 (SeqAt.canLay_of_shaped hs.1) (hm _) (fin _ q)⟩
    · cases h
  · cases h
theorem op_gIn (hu : X.A.units + 65 < cLine) : OpR X (compareOp .In) (r2G X.K X.mg (gIn false)) := by
  intro pins s σ H x y v u Q I rx ry ⟨μ, α, F, w1, w2, r, h1, h2, q⟩
  unfold gIn at q
  split at q
  · rename_i a b e1 e2
    split at q
    · rename_i c e
      exact (inP_at I hu e (data_ok r e1 h1) (data_ok r e2 h2) rx ry).1 (q.now r _ (.bl _))
    · exact q.elim
  · exact q.elim
theorem op_gNotIn (hu : X.A.units + 65 < cLine) : OpR X (compareOp .NotIn) (r2G X.K X.mg (gIn true)) := by
  intro pins s σ H x y v u Q I rx ry ⟨μ, α, F, w1, w2, r, h1, h2, q⟩
  unfold gIn at q
  split at q
  · rename_i a b e1 e2
    split at q
    · rename_i c e
      exact (inP_at I hu e (data_ok r e1 h1) (data_ok r e2 h2) rx ry).2 (q.now r _ (.bl _))
    · exact q.elim
  · exact q.elim
theorem isNoneD_ok {K : PySem.W.Frag} {F : Hp} {v : V} {x : PyData} (h : Dq K F v x) : decide (v = .non) = isNoneD x := by
  cases h <;> simp [isNoneD]
theorem op_gIs : OpR X (compareOp .Is) (r2G X.K X.mg (gIsN false)) := by
  intro pins s σ H x y v u Q I rx ry ⟨μ, α, F, w1, w2, r, h1, h2, q⟩
  unfold gIsN at q
  split at q
  · cases h2
    refine op_isN pins s σ H _ _ v u Q I rx ry ⟨rfl, ?_⟩
    rw [isNoneD_ok h1]
    exact q.now r _ (.bl _)
  · cases h2
    obtain ⟨a, _, rfl⟩ := h1
    exact op_isN pins s σ H _ _ v u Q I rx ry ⟨rfl, q.now r _ (.bl _)⟩
  · exact q.elim
theorem op_gIsNot : OpR X (compareOp .IsNot) (r2G X.K X.mg (gIsN true)) := by
  intro pins s σ H x y v u Q I rx ry ⟨μ, α, F, w1, w2, r, h1, h2, q⟩
  unfold gIsN at q
  split at q
  · cases h2
    refine op_notN pins s σ H _ _ v u Q I rx ry ⟨rfl, ?_⟩
    rw [isNoneD_ok h1]
    exact q.now r _ (.bl _)
  · cases h2
    obtain ⟨a, _, rfl⟩ := h1
    exact op_notN pins s σ H _ _ v u Q I rx ry ⟨rfl, q.now r _ (.bl _)⟩
  · exact q.elim
end
end TL
/-! TL5: what a def promises where nothing is being printed (so that repr is known); calls. -/
namespace TL
open PySem PySem.Spec L2 PyProof.Rows

/-- as the layer's promise, told only of calls around which no repr runs -/
structure FnG (P : Program) (w : World) (K : PySem.W.Frag) (mg : Str → Option Value) (base : Heap) (k : Nat) (f : Addr) (fd : FuncData) (ps : List Str) (sp : Sp) : Prop where
  len : ∀ vs H Q E, sp vs H Q E → vs.length = ps.length
  run : ∀ (A : Around) (outer : List Env) (s : Shared) (H : Hp) (args : Args) (us : List Value) (vs : List V) (Q : VK) (E : XK), Room k A → A.guards = some [] →
    Env0 P w K mg base A outer s H → BindsTo s fd args (ps.zip us) → Vals vs us → sp vs H Q E → codeAny (model P w) A (.call (.ref f) args) (CR (L2.CX P w) outer P w H s Q E) s
theorem FnG.up {P : Program} {w : World} {K : PySem.W.Frag} {mg : Str → Option Value} {base : Heap} {j k : Nat} {f : Addr} {fd : FuncData} {ps : List Str} {sp : Sp} (G : FnG P w K mg base j f fd ps sp) (h : j ≤ k) : FnG P w K mg base k f fd ps sp :=
  ⟨G.len, fun A outer s H args us vs Q E hr => G.run A outer s H args us vs Q E (hr.mono h)⟩

/-- a def of the text keeps its promise by its body's reading -/
theorem fng_of {P : Program} {w : World} {K : PySem.W.Frag} {mg : Str → Option Value} {base : Heap} {k : Nat} {f : Addr} {x qual : Str} {st : Stmt} {fd : FuncData} {N ps : List Str} {sp : Sp}
    (F : Fun K x qual st f fd) (S : FnScope N ps (defScope st)) (len : ∀ vs H Q E, sp vs H Q E → vs.length = ps.length)
    (body : ∀ (cdv : Value) (A : Around) (outer : List Env) (s : Shared) (H : Hp) (vs : List V) (Q : VK) (E : XK), Room k (A.deeper (envOfC qual (defScope st) s.heap.objs.size f cdv)) → A.guards = some [] → sp vs H Q E →
      ∃ t, PSs (cxOf (L2.CX P w) P w K mg base N qual (defScope st) f cdv A outer s H E) (defBody st) t ∧ t { nx := fun _ H' => Q .non H', rt := Q } (L2.start N vs) H) :
    FnG P w K mg base (k + 1) f fd ps sp := by
  obtain ⟨oc, od, kV, doc, pm, an, cdv, ct, osl, efd, lk, cd⟩ := F.ex
  subst efd
  refine ⟨len, fun A outer s0 H args us vs Q E room gd env bd rel want => ?_⟩
  have count := len _ _ _ _ want
  have inK : K.In s0.heap := env.mod.kin.keeps fun b o z => (env.bs b o z).1
  have nolim : s0.heap.NoLimit := env.mod.nolimit.keeps fun b o z => (env.bs b o z).1
  have kinds : ∀ y ∈ ps.zip us, (defScope st).names.lookup y.1 = some .local ∨ ((defScope st).names.lookup y.1 = some .cell ∧ ((cellsFrom (s0.heap.objs.size + 1) (defScope st).names []).lookup y.1).isSome = true) := by
    rintro ⟨m, v⟩ hm
    cases S.par m (List.of_mem_zip hm).1 with
    | inl q => exact .inl q
    | inr q => exact .inr ⟨q, PySem.W.cellsFrom_some _ _ _ (.inl q)⟩
  refine codeAny_call_function room.depth (inK _ _ lk) rfl S.co S.gen rfl (PySem.W.codeRec_of inK cd) (bd _ _ _ _ ?_)
  refine wpAny_newFunctionEnv_cells S.kind kinds fun e2 he s1 ic => ?_
  subst he
  obtain ⟨t, ht, ready⟩ := body cdv A outer s0 H vs Q E (room.deeper _) gd want
  have I0 : Inv (cxOf (L2.CX P w) P w K mg base N qual (defScope st) f cdv A outer s0 H E) [] (L2.start N vs) H s1 := inv_start S room.hd env count rel ic
  refine ⟨nolim.keeps ic.toInCall.keep, codeAny_func (wpAny_mono (ht.run [] s1 (L2.start N vs) H _ I0 ready) (fun fl s2 hs => ?_) fun e s2 hs => hs)⟩
  cases fl with
  | ret u =>
    obtain ⟨v, σ', H', J, rv, q⟩ := hs
    exact ⟨v, H', J.os, J.bare, J.base, J.hok, rv, q⟩
  | next =>
    obtain ⟨σ', H', J, q⟩ := hs
    exact ⟨V.non, H', J.os, J.bare, J.base, J.hok, rfl, q⟩
  | brk => exact (hs.elim fun _ z => z.elim fun _ z => z.2).elim
  | cont => exact (hs.elim fun _ z => z.elim fun _ z => z.2).elim

/-! ### calls -/
section
variable {X : Cx} {W : WX} {k : Nat} {f : Addr} {fd : FuncData} {ps : List Str} {x : Str} {p pos : Pos} {e : Expr} {es : List Expr} {t : TA} {sp : Sp} {E : St → XK}
theorem run_g {pins : List (Addr × Obj)} {σ : St} {H : Hp} {s : Shared} {Q : VK} {us : List Value} {vs dv : List V} {ds : List Value} (G : FnG X.prog X.w X.K X.mg X.base k f fd ps sp) (hr : Room k X.A) (hg : X.A.guards = some []) (hb : Binds X.K fd ps ds) (hd : Vals dv ds)
    (hx : PassesAt (L2.CX X.prog X.w) X σ (E σ)) (I : Inv X pins σ H s) (r : Vals vs us) (h : sp (vs ++ dv) H Q (E σ)) : wpAny (model X.prog X.w) X.A (call (.ref f) us) (EP X pins σ Q) X.xe s := by
  have rr : Vals (vs ++ dv) (us ++ ds) := r.append hd
  have hl : (us ++ ds).length = ps.length := rr.length.symm.trans (G.len _ _ _ _ h)
  refine wpAny_call (codeAny_mono (G.run X.A X.stack s H ⟨us, []⟩ (us ++ ds) (vs ++ dv) Q (E σ) hr hg I.env0 (hb s us I.kIn hl) rr h) fun z s2 hq => ?_)
  rcases z with er | fl
  · exact hx pins H s er s2 I hq
  · cases fl with
    | ret u => exact I.after hq
    | _ => exact False.elim hq
def tCallD (sp : Sp) (dv : List V) (E : St → XK) (t : TA) : TE := fun σ H Q => t σ H fun vs H1 => sp (vs ++ dv) H1 Q (E σ)
theorem pe_callG {dv : List V} {ds : List Value} (G : FnG X.prog X.w X.K X.mg X.base k f fd ps sp) (hr : Room k X.A) (hg : X.A.guards = some []) (gl : Gl X x) (hm : X.mg x = some (.ref f)) (hk : PySem.W.keepIn X.K (.ref f) = true) (hb : Binds X.K fd ps ds) (hd : Vals dv ds)
    (hx : ∀ σ, PassesAt (L2.CX X.prog X.w) X σ (E σ)) (ha : PA X (e :: es) t) (hdb : (x == ("__debug__" : Str)) = false) (he : starEach (e :: es) X.env = (false, eval e X.env) :: starEach es X.env) (hpl : (backTo pos (starEach es X.env)).any (·.1) = false) :
    PE X (.Call (.Name x p) (e :: es) [] pos) (tCallD sp dv E t) := by
  refine ⟨fun pins s σ H Q I h => wpAny_Call_Name_kw (ld_glob I gl hm ?_ hdb)⟩
  refine PySem.W.callWith_K (h₀ := X.base) I.ok.mod.kin hk (thn (ha.run pos pins s σ H _ I h) fun us s1 hh => ?_) he hpl
  obtain ⟨vs, H1, I1, r, q⟩ := hh
  exact ⟨I1.kIn, run_g G hr hg hb hd (hx σ) I1 r q⟩
theorem pe_callG0 {dv : List V} {ds : List Value} (G : FnG X.prog X.w X.K X.mg X.base k f fd ps sp) (hr : Room k X.A) (hg : X.A.guards = some []) (gl : Gl X x) (hm : X.mg x = some (.ref f)) (hk : PySem.W.keepIn X.K (.ref f) = true) (hb : Binds X.K fd ps ds) (hd : Vals dv ds)
    (hx : ∀ σ, PassesAt (L2.CX X.prog X.w) X σ (E σ)) (hdb : (x == ("__debug__" : Str)) = false) : PE X (.Call (.Name x p) [] [] pos) (tCallD sp dv E tNil) :=
  ⟨fun pins s σ H Q I h => wpAny_Call_Name_kw (ld_glob I gl hm (PySem.W.callWith_K0 I.kIn hk (run_g (us := []) (vs := []) G hr hg hb hd (hx σ) I .nil h)) hdb)⟩
/-- the values by places -/
def permL {β : Type} (pm : List Nat) (l : List β) : List β := pm.filterMap fun i => l[i]?
theorem permL_rel {β γ : Type} {R : β → γ → Prop} {l : List β} {m : List γ} (h : Paired R l m) : ∀ pm : List Nat, Paired R (permL pm l) (permL pm m)
  | [] => .nil
  | i :: pm => by
    have ih := permL_rel h pm
    unfold permL
    rw [List.filterMap_cons, List.filterMap_cons]
    by_cases hi : i < l.length
    · obtain ⟨b, c, h1, h2, hr⟩ := Paired.at_ h hi
      rw [h1, h2]
      exact .cons hr ih
    · rw [List.getElem?_eq_none (by omega), List.getElem?_eq_none (by rw [← h.length]; omega)]
      exact ih
/-- how keywords ks bind: pm puts their values, then the defaults, in the parameters' order -/
def KwBinds (K : PySem.W.Frag) (fd : FuncData) (ps ks : List Str) (pm : List Nat) (ds : List Value) : Prop :=
  ∀ (s : Shared) (ws : List Value), K.In s.heap → (permL pm (ws ++ ds)).length = ps.length → BindsTo s fd ⟨[], ks.zip ws⟩ (ps.zip (permL pm (ws ++ ds)))
theorem run_gk {pins : List (Addr × Obj)} {σ : St} {H : Hp} {s : Shared} {Q : VK} {ws ds : List Value} {zs dv : List V} {ks : List Str} {pm : List Nat} (G : FnG X.prog X.w X.K X.mg X.base k f fd ps sp) (hr : Room k X.A) (hg : X.A.guards = some [])
    (hb : KwBinds X.K fd ps ks pm ds) (hd : Vals dv ds) (hx : PassesAt (L2.CX X.prog X.w) X σ (E σ)) (I : Inv X pins σ H s) (rz : Vals zs ws) (h : sp (permL pm (zs ++ dv)) H Q (E σ)) : wpAny (model X.prog X.w) X.A (call (.ref f) [] (ks.zip ws)) (EP X pins σ Q) X.xe s := by
  have rr : Vals (permL pm (zs ++ dv)) (permL pm (ws ++ ds)) := permL_rel (rz.append hd) pm
  have hl : (permL pm (ws ++ ds)).length = ps.length := rr.length.symm.trans (G.len _ _ _ _ h)
  refine wpAny_call (codeAny_mono (G.run X.A X.stack s H ⟨[], ks.zip ws⟩ (permL pm (ws ++ ds)) (permL pm (zs ++ dv)) Q (E σ) hr hg I.env0 (hb s ws I.kIn hl) rr h) fun z s2 hq => ?_)
  rcases z with er | fl
  · exact hx pins H s er s2 I hq
  · cases fl with
    | ret u => exact I.after hq
    | _ => exact False.elim hq
def tCallKG (sp : Sp) (pm : List Nat) (dv : List V) (E : St → XK) (tk : TA) : TE := fun σ H Q => tk σ H fun zs H2 => sp (permL pm (zs ++ dv)) H2 Q (E σ)
theorem pe_callGK {ks : List Str} {kws : List Keyword} {tk : TA} {pm : List Nat} {dv : List V} {ds : List Value} (G : FnG X.prog X.w X.K X.mg X.base k f fd ps sp) (hr : Room k X.A) (hg : X.A.guards = some []) (gl : Gl X x) (hm : X.mg x = some (.ref f)) (hk : PySem.W.keepIn X.K (.ref f) = true)
    (hb : KwBinds X.K fd ps ks pm ds) (hd : Vals dv ds) (hx : ∀ σ, PassesAt (L2.CX X.prog X.w) X σ (E σ)) (hkw : PK X kws tk) (hall : (backToKw pos (keywordEach kws X.env)).all (·.1.isSome) = true) (hks : (backToKw pos (keywordEach kws X.env)).filterMap (·.1) = ks) (hdb : (x == ("__debug__" : Str)) = false)
    (hpl : ((backTo pos (starEach [] X.env)).any (·.1) || (backToKw pos (keywordEach kws X.env)).any (·.1.isNone)) = false) : PE X (.Call (.Name x p) [] kws pos) (tCallKG sp pm dv E tk) := by
  refine ⟨fun pins s σ H Q I h => wpAny_Call_Name_kw (ld_glob I gl hm ?_ hdb)⟩
  refine PySem.W.callWith_KW0 (h₀ := X.base) I.ok.mod.kin hk hall (thn (hkw.run pos pins s σ H _ I h) fun ws s2 hh => ?_) hpl
  obtain ⟨zs, H2, I2, rz, q2⟩ := hh
  rw [hks]
  exact ⟨I2.kIn, run_gk G hr hg hb hd (hx σ) I2 rz q2⟩
end

/-- the promise by a semantic function -/
def arity (n : Nat) (g : List Wv → Mu → Out Wv) : List Wv → Mu → Out Wv := fun ws μ => if ws.length = n then g ws μ else .bad
def spG (K : PySem.W.Frag) (mg : Str → Option Value) (n : Nat) (g : List Wv → Mu → Out Wv) : Sp := fun vs H Q E => ∃ ws μ α F, Rep K α F μ H ∧ Rws K α F vs ws ∧ gp K mg α F H (arity n g ws μ) (Gw K Q) E
theorem spG.len {K : PySem.W.Frag} {mg : Str → Option Value} {n : Nat} {g : List Wv → Mu → Out Wv} {vs : List V} {H : Hp} {Q : VK} {E : XK} (h : spG K mg n g vs H Q E) : vs.length = n := by
  obtain ⟨ws, μ, α, F, r, rv, q⟩ := h
  unfold arity at q
  split at q
  · rename_i e
    rw [rv.length, e]
  · exact q.elim
section
variable {X : Cx} {W : WX} {k n : Nat} {f : Addr} {fd : FuncData} {ps : List Str} {x : Str} {p pos : Pos} {e : Expr} {es : List Expr} {as : Av} {g : List Wv → Mu → Out Wv}
/-- a call f(e, ..), the defaults ws0 behind -/
theorem se_call {dv : List V} {ds : List Value} {ws0 : List Wv} (G : FnG X.prog X.w X.K X.mg X.base k f fd ps (spG X.K X.mg n g)) (hr : Room k X.A) (hg : X.A.guards = some []) (gl : Gl X x) (hm : X.mg x = some (.ref f)) (hk : PySem.W.keepIn X.K (.ref f) = true) (hb : Binds X.K fd ps ds) (hd : Vals dv ds)
    (hw : ∀ α F, Rws X.K α F dv ws0) (tk : Takes X W) (ha : SA X W (e :: es) as) (hdb : (x == ("__debug__" : Str)) = false) (he : starEach (e :: es) X.env = (false, eval e X.env) :: starEach es X.env) (hpl : (backTo pos (starEach es X.env)).any (·.1) = false) :
    SE X W (.Call (.Name x p) (e :: es) [] pos) (eCall (fun ws μ => arity n g (ws ++ ws0) μ) as) := by
  refine (pe_callG (E := WE W) G hr hg gl hm hk hb hd (fun σ => passAt tk σ) ha hdb he hpl).imp fun σ H Q ⟨ρ, μ, α, F, r, re, q⟩ => ?_
  refine ⟨ρ, μ, α, F, r, re, q.bind.mono fun ws μ1 α1 F1 H1 x1 r1 q1 vs rv => ?_⟩
  exact ⟨ws ++ ws0, μ1, α1, F1, r1, Paired.app rv (hw _ _), q1⟩
theorem se_call0 {dv : List V} {ds : List Value} {ws0 : List Wv} (G : FnG X.prog X.w X.K X.mg X.base k f fd ps (spG X.K X.mg n g)) (hr : Room k X.A) (hg : X.A.guards = some []) (gl : Gl X x) (hm : X.mg x = some (.ref f)) (hk : PySem.W.keepIn X.K (.ref f) = true) (hb : Binds X.K fd ps ds) (hd : Vals dv ds)
    (hw : ∀ α F, Rws X.K α F dv ws0) (tk : Takes X W) (hdb : (x == ("__debug__" : Str)) = false) : SE X W (.Call (.Name x p) [] [] pos) (eCall (fun ws μ => arity n g (ws ++ ws0) μ) aNil) := by
  refine (pe_callG0 (E := WE W) G hr hg gl hm hk hb hd (fun σ => passAt tk σ) hdb).imp fun σ H Q ⟨ρ, μ, α, F, r, re, q⟩ => ?_
  exact ⟨ws0, μ, α, F, r, hw _ _, q⟩
theorem _root_.L2.PK.imp {kws : List Keyword} {t t' : TA} (h : PK X kws t) (i : ∀ σ H Q, t' σ H Q → t σ H Q) : PK X kws t' := ⟨fun pos pins s σ H Q I q => h.run pos pins s σ H Q I (i _ _ _ q)⟩
abbrev SK (X : Cx) (W : WX) (kws : List Keyword) (f : Av) : Prop := PK X kws (tA X.K X.mg W f)
theorem sk_nil : SK X W [] aNil := pk_nil.imp fun σ H Q ⟨_, _, _, _, r, _, q⟩ => q.now r [] .nil
theorem sk_cons {nm : Option Str} {kpos : Pos} {kws : List Keyword} {a : Ev} (ha : SE X W e a) (hr : SK X W kws as) : SK X W (⟨nm, e, kpos⟩ :: kws) (aCons a as) := by
  refine (pk_cons ha hr).imp fun σ H Q ⟨ρ, μ, α, F, r, re, q⟩ => ?_
  refine ⟨ρ, μ, α, F, r, re, q.bind.mono fun w μ1 α1 F1 H1 x1 r1 q1 v rv => ?_⟩
  refine ⟨ρ, μ1, α1, F1, r1, re.ext x1, q1.bind.mono fun ws μ2 α2 F2 H2 x2 r2 q2 vs rvs => ?_⟩
  exact q2.now r2 (v :: vs) (.cons (rv.ext x2) rvs)
/-- f(k = e, ..) -/
theorem se_callK {ks : List Str} {kws : List Keyword} {pm : List Nat} {dv : List V} {ds : List Value} {ws0 : List Wv} (G : FnG X.prog X.w X.K X.mg X.base k f fd ps (spG X.K X.mg n g)) (hr : Room k X.A) (hg : X.A.guards = some []) (gl : Gl X x) (hm : X.mg x = some (.ref f)) (hk : PySem.W.keepIn X.K (.ref f) = true)
    (hb : KwBinds X.K fd ps ks pm ds) (hd : Vals dv ds) (hw : ∀ α F, Rws X.K α F dv ws0) (tk : Takes X W) (ha : SK X W kws as) (hall : (backToKw pos (keywordEach kws X.env)).all (·.1.isSome) = true) (hks : (backToKw pos (keywordEach kws X.env)).filterMap (·.1) = ks) (hdb : (x == ("__debug__" : Str)) = false)
    (hpl : ((backTo pos (starEach [] X.env)).any (·.1) || (backToKw pos (keywordEach kws X.env)).any (·.1.isNone)) = false) :
    SE X W (.Call (.Name x p) [] kws pos) (eCall (fun ws μ => arity n g (permL pm (ws ++ ws0)) μ) as) := by
  refine (pe_callGK (E := WE W) G hr hg gl hm hk hb hd (fun σ => passAt tk σ) ha hall hks hdb hpl).imp fun σ H Q ⟨ρ, μ, α, F, r, re, q⟩ => ?_
  refine ⟨ρ, μ, α, F, r, re, q.bind.mono fun ws μ1 α1 F1 H1 x1 r1 q1 vs rv => ?_⟩
  exact ⟨permL pm (ws ++ ws0), μ1, α1, F1, r1, permL_rel (Paired.app rv (hw _ _)) pm, q1⟩
end

/-! ### a def's semantic function -/
/-- behind the body: the def's own cells forgotten -/
def leave (n : Nat) (w : Wv) (μ : Mu) : Out Wv :=
  match w with
  | .d x => .ok (.d x) (μ.take n)
  | .r k => if k < n then .ok (.r k) (μ.take n) else match μ[k]? with
    | some (some c) => .ok (.r n) (μ.take n ++ [some c])
    | _ => .bad
  | .t _ => .bad
def initR (n : Nat) (ws : List Wv) : Rho := ws.map some ++ List.replicate (n - ws.length) none
def runD (n : Nat) (body : Sv) (ws : List Wv) (μ : Mu) : Out Wv :=
  match body (initR n ws) μ with
  | .ok (.rt w) μ' => leave μ.length w μ'
  | .ok (.nx _) μ' => leave μ.length (.d .none) μ'
  | .ok (.er x us _) μ' => match allD us with
    | some c => .err x (c.map Wv.d) (μ'.take μ.length)
    | none => .bad
  | _ => .bad
theorem allD_map : ∀ {us : List Wv} {c : Cell}, allD us = some c → us = c.map Wv.d
  | [], c, h => by
    cases h
    rfl
  | .d x :: r, c, h => by
    unfold allD at h
    obtain ⟨c', e, rfl⟩ := Option.map_eq_some_iff.mp h
    rw [allD_map e]
    rfl
  | .r k :: _, c, h => by cases h
  | .t _ :: _, c, h => by cases h
theorem Rws.data {K : PySem.W.Frag} {α α' : List Addr} {F : Hp} : ∀ {vs : List V} {c : Cell}, Rws K α F vs (c.map Wv.d) → Rws K α' F vs (c.map Wv.d)
  | [], [], _ => .nil
  | [], _ :: _, h => by cases h
  | _ :: _, [], h => by cases h
  | v :: vs, d :: c, h => by
    cases h with
    | cons r t => exact .cons (show Dq K F v d from r) (Rws.data t)
theorem gp_leave {K : PySem.W.Frag} {mg : Str → Option Value} {α α' : List Addr} {F F' H H' : Hp} {μ μ' : Mu} {w : Wv} {v : V} {Q : VK} {E : XK} (h : gp K mg α F H (leave μ.length w μ') (Gw K Q) E) (r0 : Rep K α F μ H) (e : Ext α F H α' F' H') (r : Rep K α' F' μ' H') (rv : Rw K α' F' v w) : Q v H' := by
  unfold leave at h
  cases w with
  | d x =>
    obtain ⟨r2, e2⟩ := r.drop e r0.len
    exact h.at e2 r2 v rv
  | t ds => exact h.elim
  | r k =>
    have h : gp K mg α F H (if k < μ.length then .ok (.r k) (μ'.take μ.length) else match μ'[k]? with
      | some (some c) => .ok (.r μ.length) (μ'.take μ.length ++ [some c])
      | _ => .bad) (Gw K Q) E := h
    split at h
    · rename_i hk
      obtain ⟨r2, e2⟩ := r.drop e r0.len
      obtain ⟨a, h1, rfl⟩ := rv
      obtain ⟨β, rfl⟩ := e.pre
      rw [List.getElem?_append_left (by rw [← r0.len]; exact hk)] at h1
      exact h.at e2 r2 _ ⟨a, h1, rfl⟩
    · rename_i hk
      split at h
      · rename_i c hc
        obtain ⟨a, g1, r2, e2⟩ := r.drop1 e r0.len (Nat.le_of_not_lt hk) hc
        obtain ⟨b, h1, rfl⟩ := rv
        rw [g1] at h1
        cases h1
        refine h.at e2 r2 _ ⟨a, ?_, rfl⟩
        rw [r0.len, List.getElem?_append_right (Nat.le_refl _), Nat.sub_self]
        rfl
      · exact h.elim
theorem repE_start {K : PySem.W.Frag} {α : List Addr} {F : Hp} {N : List Str} {vs : List V} {ws : List Wv} (h : Rws K α F vs ws) : RepE K α F (initR N.length ws) (L2.start N vs) := by
  refine ⟨?_, fun i w q => ?_⟩
  · unfold initR L2.start
    rw [List.length_append, List.length_append, List.length_map, List.length_map, List.length_replicate, List.length_replicate, h.length]
  · unfold initR at q
    by_cases hi : i < ws.length
    · rw [List.getElem?_append_left (by rw [List.length_map]; exact hi), List.getElem?_map] at q
      have hl : i < vs.length := by rw [h.length]; exact hi
      obtain ⟨v, w', h1, h2, hr⟩ := Paired.at_ h hl
      rw [h2] at q
      cases q
      refine ⟨v, ?_, hr⟩
      unfold L2.start
      rw [List.getElem?_append_left (by rw [List.length_map]; exact hl), List.getElem?_map, h1]
      rfl
    · rw [List.getElem?_append_right (by rw [List.length_map]; omega), List.getElem?_replicate] at q
      split at q <;> cases q
/-- THE RULE for a def: its body is sound for b -/
theorem fng_sem {P : Program} {w : World} {K : PySem.W.Frag} {mg : Str → Option Value} {base : Heap} {k : Nat} {f : Addr} {x qual : Str} {st : Stmt} {fd : FuncData} {N ps : List Str} {b : Sv}
    (F : Fun K x qual st f fd) (S : FnScope N ps (defScope st))
    (body : ∀ (cdv : Value) (A : Around) (outer : List Env) (s : Shared) (H : Hp) (E : XK), Room k (A.deeper (envOfC qual (defScope st) s.heap.objs.size f cdv)) → A.guards = some [] →
      SSs (cxOf (L2.CX P w) P w K mg base N qual (defScope st) f cdv A outer s H E) (fun cls d _ H => E cls d H) (defBody st) b) :
    FnG P w K mg base (k + 1) f fd ps (spG K mg ps.length (runD N.length b)) := by
  refine fng_of F S (fun vs H Q E h => h.len) fun cdv A outer s H vs Q E hr hg h => ⟨_, body cdv A outer s H E hr hg, ?_⟩
  obtain ⟨ws, μ, α, F0, r, rv, q⟩ := h
  refine ⟨initR N.length ws, μ, α, F0, r, repE_start rv, ?_⟩
  unfold arity at q
  split at q
  · unfold runD at q
    show gp K mg α F0 H (b (initR N.length ws) μ) (GS K mg _ _) _
    cases z : b (initR N.length ws) μ with
    | bad =>
      rw [z] at q
      exact q
    | err x us μ' =>
      rw [z] at q
      exact q.elim
    | ok fl μ' =>
      rw [z] at q
      intro α' F' H' e r'
      cases fl with
      | rt w1 => exact fun v hv => gp_leave q r e r' hv
      | nx ρ' => exact fun σ' _ => gp_leave (w := .d .none) q r e r' .non
      | bk ρ' => exact q.elim
      | ct ρ' => exact q.elim
      | er y us ρ' =>
        intro σ' C d fs _ h1 h2 h3
        have q : gp K mg α F0 H (match allD us with
          | some c => .err y (c.map Wv.d) (μ'.take μ.length)
          | none => .bad) (Gw K Q) E := q
        cases hc : allD us with
        | none =>
          rw [hc] at q
          exact q.elim
        | some c =>
          rw [hc] at q
          obtain ⟨r2, e2⟩ := r'.drop e r.len
          rw [allD_map hc] at h3
          exact q α F' H' C d fs e2 r2 h1 h2 h3.data
  · exact q.elim
end TL
/-! TL6: built-in functions and subscripts by data. -/
namespace TL
open PySem PySem.Spec L2

def intsOf : List PyData → Option (List Int)
  | [] => some []
  | .int i :: r => (intsOf r).map (i :: ·)
  | _ => none
def boolsOf : List PyData → Option (List Bool)
  | [] => some []
  | .bool i :: r => (boolsOf r).map (i :: ·)
  | _ => none
theorem intsOf_map : ∀ {xs : List PyData} {ns : List Int}, intsOf xs = some ns → xs = ns.map PyData.int
  | [], ns, h => by
    cases h
    rfl
  | .int i :: r, ns, h => by
    unfold intsOf at h
    obtain ⟨ms, e, rfl⟩ := Option.map_eq_some_iff.mp h
    rw [intsOf_map e]
    rfl
  | .none :: _, ns, h | .bool _ :: _, ns, h | .str _ :: _, ns, h | .list _ :: _, ns, h | .tuple _ :: _, ns, h | .dict _ :: _, ns, h => by cases h
theorem boolsOf_map : ∀ {xs : List PyData} {ns : List Bool}, boolsOf xs = some ns → xs = ns.map PyData.bool
  | [], ns, h => by
    cases h
    rfl
  | .bool i :: r, ns, h => by
    unfold boolsOf at h
    obtain ⟨ms, e, rfl⟩ := Option.map_eq_some_iff.mp h
    rw [boolsOf_map e]
    rfl
  | .none :: _, ns, h | .int _ :: _, ns, h | .str _ :: _, ns, h | .list _ :: _, ns, h | .tuple _ :: _, ns, h | .dict _ :: _, ns, h => by cases h
theorem intsOf_ints : ∀ ns : List Int, intsOf (ns.map PyData.int) = some ns
  | [] => rfl
  | n :: ns => by
    show (intsOf (ns.map PyData.int)).map (n :: ·) = _
    rw [intsOf_ints ns]
    rfl
theorem boolsOf_bools : ∀ ns : List Bool, boolsOf (ns.map PyData.bool) = some ns
  | [] => rfl
  | n :: ns => by
    show (boolsOf (ns.map PyData.bool)).map (n :: ·) = _
    rw [boolsOf_bools ns]
    rfl
/-- the greatest, the least -/
def maxI : Int → List Int → Int
  | m, [] => m
  | m, x :: r => maxI (if x > m then x else m) r
def minI : Int → List Int → Int
  | m, [] => m
  | m, x :: r => minI (if x < m then x else m) r
theorem maxI_spec : ∀ (r : List Int) (m : Int), maxI m r ∈ m :: r ∧ ∀ y ∈ m :: r, y ≤ maxI m r
  | [], m => ⟨List.mem_cons_self, fun y h => by
      simp at h
      subst h
      exact Int.le_refl _⟩
  | x :: r, m => by
    obtain ⟨h1, h2⟩ := maxI_spec r (if x > m then x else m)
    show maxI (if x > m then x else m) r ∈ _ ∧ ∀ y ∈ _, y ≤ maxI (if x > m then x else m) r
    have h3 := h2 _ List.mem_cons_self
    refine ⟨?_, fun y hy => ?_⟩
    · rcases List.mem_cons.mp h1 with e | e
      · rw [e]
        split <;> simp
      · exact List.mem_cons_of_mem _ (List.mem_cons_of_mem _ e)
    · rcases List.mem_cons.mp hy with rfl | hy
      · exact Int.le_trans (by split <;> omega) h3
      · rcases List.mem_cons.mp hy with rfl | hy
        · exact Int.le_trans (by split <;> omega) h3
        · exact h2 y (List.mem_cons_of_mem _ hy)
theorem minI_spec : ∀ (r : List Int) (m : Int), minI m r ∈ m :: r ∧ ∀ y ∈ m :: r, minI m r ≤ y
  | [], m => ⟨List.mem_cons_self, fun y h => by
      simp at h
      subst h
      exact Int.le_refl _⟩
  | x :: r, m => by
    obtain ⟨h1, h2⟩ := minI_spec r (if x < m then x else m)
    show minI (if x < m then x else m) r ∈ _ ∧ ∀ y ∈ _, minI (if x < m then x else m) r ≤ y
    have h3 := h2 _ List.mem_cons_self
    refine ⟨?_, fun y hy => ?_⟩
    · rcases List.mem_cons.mp h1 with e | e
      · rw [e]
        split <;> simp
      · exact List.mem_cons_of_mem _ (List.mem_cons_of_mem _ e)
    · rcases List.mem_cons.mp hy with rfl | hy
      · exact Int.le_trans h3 (by split <;> omega)
      · rcases List.mem_cons.mp hy with rfl | hy
        · exact Int.le_trans h3 (by split <;> omega)
        · exact h2 y (List.mem_cons_of_mem _ hy)

/-! ### what they compute -/
def gLen : List Wv → Mu → Out Wv
  | [w], μ => match dataOf μ w with
    | some (.tuple xs) => .ok (wI xs.length) μ
    | some (.list xs) => .ok (wI xs.length) μ
    | some (.str x) => if x.length ≤ 16777216 then .ok (wI x.length) μ else .bad
    | _ => .bad
  | _, _ => .bad
def gAbs : List Wv → Mu → Out Wv
  | [.d (.int i)], μ => .ok (wI (if i < 0 then -i else i)) μ
  | _, _ => .bad
def gMax : List Wv → Mu → Out Wv
  | [.d (.int i), .d (.int j)], μ => .ok (wI (if j > i then j else i)) μ
  | [w], μ => match dataOf μ w with
    | some (.list xs) => match intsOf xs with
      | some (m :: r) => .ok (wI (maxI m r)) μ
      | _ => .bad
    | _ => .bad
  | _, _ => .bad
def gMin : List Wv → Mu → Out Wv
  | [.d (.int i), .d (.int j)], μ => .ok (wI (if j < i then j else i)) μ
  | [w], μ => match dataOf μ w with
    | some (.list xs) => match intsOf xs with
      | some (m :: r) => .ok (wI (minI m r)) μ
      | _ => .bad
    | _ => .bad
  | _, _ => .bad
def gInt : List Wv → Mu → Out Wv
  | [w], μ => match numOf w with
    | some i => .ok (wI i) μ
    | none => .bad
  | _, _ => .bad
def gStr : List Wv → Mu → Out Wv
  | [.d (.int i)], μ => if i.natAbs.log2 < 1920 then .ok (wS (toString i)) μ else .bad
  | [.d (.str x)], μ => .ok (wS x) μ
  | _, _ => .bad
def gSum : List Wv → Mu → Out Wv
  | [w], μ => match dataOf μ w with
    | some (.list xs) => match intsOf xs with
      | some ns => .ok (wI ns.sum) μ
      | none => .bad
    | _ => .bad
  | _, _ => .bad
def gAll : List Wv → Mu → Out Wv
  | [w], μ => match dataOf μ w with
    | some (.list xs) => match boolsOf xs with
      | some bs => .ok (wBl (bs.all id)) μ
      | none => .bad
    | _ => .bad
  | _, _ => .bad
def gAny : List Wv → Mu → Out Wv
  | [w], μ => match dataOf μ w with
    | some (.list xs) => match boolsOf xs with
      | some bs => .ok (wBl (bs.any id)) μ
      | none => .bad
    | _ => .bad
  | _, _ => .bad
def gTuple : List Wv → Mu → Out Wv
  | [w], μ => match dataOf μ w with
    | some (.list xs) => .ok (wT xs) μ
    | some (.tuple xs) => .ok (wT xs) μ
    | _ => .bad
  | _, _ => .bad
def gDivmod : List Wv → Mu → Out Wv
  | [.d (.int i), .d (.int j)], μ => if 0 < j ∧ Builtin.divisionGoesByPylong i j = false then .ok (wT [.int (i / j), .int (i % j)]) μ else .bad
  | _, _ => .bad
def gGcd : List Wv → Mu → Out Wv
  | [.d (.int i), .d (.int j)], μ => .ok (wI ((Nat.gcd i.natAbs j.natAbs : Nat) : Int)) μ
  | _, _ => .bad
def reprOk (x : PyData) : Bool := x.showable && decide (x.shown.length ≤ 16777216) && decide (x.depth ≤ 60) && !x.hasDict
def gRepr : List Wv → Mu → Out Wv
  | [w], μ => match dataOf μ w with
    | some x => if reprOk x = true then .ok (wS x.shown) μ else .bad
    | none => .bad
  | _, _ => .bad
/-- the list that list(x) makes -/
def gList : List Wv → Mu → Out Cell
  | [w], μ => match dataOf μ w with
    | some (.list xs) => .ok xs μ
    | some (.tuple xs) => .ok xs μ
    | _ => .bad
  | _, _ => .bad

section
variable {X : Cx} {K : PySem.W.Frag} {α : List Addr} {F H : Hp} {μ : Mu} {mg : Str → Option Value}
theorem rws1 {xs : List V} {w : Wv} (h : Rws K α F xs [w]) : ∃ v, xs = [v] ∧ Rw K α F v w := by
  cases h with
  | cons r t =>
    cases t
    exact ⟨_, rfl, r⟩
theorem rws2 {xs : List V} {w u : Wv} (h : Rws K α F xs [w, u]) : ∃ v v', xs = [v, v'] ∧ Rw K α F v w ∧ Rw K α F v' u := by
  cases h with
  | cons r t =>
    obtain ⟨v', rfl, r'⟩ := rws1 t
    exact ⟨_, _, rfl, r, r'⟩
/-- one argument, its data known -/
theorem data1 {xs : List V} {w : Wv} {x : PyData} (r : Rep K α F μ H) (h : Rws K α F xs [w]) (e : dataOf μ w = some x) : ∃ v, xs = [v] ∧ Dq K H v x := by
  obtain ⟨v, rfl, q⟩ := rws1 h
  exact ⟨v, rfl, data_ok r e q⟩
theorem cr_gLen : CallR X (.builtin "len") (rnG X.K X.mg gLen) := by
  intro pins s σ H xs us Q I ru ⟨μ, α, F, ws, r, h, q⟩
  unfold gLen at q
  split at q
  · split at q
    · rename_i e
      obtain ⟨v, rfl, d⟩ := data1 r h e
      cases d with
      | tup hs ha => exact call_len_seq pins s σ H _ us Q I ru ⟨_, _, rfl, .inr hs, by rw [ha.length]; exact q.now r _ (.int _)⟩
    · rename_i e
      obtain ⟨v, rfl, d⟩ := data1 r h e
      cases d with
      | lst hs ha => exact call_len_seq pins s σ H _ us Q I ru ⟨_, _, rfl, .inl hs.sq, by rw [ha.length]; exact q.now r _ (.int _)⟩
    · rename_i e
      obtain ⟨v, rfl, d⟩ := data1 r h e
      split at q
      · rename_i hl
        cases d
        exact call_len_str pins s σ H _ us Q I ru ⟨_, rfl, le_line hl, q.now r _ (.int _)⟩
      · exact q.elim
    · exact q.elim
  · exact q.elim
theorem cr_gAbs : CallR X (.builtin "abs") (rnG X.K X.mg gAbs) := by
  intro pins s σ H xs us Q I ru ⟨μ, α, F, ws, r, h, q⟩
  unfold gAbs at q
  split at q
  · obtain ⟨v, rfl, d⟩ := rws1 h
    cases d
    exact call_abs pins s σ H _ us Q I ru ⟨_, rfl, q.now r _ (.int _)⟩
  · exact q.elim
theorem cr_gMax (hc : X.calm = true) : CallR X (.builtin "max") (rnG X.K X.mg gMax) := by
  intro pins s σ H xs us Q I ru ⟨μ, α, F, ws, r, h, q⟩
  unfold gMax at q
  split at q
  · obtain ⟨v, v', rfl, d, d'⟩ := rws2 h
    cases d
    cases d'
    exact call_max2 hc pins s σ H _ us Q I ru ⟨_, _, rfl, q.now r _ (.int _)⟩
  · split at q
    · rename_i e
      obtain ⟨v, rfl, d⟩ := data1 r h e
      split at q
      · rename_i m rest e2
        cases d with
        | lst hs ha =>
          have e3 := intsOf_map e2
          rw [e3] at ha
          have e4 := ha.ints
          subst e4
          obtain ⟨m1, m2⟩ := maxI_spec rest m
          refine cr_max hc pins s σ H _ us Q I ru ⟨_, m :: rest, rfl, hs.sq, Nat.succ_pos _, fun z hz hmax => ?_⟩
          have ez : z = maxI m rest := Int.le_antisymm (m2 z hz) (hmax _ m1)
          rw [ez]
          exact q.now r _ (.int _)
      · exact q.elim
    · exact q.elim
  · exact q.elim
theorem cr_gMin (hc : X.calm = true) : CallR X (.builtin "min") (rnG X.K X.mg gMin) := by
  intro pins s σ H xs us Q I ru ⟨μ, α, F, ws, r, h, q⟩
  unfold gMin at q
  split at q
  · obtain ⟨v, v', rfl, d, d'⟩ := rws2 h
    cases d
    cases d'
    exact call_min2 hc pins s σ H _ us Q I ru ⟨_, _, rfl, q.now r _ (.int _)⟩
  · split at q
    · rename_i e
      obtain ⟨v, rfl, d⟩ := data1 r h e
      split at q
      · rename_i m rest e2
        cases d with
        | lst hs ha =>
          have e3 := intsOf_map e2
          rw [e3] at ha
          have e4 := ha.ints
          subst e4
          obtain ⟨m1, m2⟩ := minI_spec rest m
          refine cr_min hc pins s σ H _ us Q I ru ⟨_, m :: rest, rfl, hs.sq, Nat.succ_pos _, fun z hz hmin => ?_⟩
          have ez : z = minI m rest := Int.le_antisymm (hmin _ m1) (m2 z hz)
          rw [ez]
          exact q.now r _ (.int _)
      · exact q.elim
    · exact q.elim
  · exact q.elim
theorem cr_gInt : CallR X (.type "int") (rnG X.K X.mg gInt) := by
  intro pins s σ H xs us Q I ru ⟨μ, α, F, ws, r, h, q⟩
  unfold gInt at q
  split at q
  · split at q
    · rename_i e
      obtain ⟨v, rfl, d⟩ := rws1 h
      rcases num_ok e d with rfl | ⟨b, rfl, rfl⟩
      · exact call_int1 pins s σ H _ us Q I ru (.inl ⟨_, rfl, q.now r _ (.int _)⟩)
      · refine call_int1 pins s σ H _ us Q I ru (.inr ⟨b, rfl, ?_⟩)
        exact q.now r _ (.int _)
    · exact q.elim
  · exact q.elim
theorem cr_gStr : CallR X (.type "str") (rnG X.K X.mg gStr) := by
  intro pins s σ H xs us Q I ru ⟨μ, α, F, ws, r, h, q⟩
  unfold gStr at q
  split at q
  · split at q
    · rename_i hl
      obtain ⟨v, rfl, d⟩ := rws1 h
      cases d
      exact call_str_int pins s σ H _ us Q I ru ⟨_, rfl, hl, q.now r _ (.str _)⟩
    · exact q.elim
  · obtain ⟨v, rfl, d⟩ := rws1 h
    cases d
    exact SkE.call_str_str pins s σ H _ us Q I ru ⟨_, rfl, q.now r _ (.str _)⟩
  · exact q.elim
theorem cr_gSum (hc : X.calm = true) : CallR X (.builtin "sum") (rnG X.K X.mg gSum) := by
  intro pins s σ H xs us Q I ru ⟨μ, α, F, ws, r, h, q⟩
  unfold gSum at q
  split at q
  · split at q
    · rename_i e
      obtain ⟨v, rfl, d⟩ := data1 r h e
      split at q
      · rename_i ns e2
        cases d with
        | lst hs ha =>
          have e3 := intsOf_map e2
          rw [e3] at ha
          have e4 := ha.ints
          subst e4
          exact cr_sum hc pins s σ H _ us Q I ru ⟨_, ns, rfl, hs.sq, q.now r _ (.int _)⟩
      · exact q.elim
    · exact q.elim
  · exact q.elim
theorem cr_gAll (hc : X.calm = true) : CallR X (.builtin "all") (rnG X.K X.mg gAll) := by
  intro pins s σ H xs us Q I ru ⟨μ, α, F, ws, r, h, q⟩
  unfold gAll at q
  split at q
  · split at q
    · rename_i e
      obtain ⟨v, rfl, d⟩ := data1 r h e
      split at q
      · rename_i ns e2
        cases d with
        | lst hs ha =>
          have e3 := boolsOf_map e2
          rw [e3] at ha
          have e4 := ha.bools
          subst e4
          exact cr_all hc pins s σ H _ us Q I ru ⟨_, ns, rfl, hs.sq, q.now r _ (.bl _)⟩
      · exact q.elim
    · exact q.elim
  · exact q.elim
theorem cr_gAny (hc : X.calm = true) : CallR X (.builtin "any") (rnG X.K X.mg gAny) := by
  intro pins s σ H xs us Q I ru ⟨μ, α, F, ws, r, h, q⟩
  unfold gAny at q
  split at q
  · split at q
    · rename_i e
      obtain ⟨v, rfl, d⟩ := data1 r h e
      split at q
      · rename_i ns e2
        cases d with
        | lst hs ha =>
          have e3 := boolsOf_map e2
          rw [e3] at ha
          have e4 := ha.bools
          subst e4
          exact cr_any hc pins s σ H _ us Q I ru ⟨_, ns, rfl, hs.sq, q.now r _ (.bl _)⟩
      · exact q.elim
    · exact q.elim
  · exact q.elim
theorem cr_gTuple : CallR X (.type "tuple") (rnG X.K X.mg gTuple) := by
  intro pins s σ H xs us Q I ru ⟨μ, α, F, ws, r, h, q⟩
  unfold gTuple at q
  split at q
  · rename_i w
    split at q
    · rename_i zs e
      obtain ⟨v, rfl, q0⟩ := rws1 h
      -- the items are frozen data, wherever the list stands
      obtain ⟨a, vs, rfl, hs, ha⟩ : ∃ a vs, v = .ref a ∧ SqL X.K H a vs ∧ DqAll X.K F vs zs := by
        cases w with
        | d y =>
          cases e
          cases q0 with
          | lst hs ha => exact ⟨_, _, rfl, (sameL r.sub hs).sq, ha⟩
        | t ds => cases e
        | r k =>
          have e : (μ[k]?.join).map PyData.list = some (.list zs) := e
          obtain ⟨c, e1, e2⟩ := Option.map_eq_some_iff.mp e
          cases e2
          have e' : μ[k]? = some (some zs) := by
            cases z : μ[k]? with
            | none =>
              rw [z] at e1
              cases e1
            | some o =>
              rw [z] at e1
              have e3 : o = some zs := e1
              rw [e3]
          obtain ⟨a, vs, h1, h2, h3, h4⟩ := r.cell k zs e'
          obtain ⟨b, g1, rfl⟩ := q0
          rw [h1] at g1
          cases g1
          exact ⟨a, vs, rfl, .of h2, h4⟩
      refine call_tuple_of pins s σ H _ us Q I ru ⟨a, vs, rfl, .inl ⟨hs, fun p hp => ?_⟩⟩
      obtain ⟨r2, x2⟩ := r.new (o := .tup vs) hp
      exact q.at x2 r2 _ (.tup (.of upd_same) (ha.mono x2.fro))
    · rename_i zs e
      obtain ⟨v, rfl, q0⟩ := rws1 h
      cases w with
      | d y =>
        cases e
        cases q0 with
        | tup hs ha => exact call_tuple_of pins s σ H _ us Q I ru ⟨_, _, rfl, .inr ⟨sameT r.sub hs, q.now r _ (.tup hs ha)⟩⟩
      | t ds => cases e
      | r k =>
        have e : (μ[k]?.join).map PyData.list = some (.tuple zs) := e
        obtain ⟨c, e1, e2⟩ := Option.map_eq_some_iff.mp e
        cases e2
    · exact q.elim
  · exact q.elim
theorem cr_gDivmod : CallR X (.builtin "divmod") (rnG X.K X.mg gDivmod) := by
  intro pins s σ H xs us Q I ru ⟨μ, α, F, ws, r, h, q⟩
  unfold gDivmod at q
  split at q
  · split at q
    · rename_i i j hj
      obtain ⟨v, v', rfl, d, d'⟩ := rws2 h
      cases d
      cases d'
      refine call_divmodW pins s σ H _ us Q I ru ⟨_, _, rfl, hj, fun p hp => ?_⟩
      obtain ⟨r2, x2⟩ := r.new (o := .tup [.int (i / j), .int (i % j)]) hp
      exact q.at x2 r2 _ (.tup (.of upd_same) (.cons (.int _) (.cons (.int _) .nil)))
    · exact q.elim
  · exact q.elim
theorem cr_gGcd : CallR X (.builtin "math.gcd") (rnG X.K X.mg gGcd) := by
  intro pins s σ H xs us Q I ru ⟨μ, α, F, ws, r, h, q⟩
  unfold gGcd at q
  split at q
  · obtain ⟨v, v', rfl, d, d'⟩ := rws2 h
    cases d
    cases d'
    exact cr_gcd pins s σ H _ us Q I ru ⟨_, _, rfl, q.now r _ (.int _)⟩
  · exact q.elim
theorem cr_gRepr (hg : X.A.guards = some []) (hu : X.A.units + 64 < cLine) : CallR X (.builtin "repr") (rnG X.K X.mg gRepr) := by
  intro pins s σ H xs us Q I ru ⟨μ, α, F, ws, r, h, q⟩
  unfold gRepr at q
  split at q
  · split at q
    · rename_i x e
      split at q
      · rename_i ok
        obtain ⟨v, rfl, d⟩ := data1 r h e
        unfold reprOk at ok
        simp only [Bool.and_eq_true, decide_eq_true_eq, Bool.not_eq_true'] at ok
        obtain ⟨⟨⟨k1, k2⟩, k3⟩, k4⟩ := ok
        obtain ⟨u, rfl, rw1⟩ := vals1 ru
        have q := q.now r _ (.str _)
        obtain ⟨as, d2, _⟩ := Dq.reads I x v u d rw1
        have k2' : x.shown.length ≤ sizeLine := le_line k2
        have nd : x.hasDict = true → sysModules ∉ as := fun z => by rw [k4] at z; cases z
        cases d2 with
        | none =>
          simp only [PyData.shown] at q
          exact PySem.P.repr_of_none ⟨.str _, H, I.tok _, ⟨_, rfl⟩, q⟩
        | bool b =>
          simp only [PyData.shown] at q
          exact PySem.P.repr_of_bool ⟨.str _, H, I.tok _, ⟨_, rfl⟩, q⟩
        | int i t =>
          simp only [PyData.shown] at q
          exact PySem.P.repr_of_int (by simpa [PyData.showable] using k1) ⟨.str _, H, I.tok _, ⟨_, rfl⟩, q⟩
        | str z t =>
          simp only [PyData.shown] at q k2'
          exact PySem.P.repr_of_str ⟨.str _, H, I.tok _, ⟨_, rfl⟩, q⟩ k2'
        | list h1 h2 h3 h4 => exact repr_of_reads' (.list h1 h2 h3 h4) k1 nd hg (by omega) (fun _ _ z => z) (fun h' u tk hk => ⟨.str _, H, I.kept hk, ⟨_, rfl⟩, q⟩) k2'
        | tuple h1 h2 h3 h4 => exact repr_of_reads' (.tuple h1 h2 h3 h4) k1 nd hg (by omega) (fun _ _ z => z) (fun h' u tk hk => ⟨.str _, H, I.kept hk, ⟨_, rfl⟩, q⟩) k2'
        | dict h1 h2 h3 h4 h5 => exact repr_of_reads' (.dict h1 h2 h3 h4 h5) k1 nd hg (by omega) (fun _ _ z => z) (fun h' u tk hk => ⟨.str _, H, I.kept hk, ⟨_, rfl⟩, q⟩) k2'
      · exact q.elim
    · exact q.elim
  · exact q.elim
end

/-! ### calls of them -/
section
variable {X : Cx} {W : WX} {x : Str} {p pos : Pos} {e : Expr} {es : List Expr} {as : Av} {id T : String} {g : List Wv → Mu → Out Wv}
theorem se_bi (hc : CallR X (.builtin id) (rnG X.K X.mg g)) (hg : Gl X x) (hm : X.mg x = none) (hv : bootBuiltins x = some (.builtin id)) (ha : SA X W (e :: es) as) (hn : x ≠ "__name__") (hdb : (x == ("__debug__" : Str)) = false)
    (he : starEach (e :: es) X.env = (false, eval e X.env) :: starEach es X.env) (hpl : (backTo pos (starEach es X.env)).any (·.1) = false) : SE X W (.Call (.Name x p) (e :: es) [] pos) (en g as) := by
  refine (pe_callB hc hg hm hv ha hn hdb he hpl).imp fun σ H Q ⟨ρ, μ, α, F, r, re, q⟩ => ?_
  refine ⟨ρ, μ, α, F, r, re, q.bind.mono fun ws μ1 α1 F1 H1 x1 r1 q1 vs rv => ?_⟩
  exact ⟨μ1, α1, F1, ws, r1, rv, q1.calm⟩
theorem se_bif (hc : CallR X (.builtin id) (rnG X.K X.mg g)) (hg : Gl X x) (hm : X.mg x = some (.builtin id)) (ha : SA X W (e :: es) as) (hdb : (x == ("__debug__" : Str)) = false)
    (he : starEach (e :: es) X.env = (false, eval e X.env) :: starEach es X.env) (hpl : (backTo pos (starEach es X.env)).any (·.1) = false) : SE X W (.Call (.Name x p) (e :: es) [] pos) (en g as) := by
  refine (pe_callBfun hc hg hm ha hdb he hpl).imp fun σ H Q ⟨ρ, μ, α, F, r, re, q⟩ => ?_
  refine ⟨ρ, μ, α, F, r, re, q.bind.mono fun ws μ1 α1 F1 H1 x1 r1 q1 vs rv => ?_⟩
  exact ⟨μ1, α1, F1, ws, r1, rv, q1.calm⟩
theorem se_ty (hc : CallR X (.type T) (rnG X.K X.mg g)) (hg : Gl X x) (hm : X.mg x = none) (hv : bootBuiltins x = some (.type T)) (ha : SA X W (e :: es) as) (hn : x ≠ "__name__") (hdb : (x == ("__debug__" : Str)) = false)
    (he : starEach (e :: es) X.env = (false, eval e X.env) :: starEach es X.env) (hpl : (backTo pos (starEach es X.env)).any (·.1) = false) : SE X W (.Call (.Name x p) (e :: es) [] pos) (en g as) := by
  refine (pe_callTy hc hg hm hv ha hn hdb he hpl).imp fun σ H Q ⟨ρ, μ, α, F, r, re, q⟩ => ?_
  refine ⟨ρ, μ, α, F, r, re, q.bind.mono fun ws μ1 α1 F1 H1 x1 r1 q1 vs rv => ?_⟩
  exact ⟨μ1, α1, F1, ws, r1, rv, q1.calm⟩
/-- list(e) -/
def lList (as : Av) : Lv := fun ρ μ => (as ρ μ).bind fun ws μ1 => calm (gList ws μ1)
theorem items_of {α : List Addr} {F H : Hp} {μ : Mu} {v : V} {w : Wv} {zs : List PyData} {K : PySem.W.Frag} (r : Rep K α F μ H) (e : dataOf μ w = some (.list zs)) (q0 : Rw K α F v w) : ∃ a vs, v = .ref a ∧ Ls K H a vs ∧ DqAll K F vs zs := by
  cases w with
  | d y =>
    cases e
    cases q0 with
    | lst hs ha => exact ⟨_, _, rfl, sameL r.sub hs, ha⟩
  | t ds => cases e
  | r k =>
    have e : (μ[k]?.join).map PyData.list = some (.list zs) := e
    obtain ⟨c, e1, e2⟩ := Option.map_eq_some_iff.mp e
    cases e2
    have e' : μ[k]? = some (some zs) := by
      cases z : μ[k]? with
      | none =>
        rw [z] at e1
        cases e1
      | some o =>
        rw [z] at e1
        have e3 : o = some zs := e1
        rw [e3]
    obtain ⟨a, vs, h1, h2, h3, h4⟩ := r.cell k zs e'
    obtain ⟨b, g1, rfl⟩ := q0
    rw [h1] at g1
    cases g1
    exact ⟨a, vs, rfl, .of h2, h4⟩
theorem tup_of {α : List Addr} {F H : Hp} {μ : Mu} {v : V} {w : Wv} {zs : List PyData} {K : PySem.W.Frag} (r : Rep K α F μ H) (e : dataOf μ w = some (.tuple zs)) (q0 : Rw K α F v w) : w = .d (.tuple zs) ∧ ∃ a vs, v = .ref a ∧ SqT K F a vs ∧ DqAll K F vs zs := by
  cases w with
  | d y =>
    cases e
    cases q0 with
    | tup hs ha => exact ⟨rfl, _, _, rfl, hs, ha⟩
  | t ds => cases e
  | r k =>
    have e : (μ[k]?.join).map PyData.list = some (.tuple zs) := e
    obtain ⟨c, e1, e2⟩ := Option.map_eq_some_iff.mp e
    cases e2
theorem fresh0 {α α' : List Addr} {F F' H H' : Hp} (x : Ext α F H α' F' H') {p : Addr} (hp : H' p = none) : H p = none := by
  by_cases z : H p = none
  · exact z
  · exact absurd hp (x.keep p z)
theorem sl_list (hg : Gl X x) (hm : X.mg x = none) (hv : bootBuiltins x = some (.type "list")) (ha : SA X W (e :: es) as) (hn : x ≠ "__name__") (hdb : (x == ("__debug__" : Str)) = false)
    (he : starEach (e :: es) X.env = (false, eval e X.env) :: starEach es X.env) (hpl : (backTo pos (starEach es X.env)).any (·.1) = false) : SL X W (.Call (.Name x p) (e :: es) [] pos) (lList as) := by
  refine (pe_callTy call_list_of hg hm hv ha hn hdb he hpl).imp fun σ H Q ⟨ρ, μ, α, F, r, re, q⟩ => ?_
  refine ⟨ρ, μ, α, F, r, re, q.bind0.mono fun ws μ1 α1 F1 H1 x1 r1 q1 vs rv => ?_⟩
  have q1 : gp X.K X.mg α F H (gList ws μ1) (Gl' X.K H Q) (fun _ _ _ => False) := gp.calm q1
  have fin : ∀ {zs : List PyData} {us : List V}, gList ws μ1 = .ok zs μ1 → DqAll X.K F1 us zs → ∀ l, H1 l = none → Q (.ref l) (upd H1 l (.lst us)) := fun {zs us} e d l hl => by
    rw [e] at q1
    obtain ⟨r2, x2⟩ := r1.side (o := .lst us) hl
    exact q1.at (x1.trans x2) r2 l us (fresh0 x1 hl) upd_same (r1.sub.free hl) (fun m => r1.had l m hl) d
  have q2 := q1
  unfold gList at q2
  split at q2
  · rename_i w
    split at q2
    · rename_i zs e
      obtain ⟨v, rfl, q0⟩ := rws1 rv
      obtain ⟨a, us, rfl, hs, d⟩ := items_of r1 e q0
      exact ⟨a, us, rfl, .inl hs.sq, fin (by simp only [gList, e]) d⟩
    · rename_i zs e
      obtain ⟨v, rfl, q0⟩ := rws1 rv
      obtain ⟨rfl, a, us, rfl, hs, d⟩ := tup_of r1 e q0
      exact ⟨a, us, rfl, .inr (sameT r1.sub hs), fin rfl d⟩
    · exact q2.elim
  · exact q2.elim
end
end TL
/-! TL7: subscripts, slices, x[::-1], isinstance. -/
namespace TL
open PySem PySem.Spec L2

theorem atI_rel {K : PySem.W.Frag} {F : Hp} {vs : List V} {ds : List PyData} {k : Int} {d : PyData} (h : DqAll K F vs ds) (e : atI ds k = some d) : ∃ v, atI vs k = some v ∧ Dq K F v d := by
  unfold atI at e ⊢
  rw [h.length]
  cases z : ixN ds.length k with
  | none =>
    rw [z] at e
    cases e
  | some j =>
    rw [z] at e
    exact h.get e
/-- x[i] -/
def gIx (a i : Wv) (μ : Mu) : Out Wv :=
  match dataOf μ a, i with
  | some (.tuple xs), .d (.int k) => match atI xs k with
    | some x => .ok (.d x) μ
    | none => .bad
  | some (.list xs), .d (.int k) => match atI xs k with
    | some x => .ok (.d x) μ
    | none => .bad
  | some (.str z), .d (.int k) => if z.length ≤ 16777216 then match atI z.cps.toList k with
    | some c => .ok (wS ⟨#[c]⟩) μ
    | none => .bad else .bad
  | _, _ => .bad
/-- the part from lo up to hi -/
def cutL {β : Type} (xs : List β) (lo hi : Option Int) : List β := (xs.drop (HT.sIx xs.length 0 lo)).take (HT.sIx xs.length xs.length hi - HT.sIx xs.length 0 lo)
/-- x[lo:hi] -/
def gSl (a : Wv) (lo hi : Option Int) (μ : Mu) : Out Wv :=
  match dataOf μ a with
  | some (.tuple xs) => .ok (wT (cutL xs lo hi)) μ
  | some (.list xs) => .ok (wL (cutL xs lo hi)) μ
  | some (.str z) => if z.length ≤ 16777216 then .ok (wS (cutS z lo hi)) μ else .bad
  | _ => .bad
/-- x[::-1] -/
def gRev (a : Wv) (μ : Mu) : Out Wv :=
  match dataOf μ a with
  | some (.tuple xs) => .ok (wT xs.reverse) μ
  | some (.list xs) => .ok (wL xs.reverse) μ
  | _ => .bad
section
variable {X : Cx} {W : WX}
theorem ix_g : IxR X (r2G X.K X.mg gIx) := by
  intro value slice pins s σ H x y v u Q I rx ry ⟨μ, α, F, w1, w2, r, h1, h2, q⟩ hs
  unfold gIx at q
  split at q
  · rename_i xs k e
    split at q
    · rename_i d ed
      obtain ⟨rfl, a, vs, rfl, hv, da⟩ := tup_of r e h1
      cases h2
      obtain ⟨v', e1, e2⟩ := atI_rel da ed
      exact ix_seq value slice pins s σ H _ _ v u Q I rx ry (.inr (.inl ⟨a, vs, k, v', rfl, rfl, sameT r.sub hv, e1, q.now r _ e2⟩)) hs
    · exact q.elim
  · rename_i xs k e
    split at q
    · rename_i d ed
      obtain ⟨a, vs, rfl, hv, da⟩ := items_of r e h1
      cases h2
      obtain ⟨v', e1, e2⟩ := atI_rel da ed
      exact ix_seq value slice pins s σ H _ _ v u Q I rx ry (.inl ⟨a, vs, k, v', rfl, rfl, hv.sq, e1, q.now r _ e2⟩) hs
    · exact q.elim
  · rename_i z k e
    split at q
    · rename_i hl
      split at q
      · rename_i c ec
        have d1 := data_ok r e h1
        cases d1
        cases h2
        exact ix_seq value slice pins s σ H _ _ v u Q I rx ry (.inr (.inr ⟨z, k, c, rfl, rfl, le_line hl, ec, q.now r _ (.str _)⟩)) hs
      · exact q.elim
    · exact q.elim
  · exact q.elim
theorem se_ix {a b : Expr} {pos : Pos} {fa fb : Ev} (ha : SE X W a fa) (hb : SE X W b fb) (hs : PlainIx b) : SE X W (.Subscript a b pos) (e2 gIx fa fb) := by
  refine (pe_ix ix_g ha hb hs).imp fun σ H Q ⟨ρ, μ, α, F, r, re, q⟩ => ?_
  refine ⟨ρ, μ, α, F, r, re, q.bind.mono fun w μ1 α1 F1 H1 x1 r1 q1 v rv => ?_⟩
  refine ⟨ρ, μ1, α1, F1, r1, re.ext x1, q1.bind.mono fun u μ2 α2 F2 H2 x2 r2 q2 v' rv' => ?_⟩
  exact ⟨μ2, α2, F2, w, u, r2, rv.ext x2, rv', q2.calm⟩
def oPart (f : Option Ev) (ρ : Rho) (μ : Mu) : Out (Option Int) :=
  match f with
  | none => .ok none μ
  | some f => (f ρ μ).bind fun w μ1 => match w with
    | .d (.int i) => .ok (some i) μ1
    | _ => .bad
def tO' (K : PySem.W.Frag) (mg : Str → Option Value) (W : WX) (f : Option Ev) : TO := fun σ H Q => ∃ ρ μ α F, Rep K α F μ H ∧ RepE K α F ρ σ ∧ gp K mg α F H (oPart f ρ μ) (fun o _ _ _ H' => Q o H') (fun c d H' => W c d σ H')
/-- a part of a slice -/
abbrev SO (X : Cx) (W : WX) (e : Option Expr) (f : Option Ev) : Prop := PO X e (tO' X.K X.mg W f)
theorem _root_.L2.PO.imp {e : Option Expr} {t t' : TO} (h : PO X e t) (i : ∀ σ H Q, t' σ H Q → t σ H Q) : PO X e t' := ⟨fun pins s σ H Q I q => h.run pins s σ H Q I (i _ _ _ q)⟩
theorem so_none : SO X W none none := po_none.imp fun σ H Q ⟨_, _, _, _, r, _, q⟩ => gp.now (c := (none : Option Int)) q r
theorem so_some {e : Expr} {f : Ev} (h : SE X W e f) : SO X W (some e) (some f) := by
  refine (po_some h).imp fun σ H Q ⟨ρ, μ, α, F, r, re, q⟩ => ?_
  have q : gp X.K X.mg α F H ((f ρ μ).bind fun w μ1 => match w with
    | .d (.int i) => .ok (some i) μ1
    | _ => .bad) (fun o _ _ _ H' => Q o H') (fun c d H' => W c d σ H') := q
  refine ⟨ρ, μ, α, F, r, re, q.bind.mono fun w μ1 α1 F1 H1 x1 r1 q1 v rv => ?_⟩
  split at q1
  · cases rv
    exact ⟨_, rfl, q1.now r1⟩
  · exact q1.elim
def rSG (K : PySem.W.Frag) (mg : Str → Option Value) : V → Option Int → Option Int → Hp → VK → Prop := fun x lo hi H Q => ∃ μ α F w, Rep K α F μ H ∧ Rw K α F x w ∧ gp K mg α F H (gSl w lo hi μ) (Gw K Q) (fun _ _ _ => False)
theorem DqAll.cut {K : PySem.W.Frag} {F : Hp} {vs : List V} {ds : List PyData} (h : DqAll K F vs ds) (lo hi : Option Int) : DqAll K F (cutV vs lo hi) (cutL ds lo hi) := by
  unfold cutV cutL
  rw [h.length]
  exact (h.drop _).take _
theorem cut_all (xs : List V) (lo hi : Option Int) (h : HT.sIx xs.length 0 lo = 0 ∧ HT.sIx xs.length xs.length hi = xs.length) : cutV xs lo hi = xs := by
  unfold cutV
  rw [h.1, h.2, List.drop_zero, Nat.sub_zero, List.take_length]
theorem sl_g : SlR X (rSG X.K X.mg) := by
  intro pins s σ H x v vl vu lo hi sl Q I rx hs pl pu ⟨μ, α, F, w, r, h, q⟩
  unfold gSl at q
  split at q
  · rename_i xs e
    obtain ⟨rfl, a, vs, rfl, hv, da⟩ := tup_of r e h
    have dc := da.cut lo hi
    refine sl_tupA pins s σ H _ v vl vu lo hi sl Q I rx hs pl pu ⟨a, vs, rfl, sameT r.sub hv, fun hw => ?_, fun hw p hp => ?_⟩
    · rw [cut_all vs lo hi hw] at dc
      exact q.now r _ (.tup hv dc)
    · obtain ⟨r2, x2⟩ := r.new (o := .tup (cutV vs lo hi)) hp
      exact q.at x2 r2 _ (.tup (.of upd_same) (dc.mono x2.fro))
  · rename_i xs e
    obtain ⟨a, vs, rfl, hv, da⟩ := items_of r e h
    have dc := da.cut lo hi
    refine L2.sl_list pins s σ H _ v vl vu lo hi sl Q I rx hs pl pu ⟨a, vs, rfl, hv.sq, fun p hp => ?_⟩
    obtain ⟨r2, x2⟩ := r.new (o := .lst (cutV vs lo hi)) hp
    exact q.at x2 r2 _ (.lst (.of upd_same) (dc.mono x2.fro))
  · rename_i z e
    split at q
    · rename_i hl
      have d1 := data_ok r e h
      cases d1
      exact sl_str pins s σ H _ v vl vu lo hi sl Q I rx hs pl pu ⟨z, rfl, le_line hl, q.now r _ (.str _)⟩
    · exact q.elim
  · exact q.elim
def eSl (a : Ev) (lo hi : Option Ev) : Ev := fun ρ μ => (a ρ μ).bind fun w μ1 => (oPart lo ρ μ1).bind fun l μ2 => (oPart hi ρ μ2).bind fun h μ3 => calm (gSl w l h μ3)
theorem se_sl {a : Expr} {lo hi : Option Expr} {pos p2 : Pos} {fa : Ev} {fl fh : Option Ev} (ha : SE X W a fa) (hl : SO X W lo fl) (hh : SO X W hi fh) : SE X W (.Subscript a (.Slice lo hi none p2) pos) (eSl fa fl fh) := by
  refine (pe_slice sl_g ha hl hh).imp fun σ H Q ⟨ρ, μ, α, F, r, re, q⟩ => ?_
  refine ⟨ρ, μ, α, F, r, re, q.bind.mono fun w μ1 α1 F1 H1 x1 r1 q1 v rv => ?_⟩
  refine ⟨ρ, μ1, α1, F1, r1, re.ext x1, q1.bind.mono fun l μ2 α2 F2 H2 x2 r2 q2 => ?_⟩
  refine ⟨ρ, μ2, α2, F2, r2, (re.ext x1).ext x2, q2.bind.mono fun h μ3 α3 F3 H3 x3 r3 q3 => ?_⟩
  exact ⟨μ3, α3, F3, w, r3, (rv.ext x2).ext x3, q3.calm⟩
end

/-! ### x[::-1] of a tuple -/
section
variable {prog : Program} {w : World} {A : Around} {E : Value → Shared → Prop} {s : Shared}
theorem fm_congr {β γ : Type} {f g : β → Option γ} : ∀ {l : List β}, (∀ x ∈ l, f x = g x) → l.filterMap f = l.filterMap g
  | [], _ => rfl
  | x :: r, h => by
    rw [List.filterMap_cons, List.filterMap_cons, h x List.mem_cons_self, fm_congr fun y hy => h y (List.mem_cons_of_mem _ hy)]
theorem back_all (xs : Array Value) : ((List.range xs.size).filterMap fun (k : Nat) => xs[(((xs.size : Int) - 1) + (k : Int) * (-1)).toNat]?).toArray = xs.toList.reverse.toArray := by
  have h : ∀ k : Nat, k < xs.size → xs[(((xs.size : Int) - 1) + (k : Int) * (-1)).toNat]? = xs.toList.reverse[k]? := fun k hk => by
    have e : (((xs.size : Int) - 1) + (k : Int) * (-1)).toNat = xs.size - 1 - k := by omega
    rw [e, List.getElem?_reverse (by simpa using hk)]
    simp
  have g : ∀ (l : List Value) (n : Nat), n ≤ l.length → (List.range n).filterMap (fun k => l[k]?) = l.take n := fun l n => by
    induction n with
    | zero => intro _; rfl
    | succ n ih =>
      intro hn
      rw [List.range_succ, List.filterMap_append, ih (by omega), List.take_add_one]
      simp [List.getElem?_eq_getElem (show n < l.length by omega)]
  have c : (List.range xs.size).filterMap (fun (k : Nat) => xs[(((xs.size : Int) - 1) + (k : Int) * (-1)).toNat]?) = (List.range xs.size).filterMap (fun (k : Nat) => xs.toList.reverse[k]?) := by
    refine fm_congr fun k hk => h k (by simpa using hk)
  rw [c, g xs.toList.reverse xs.size (by simp)]
  congr 1
  exact List.take_of_length_le (by simp)
theorem tuple_backwards {t sl : Addr} {items : Array Value} {k : Tok} {Q : Value → Shared → Prop} (ht : PyProof.Rows.IsTup s.heap t items) (hs : s.heap.IsSliceOf sl .none .none (.int (-1) k)) (hz : items.size ≤ sizeLine)
    (h : Q (.ref s.heap.objs.size) { s with heap := s.heap.push { cls := .type "tuple", data := .seq items.toList.reverse.toArray } }) : wpAny (model prog w) A (getItem (.ref t) (.ref sl)) Q E s := by
  have room : sizeOk (.seq items.toList.reverse.toArray) := by
    show items.toList.reverse.toArray.size ≤ sizeLine
    rw [List.size_toArray, List.length_reverse, Array.length_toList]
    exact hz
  obtain ⟨os, hos, hcs, hds⟩ := id hs
  have isSlice : s.TypeIs (.ref sl) "slice" := ⟨os, hos, hcs⟩
  unfold getItem
  try with_reducible refine wpAny_holding ?_
  first | refine wpAny_bind (wpAny_pure ?_) | skip
  refine wpAny_bind (wpAny_sequenceKey ht.typeIs (by decide) (wpAny_bind (wpAny_callSpecial?_slot (name := Str.ofString "__getitem__") ht.typeIs PyProof.Rows.slot_tuple_getitem
    (wpAny_call_entry PyProof.Rows.slot_tuple_getitem ht.typeIs PyProof.Rows.entry_tuple_getitem ?_ (PyProof.Rows.args_tuple_getitem _ _)))))
  show wpAny _ _ (Builtin.Tuple.tupleItemsOf (.ref t) >>= _) _ _ s
  refine wpAny_bind (PyProof.Rows.tupleItemsOf_ ht (wpAny_bind (wpAny_typeOf isSlice ?_)))
  rw [if_pos (by decide)]
  refine wpAny_bind ?_
  · unfold Builtin.Slice.sliceApplied Builtin.Slice.sliceFields
    refine wpAny_bind (wpAny_bind (wpAny_field hos hds (x := .none) rfl (wpAny_bind (wpAny_field hos hds (x := .none) rfl (wpAny_bind (wpAny_field hos hds (x := .int (-1) k) rfl (wpAny_pure ?_)))))))
    refine wpAny_bind (PyProof.Rows.slicePart_int ?_)
    show wpAny _ _ (if ((-1 : Int) == 0) = true then _ else _) _ _ s
    rw [if_neg (by decide)]
    refine wpAny_bind (PyProof.Rows.slicePart_none (wpAny_bind (PyProof.Rows.slicePart_none (wpAny_bind (wpAny_pure ?_)))))
    have adj : Builtin.Slice.sliceAdjust none none (-1) (items.size : Int) = ((items.size : Int) - 1, -1) := by
      unfold Builtin.Slice.sliceAdjust
      simp
    have plc : Builtin.Slice.slicePlaces ((items.size : Int) - 1) (-1) (-1) = items.size := by
      unfold Builtin.Slice.slicePlaces
      simp
      omega
    show wpAny _ _ (match Builtin.Slice.sliceAdjust none none (-1) (items.size : Int) with | (lo, hi) => pure (lo, (-1 : Int), Builtin.Slice.slicePlaces lo hi (-1))) _ _ s
    rw [adj]
    show wpAny _ _ (pure ((items.size : Int) - 1, (-1 : Int), Builtin.Slice.slicePlaces ((items.size : Int) - 1) (-1) (-1))) _ _ s
    rw [plc]
    refine wpAny_pure ?_
    have no : ¬ (((items.size : Int) - 1 == 0 && (-1 : Int) == 1 && items.size == items.size) = true) := by
      rw [show ((-1 : Int) == 1) = false by decide, Bool.and_false, Bool.false_and]
      exact Bool.false_ne_true
    show wpAny _ _ (if ((items.size : Int) - 1 == 0 && (-1 : Int) == 1 && items.size == items.size) = true then _ else _) _ _ s
    rw [if_neg no, back_all]
    first
      | exact wpAny_bind (m := Builtin.Tuple.tupleExact _) (wpAny_newObj_type (wpAny_pure ⟨_, rfl, wpAny_pure h⟩) room)
      | exact wpAny_bind (m := Builtin.Tuple.tupleExact _) (wpAny_newObj_type (wpAny_bind (wpAny_pure (wpAny_pure ⟨_, rfl, wpAny_pure h⟩))) room)
      | exact wpAny_bind (wpAny_bind (m := Builtin.Tuple.tupleExact _) (wpAny_newObj_type (wpAny_pure (wpAny_pure ⟨_, rfl, wpAny_pure h⟩)) room))
end
section
variable {X : Cx} {W : WX}
theorem se_rev {e : Expr} {f : Ev} {k : Nat} {p1 p2 p3 pos : Pos} (he : SE X W e f) : SE X W (.Subscript e (.Slice none none (some (.UnaryOp .USub (.Constant (.int 1) k p1) p2)) p3) pos) (e1 gRev f) := by
  refine ⟨fun pins s σ H Q I ⟨ρ, μ, α, F, r, re, q⟩ => ?_⟩
  have we : tE X.K X.mg W f σ H (fun x H1 => ∃ μ α F w, Rep X.K α F μ H1 ∧ Rw X.K α F x w ∧ gp X.K X.mg α F H1 (gRev w μ) (Gw X.K Q) (fun _ _ _ => False)) :=
    ⟨ρ, μ, α, F, r, re, q.bind.mono fun w μ1 α1 F1 H1 x1 r1 q1 v rv => ⟨μ1, α1, F1, w, r1, rv, q1.calm⟩⟩
  refine PyProof.Rows.Subscript_ (thn (he.run pins s σ H _ I we) fun v s1 ⟨x, H1, I1, rx, μ1, α1, F1, w, r1, rv, q1⟩ => ?_)
  -- the slice object
  have third : PO X (some (.UnaryOp .USub (.Constant (.int 1) k p1) p2)) (tPart (tUn (rU fun i => .int (-i)) (tC (.int 1)))) := po_some (pe_un un_neg pe_int)
  refine wpAny_Slice (thn (po_none.run pins s1 σ H1 (fun o G => o = none ∧ G = H1) I1 ⟨rfl, rfl⟩) fun u1 s2 ⟨o1, G1, I2, d1, e1, g1⟩ => ?_)
  subst e1 g1
  refine thn (po_none.run pins s2 σ G1 (fun o G => o = none ∧ G = G1) I2 ⟨rfl, rfl⟩) fun u2 s3 ⟨o2, G2, I3, d2, e2, g2⟩ => ?_
  subst e2 g2
  refine thn (third.run pins s3 σ G2 (fun o G => o = some (-1) ∧ G = G2) I3 ⟨1, rfl, -1, rfl, rfl, rfl⟩) fun u3 s4 ⟨o3, G3, I4, d3, e3, g3⟩ => ?_
  subst e3 g3
  have I5 : Inv X pins σ G3 { s4 with heap := s4.heap.push { cls := .type "slice", data := .fields #[u1, u2, u3] } } := I4.kept (t' := s4.toks) fun b ob z => Heap.get?_push_of_some _ z
  unfold gRev at q1
  split at q1
  · rename_i xs ex
    obtain ⟨rfl, a, vs, rfl, hv, da⟩ := tup_of r1 ex rv
    cases rx
    obtain ⟨its, ri, ht, hz⟩ := I5.tuple (sameT r1.sub hv)
    cases d1
    cases d2
    cases d3 with
    | int _ tk =>
      show wpAny (model X.prog X.w) X.A (PyProof.Rows.subscriptTail e (.Slice none none (some (.UnaryOp .USub (.Constant (.int 1) k p1) p2)) p3) (.ref a) (.ref s4.heap.objs.size)) (EP X pins σ Q) X.xe _
      refine PyProof.Rows.tail_any (ops := [.ref a, .ref s4.heap.objs.size]) ht.typeIs (PyProof.Rows.slot_tuple_getitem.lookup) ?_ (by with_unfolding_all rfl)
      refine tuple_backwards ht (Heap.IsSliceOf.new _ _ _ _) (by rw [List.size_toArray, ← ri.length]; exact hz) ?_
      have nf := I5.hok.fresh (Nat.le_refl _)
      obtain ⟨r2, x2⟩ := r1.new (o := .tup vs.reverse) nf
      refine ⟨.ref _, _, I5.laid (t' := s4.toks) (o := .tup vs.reverse) (fun b ob z => Heap.get?_push_of_some _ z) (Nat.le_refl _) ?_, rfl, q1.at x2 r2 _ (.tup (.of upd_same) (da.reverse.mono x2.fro))⟩
      exact ⟨by rw [List.length_reverse]; exact hz, its.reverse, ri.reverse, ⟨_, Heap.get?_push_size _ rfl, rfl, _, rfl⟩⟩
  · rename_i xs ex
    obtain ⟨a, vs, rfl, hv, da⟩ := items_of r1 ex rv
    cases rx
    obtain ⟨its, ri, ht, hz⟩ := I5.list hv.sq
    show wpAny (model X.prog X.w) X.A (PyProof.Rows.subscriptTail e (.Slice none none (some (.UnaryOp .USub (.Constant (.int 1) k p1) p2)) p3) (.ref a) (.ref s4.heap.objs.size)) (EP X pins σ Q) X.xe _
    refine PyProof.Rows.tail_any (ops := [.ref a, .ref s4.heap.objs.size]) ht.isList.typeIs (PySem.slot_list_getitem.lookup) ?_ (by with_unfolding_all rfl)
    refine wpAny_getItem_list_slice ht.isList (Heap.IsSliceOf.new _ _ _ _) d1 d2 d3 (by decide) ?_ (by rw [List.size_toArray, ← ri.length]; exact hz)
    rw [PySem.W.krv_pick]
    have nf := I5.hok.fresh (Nat.le_refl _)
    obtain ⟨r2, x2⟩ := r1.new (o := .lst vs.reverse) nf
    refine ⟨.ref _, _, I5.laid (t' := s4.toks) (o := .lst vs.reverse) (fun b ob z => Heap.get?_push_of_some _ z) (Nat.le_refl _) ?_, rfl, q1.at x2 r2 _ (.lst (.of upd_same) (da.reverse.mono x2.fro))⟩
    exact ⟨by rw [List.length_reverse]; exact hz, _, 0, ri.reverse, Heap.get?_push_size _ rfl⟩
  · exact q1.elim
end

/-! ### isinstance(x, T), T a built-in type -/
def tyName : PyData → String
  | .none => "NoneType"
  | .bool _ => "bool"
  | .int _ => "int"
  | .str _ => "str"
  | .list _ => "list"
  | .tuple _ => "tuple"
  | .dict _ => "dict"
/-- whether a value of the type a is one of the type b -/
def subTy (a b : String) : Bool := a == b || (a == "bool" && b == "int")
def kinds : List String := ["NoneType", "bool", "int", "str", "list", "tuple", "dict"]
def gIsi (T : String) (a : Wv) (μ : Mu) : Out Wv :=
  match dataOf μ a with
  | some x => if kinds.contains T = true then .ok (wBl (subTy (tyName x) T)) μ else .bad
  | none => .bad
theorem kitB_all : ∀ a ∈ kinds, ∀ b ∈ kinds, kitB a b = some (subTy a b) := by decide +kernel
theorem tyName_mem (x : PyData) : tyName x ∈ kinds := by cases x <;> simp [tyName, kinds]
section
variable {X : Cx} {W : WX}
theorem Dq.ty {K : PySem.W.Frag} {H : Hp} {v : V} {x : PyData} (h : Dq K H v x) : TyX K H v (.type (tyName x)) := by
  cases h with
  | non => exact .base .non
  | bl b => exact .base (.bl b)
  | int i => exact .base (.int i)
  | str z => exact .base (.str z)
  | lst hs _ =>
    rcases hs with (e | ⟨o, e⟩) | ⟨its, n, e, _⟩
    · exact .base (.lst e)
    · exact .base (.frz e)
    · exact .kList e rfl
  | tup hs _ =>
    rcases hs with (e | ⟨o, e⟩) | ⟨o, its, n, e, c, _⟩
    · exact .base (.tup e)
    · exact .fTuple e
    · exact .kTuple e c
  | dic e => exact .base (.dK e)
theorem se_isi {e : Expr} {f : Ev} {T : String} {p p2 pos : Pos} {x : Str} (hg : Gl X "isinstance") (hm : X.mg "isinstance" = none) (hgT : Gl X x) (hmT : X.mg x = none) (hvT : bootBuiltins x = some (.type T)) (hn : x ≠ "__name__") (hdb : (x == ("__debug__" : Str)) = false)
    (he : SE X W e f) (h1 : starEach (e :: [.Name x p2]) X.env = (false, eval e X.env) :: starEach [.Name x p2] X.env) : SE X W (.Call (.Name "isinstance" p) [e, .Name x p2] [] pos) (e1 (gIsi T) f) := by
  refine (pe_callB call_isi hg hm (by decide +kernel) (pa_cons he (pa_cons (pe_bltn (v := .ty T) hgT hmT hvT rfl hn hdb) pa_nil) h1) (by decide) (by decide) h1 (by rfl)).imp fun σ H Q ⟨ρ, μ, α, F, r, re, q⟩ => ?_
  refine ⟨ρ, μ, α, F, r, re, q.bind.mono fun w μ1 α1 F1 H1 x1 r1 q1 v rv => ?_⟩
  have q2 := gp.calm (X' := fun _ _ _ => False) q1
  unfold gIsi at q2
  split at q2
  · rename_i y ey
    split at q2
    · rename_i hT
      have d := data_ok r1 ey rv
      exact ⟨v, .ty T, _, _, subTy (tyName y) T, rfl, .ty T, d.ty, kit_ty (kitB_all _ (tyName_mem y) _ (by simpa using hT)), q2.now r1 _ (.bl _)⟩
    · exact q2.elim
  · exact q2.elim
end
end TL
/-! TL8: statements, targets, methods of cells. -/
namespace TL
open PySem PySem.Spec L2

/-- an expression's outcome in a statement: what is raised leaves with the slots -/
def liftO {γ : Type} (ρ : Rho) (o : Out γ) (k : γ → Mu → Out Fl) : Out Fl :=
  match o with
  | .ok c μ => k c μ
  | .err x ws μ => .ok (.er x ws ρ) μ
  | .bad => .bad
@[simp] theorem liftO_ok {γ : Type} (ρ : Rho) (c : γ) (μ : Mu) (k : γ → Mu → Out Fl) : liftO ρ (.ok c μ) k = k c μ := rfl
@[simp] theorem liftO_err {γ : Type} (ρ : Rho) (x : Str) (ws : List Wv) (μ : Mu) (k : γ → Mu → Out Fl) : liftO ρ (.err x ws μ) k = .ok (.er x ws ρ) μ := rfl
@[simp] theorem liftO_bad {γ : Type} (ρ : Rho) (k : γ → Mu → Out Fl) : liftO ρ (.bad : Out γ) k = .bad := rfl
def sNext : Sv := fun ρ μ => .ok (.nx ρ) μ
def sBreak : Sv := fun ρ μ => .ok (.bk ρ) μ
def sCont : Sv := fun ρ μ => .ok (.ct ρ) μ
def seqK (b : Sv) (fl : Fl) (μ : Mu) : Out Fl :=
  match fl with
  | .nx ρ' => b ρ' μ
  | fl => .ok fl μ
def sSeq (a b : Sv) : Sv := fun ρ μ => (a ρ μ).bind (seqK b)
def sExpr (f : Ev) : Sv := fun ρ μ => liftO ρ (f ρ μ) fun _ μ1 => .ok (.nx ρ) μ1
def sRet (f : Ev) : Sv := fun ρ μ => liftO ρ (f ρ μ) fun w μ1 => .ok (.rt w) μ1
/-- a cell handed back as a list that nobody changes any more -/
def frz (w : Wv) (μ : Mu) : Out Wv :=
  match w with
  | .d x => .ok (.d x) μ
  | .r k => match μ[k]? with
    | some (some c) => .ok (.d (.list c)) (μ.set k none)
    | _ => .bad
  | .t _ => .bad
def sRetZ (f : Ev) : Sv := fun ρ μ => liftO ρ ((f ρ μ).bind frz) fun w μ1 => .ok (.rt w) μ1
def sIf (c : Bv) (a b : Sv) : Sv := fun ρ μ => liftO ρ (c ρ μ) fun t μ1 => if t = true then a ρ μ1 else b ρ μ1
def sAsg (f : Ev) (t : Gv) : Sv := fun ρ μ => liftO ρ (f ρ μ) fun w μ1 => (calm (t w ρ μ1)).bind fun ρ' μ2 => .ok (.nx ρ') μ2
def gNm (i : Nat) : Gv := fun w ρ μ => .ok (ρ.set i (some w)) μ
/-- targets one after another -/
def gSeq : List Gv → List Wv → Rho → Mu → Out Rho
  | [], [], ρ, μ => .ok ρ μ
  | t :: ts, w :: ws, ρ, μ => (t w ρ μ).bind fun ρ' μ' => gSeq ts ws ρ' μ'
  | _, _, _, _ => .bad
def gTp (ts : List Gv) : Gv := fun w ρ μ =>
  match w with
  | .d (.tuple xs) => if xs.length = ts.length then gSeq ts (xs.map Wv.d) ρ μ else .bad
  | _ => .bad
/-- o[i] = .. of a cell -/
def setC (o i w : Wv) (μ : Mu) : Out Unit :=
  match o, i, w with
  | .r k, .d (.int j), .d x => match μ[k]? with
    | some (some c) => match ixN c.length j with
      | some n => .ok () (μ.set k (some (c.set n x)))
      | none => .bad
    | _ => .bad
  | _, _, _ => .bad
def gSb (o i : Ev) : Gv := fun w ρ μ => (o ρ μ).bind fun ow μ1 => (i ρ μ1).bind fun iw μ2 => (setC ow iw w μ2).bind fun _ μ3 => .ok ρ μ3
/-- a, b = x, y without a pair -/
def sPar (i j : Nat) (as : Av) : Sv := fun ρ μ => liftO ρ (as ρ μ) fun ws μ1 => match ws with
  | [w, u] => .ok (.nx ((ρ.set i (some w)).set j (some u))) μ1
  | _ => .bad
/-- x.append(y), x.pop() -/
def gApp (o : Wv) (ws : List Wv) (μ : Mu) : Out Wv :=
  match o, ws with
  | .r k, [.d x] => match μ[k]? with
    | some (some c) => if c.length < 16777216 then .ok (.d .none) (μ.set k (some (c ++ [x]))) else .bad
    | _ => .bad
  | _, _ => .bad
def gPop (o : Wv) (μ : Mu) : Out Wv :=
  match o with
  | .r k => match μ[k]? with
    | some (some c) => match c[c.length - 1]? with
      | some x => .ok (.d x) (μ.set k (some c.dropLast))
      | none => .bad
    | _ => .bad
  | _ => .bad
/-- a cell is there -/
def live (w : Wv) (μ : Mu) : Bool :=
  match w with
  | .r k => match μ[k]? with
    | some (some _) => true
    | _ => false
  | _ => false
def eMeth1 (g : Wv → List Wv → Mu → Out Wv) (o : Ev) (as : Av) : Ev := fun ρ μ => (o ρ μ).bind fun w μ1 => if live w μ1 = true then (as ρ μ1).bind fun ws μ2 => calm (g w ws μ2) else .bad

section
variable {X : Cx} {W : WX}
theorem gp_lift {K : PySem.W.Frag} {mg : Str → Option Value} {γ : Type} {α : List Addr} {F H : Hp} {o : Out γ} {ρ : Rho} {σ : St} {k : γ → Mu → Out Fl} {D : Ends} {E : XK} (re : RepE K α F ρ σ) (h : gp K mg α F H (liftO ρ o k) (GS K mg W D) E) :
    gp K mg α F H o (fun c μ1 α1 F1 H1 => gp K mg α1 F1 H1 (k c μ1) (GS K mg W D) E) (fun c d H' => W c d σ H') := by
  cases o with
  | ok c μ1 => exact fun α1 F1 H1 x r => gp.base (o := k c μ1) h x
  | err y ws μ1 => exact fun α1 F1 H1 C d fs x r h1 h2 h3 => h α1 F1 H1 x r σ C d fs (re.ext x) h1 h2 h3
  | bad => exact h
theorem gp_lift0 {K : PySem.W.Frag} {mg : Str → Option Value} {γ : Type} {α : List Addr} {F H : Hp} {o : Out γ} {ρ : Rho} {σ : St} {k : γ → Mu → Out Fl} {D : Ends} {E : XK} (re : RepE K α F ρ σ) (h : gp K mg α F H (liftO ρ o k) (GS K mg W D) E) :
    gp K mg α F H o (fun c μ1 _ _ _ => gp K mg α F H (k c μ1) (GS K mg W D) E) (fun c d H' => W c d σ H') := by
  cases o with
  | ok c μ1 => exact fun α1 F1 H1 x r => h
  | err y ws μ1 => exact fun α1 F1 H1 C d fs x r h1 h2 h3 => h α1 F1 H1 x r σ C d fs (re.ext x) h1 h2 h3
  | bad => exact h
theorem ss_nil : SSs X W [] sNext := pss_nil.imp fun D σ H ⟨ρ, μ, α, F, r, re, q⟩ => q.now r σ re
theorem ss_pass {pos : Pos} : SS X W (.Pass pos) sNext := ps_pass.imp fun D σ H ⟨ρ, μ, α, F, r, re, q⟩ => q.now r σ re
theorem ss_break {pos : Pos} : SS X W (.Break pos) sBreak := ps_break.imp fun D σ H ⟨ρ, μ, α, F, r, re, q⟩ => q.now r σ re
theorem ss_continue {pos : Pos} : SS X W (.Continue pos) sCont := ps_continue.imp fun D σ H ⟨ρ, μ, α, F, r, re, q⟩ => q.now r σ re
theorem ss_never {st : Stmt} : SS X W st (fun _ _ => .bad) := ps_never.imp fun D σ H ⟨ρ, μ, α, F, r, re, q⟩ => q.elim
theorem gp_seq {K : PySem.W.Frag} {mg : Str → Option Value} {α : List Addr} {F H : Hp} {D : Ends} {a : Out Fl} {b : Sv} {E : XK} (h : gp K mg α F H (a.bind (seqK b)) (GS K mg W D) (fun _ _ _ => False)) :
    gp K mg α F H a (GS K mg W { D with nx := tS K mg W b D }) (fun _ _ _ => False) := by
  cases a with
  | bad => exact h
  | err x ws μ => exact h
  | ok fl μ =>
    intro α' F' H' x r
    cases fl with
    | nx ρ' => exact fun σ' re => ⟨ρ', μ, α', F', r, re, gp.base (o := b ρ' μ) h x⟩
    | bk ρ' => exact h α' F' H' x r
    | ct ρ' => exact h α' F' H' x r
    | rt w => exact h α' F' H' x r
    | er y ws ρ' => exact h α' F' H' x r
theorem ss_cons {st : Stmt} {rest : List Stmt} {a b : Sv} (h1 : SS X W st a) (h2 : SSs X W rest b) : SSs X W (st :: rest) (sSeq a b) := by
  refine (pss_cons h1 h2).imp fun D σ H ⟨ρ, μ, α, F, r, re, q⟩ => ?_
  exact ⟨ρ, μ, α, F, r, re, gp_seq (E := fun _ _ _ => False) q⟩
theorem ss_one {st : Stmt} {a : Sv} (h1 : SS X W st a) : SSs X W [st] a := pss_one h1
theorem ss_expr {e : Expr} {f : Ev} {pos : Pos} (he : SE X W e f) (hs : swapsWith e none pos.line X.env = pure false) : SS X W (.Expr e pos) (sExpr f) := by
  refine (ps_expr he hs).imp fun D σ H ⟨ρ, μ, α, F, r, re, q⟩ => ?_
  exact ⟨ρ, μ, α, F, r, re, (gp_lift re q).mono fun w μ1 α1 F1 H1 x1 r1 q1 v rv => q1.now r1 σ (re.ext x1)⟩
theorem ss_ret {e : Expr} {f : Ev} {pos : Pos} (he : SE X W e f) : SS X W (.Return (some e) pos) (sRet f) := by
  refine (ps_ret he).imp fun D σ H ⟨ρ, μ, α, F, r, re, q⟩ => ?_
  exact ⟨ρ, μ, α, F, r, re, (gp_lift re q).mono fun w μ1 α1 F1 H1 x1 r1 q1 v rv => q1.now r1 v rv⟩
theorem ss_retN {pos : Pos} : SS X W (.Return none pos) (fun _ μ => .ok (.rt (.d .none)) μ) :=
  ps_retN.imp fun D σ H ⟨ρ, μ, α, F, r, re, q⟩ => q.now r .non .non
theorem ss_retZ {e : Expr} {f : Ev} {pos : Pos} (he : SE X W e f) : SS X W (.Return (some e) pos) (sRetZ f) := by
  refine (ps_ret he).imp fun D σ H ⟨ρ, μ, α, F, r, re, q⟩ => ?_
  refine ⟨ρ, μ, α, F, r, re, (gp_lift re q).bind.mono fun w μ1 α1 F1 H1 x1 r1 q1 v rv => ?_⟩
  cases w with
  | d x => exact gp.now (gp.now (c := Wv.d x) q1 r1) r1 v rv
  | t ds => exact (show False from q1).elim
  | r k =>
    have q2 : gp X.K X.mg α1 F1 H1 (match μ1[k]? with
      | some (some c) => Out.ok (Wv.d (.list c)) (μ1.set k none)
      | _ => .bad) _ _ := q1
    split at q2
    · rename_i c e
      obtain ⟨F2, r2, x2, h2⟩ := r1.freeze e
      exact gp.now (q2.at x2 r2) r2 v (h2 v rv)
    · exact q2.elim
theorem ss_if {c : Expr} {a b : List Stmt} {fc : Bv} {fa fb : Sv} {pos : Pos} (hc : ST X W c fc) (ha : SSs X W a fa) (hb : SSs X W b fb) : SS X W (.If c a b pos) (sIf fc fa fb) := by
  refine (ps_if hc ha hb).imp fun D σ H ⟨ρ, μ, α, F, r, re, q⟩ => ?_
  refine ⟨ρ, μ, α, F, r, re, (gp_lift re q).mono fun t μ1 α1 F1 H1 x1 r1 q1 => ?_⟩
  cases t with
  | true => exact ⟨ρ, μ1, α1, F1, r1, re.ext x1, q1⟩
  | false => exact ⟨ρ, μ1, α1, F1, r1, re.ext x1, q1⟩

/-! targets -/
theorem sg_name {i : Nat} {x : Str} {pos : Pos} (hN : X.N.Nodup) (hi : X.N[i]? = some x) (hx : Loc X.env.scope x) (hf : X.fn x = true ∨ X.env.scope.names.lookup x = some .local) : SG X (.Name x pos) (gNm i) :=
  (pg_name hN hi hx hf).imp fun v σ H Q ⟨ρ, μ, α, F, w, r, re, rv, q⟩ => q.now r _ (re.set i rv)
def tGs' (K : PySem.W.Frag) (mg : Str → Option Value) (ts : List Gv) : TGs := fun vs σ H Q => ∃ ρ μ α F ws, Rep K α F μ H ∧ RepE K α F ρ σ ∧ Rws K α F vs ws ∧ gp K mg α F H (gSeq ts ws ρ μ) (fun ρ' _ α' F' H' => ∀ σ', RepE K α' F' ρ' σ' → Q σ' H') (fun _ _ _ => False)
abbrev SGs (X : Cx) (es : List Expr) (ts : List Gv) : Prop := PGs X es (tGs' X.K X.mg ts)
theorem _root_.L2.PGs.imp {es : List Expr} {t t' : TGs} (h : PGs X es t) (i : ∀ vs σ H Q, t' vs σ H Q → t vs σ H Q) : PGs X es t' := ⟨fun pins s σ H vs us Q I r q => h.run pins s σ H vs us Q I r (i _ _ _ _ q)⟩
theorem sgs_nil : SGs X [] [] := pgs_nil.imp fun vs σ H Q ⟨ρ, μ, α, F, ws, r, re, rv, q⟩ => by
  cases ws with
  | nil =>
    cases rv
    exact ⟨rfl, q.now r σ re⟩
  | cons w ws => exact q.elim
theorem sgs_cons {e : Expr} {es : List Expr} {t : Gv} {ts : List Gv} (h1 : SG X e t) (h2 : SGs X es ts) (hs : (assignEach (e :: es) X.env).map (·.2) = assign e X.env :: (assignEach es X.env).map (·.2)) : SGs X (e :: es) (t :: ts) := by
  refine (pgs_cons h1 h2 hs).imp fun vs σ H Q ⟨ρ, μ, α, F, ws, r, re, rv, q⟩ => ?_
  cases ws with
  | nil => exact q.elim
  | cons w ws =>
    cases rv with
    | cons r1 r2 =>
      refine ⟨_, _, rfl, ρ, μ, α, F, w, r, re, r1, gp.bind q |>.mono fun ρ' μ' α' F' H' x' rp q' σ' re' => ?_⟩
      exact ⟨ρ', μ', α', F', ws, rp, re', Rws.ext r2 x', q'⟩
theorem Rws.of_all {K : PySem.W.Frag} {α : List Addr} {F : Hp} : ∀ {vs : List V} {c : Cell}, DqAll K F vs c → Rws K α F vs (c.map Wv.d)
  | _, _, .nil => .nil
  | _, _, .cons h t => .cons h (Rws.of_all t)
theorem sg_tup {es : List Expr} {k : Nat} {pos : Pos} {ts : List Gv} (hc : X.calm = true) (h : SGs X es ts) (hn : (assignEach es X.env).length = ts.length) (hst : (assignEach es X.env).findIdx? (·.1) = none) : SG X (.Tuple es k pos) (gTp ts) := by
  refine (pg_tup hc h hn hst).imp fun v σ H Q ⟨ρ, μ, α, F, w, r, re, rv, q⟩ => ?_
  unfold gTp at q
  split at q
  · rename_i xs
    split at q
    · rename_i hl
      cases rv with
      | @tup a vs _ t1 d1 => exact ⟨a, vs, rfl, sameT r.sub t1, by rw [d1.length, hl], ρ, μ, α, F, _, r, re, Rws.of_all d1, q⟩
    · exact q.elim
  · exact q.elim
theorem sg_sub {o i : Expr} {pos : Pos} {fo fi : Ev} (ho : SE X (fun _ _ _ _ => False) o fo) (hi : SE X (fun _ _ _ _ => False) i fi) (ha : ∀ v, assign (.Subscript o i pos) X.env v = (do
      let ov ← holding [v] (eval o X.env)
      let iv ← holding [v, ov] (eval i X.env)
      standAt pos
      holding [v, ov, iv] (setItem ov iv v)
      release [v, ov, iv] [])) : SG X (.Subscript o i pos) (gSb fo fi) := by
  refine (pg_sub ho hi set_list ha).imp fun v σ H Q ⟨ρ, μ, α, F, w, r, re, rv, q⟩ => ?_
  refine ⟨ρ, μ, α, F, r, re, q.bind.mono fun ow μ1 α1 F1 H1 x1 r1 q1 ov rov => ?_⟩
  refine ⟨ρ, μ1, α1, F1, r1, re.ext x1, q1.bind.mono fun iw μ2 α2 F2 H2 x2 r2 q2 iv riv => ?_⟩
  have q3 := q2.bind0
  have rw2 : Rw X.K α2 F2 v w := (rv.ext x1).ext x2
  unfold setC at q3
  split at q3
  · rename_i k j y
    split at q3
    · rename_i c ec
      split at q3
      · rename_i n en
        have q4 : gp X.K X.mg α2 F2 H2 (.ok ρ (μ2.set k (some (c.set n y)))) (fun ρ' _ α' F' H' => ∀ σ', RepE X.K α' F' ρ' σ' → Q σ' H') (fun _ _ _ => False) := by
          have z : setC (.r k) (.d (.int j)) (.d y) μ2 = .ok () (μ2.set k (some (c.set n y))) := by
            simp only [setC, ec, en]
          have q5 := q2
          rw [z] at q5
          exact q5
        obtain ⟨a, vs, h1, h2, h3, h4⟩ := r2.cell k c ec
        obtain ⟨b, g1, rfl⟩ := rov.ext x2
        rw [h1] at g1
        cases g1
        cases riv
        obtain ⟨rw', xw⟩ := r2.write ec h1 (h4.set rw2 n)
        exact ⟨a, vs, j, n, rfl, rfl, h2, by rw [h4.length]; exact en, q4.at xw rw' σ (((re.ext x1).ext x2).ext xw)⟩
      · exact q3.elim
    · exact q3.elim
  · exact q3.elim
theorem ss_asg {tg e : Expr} {f : Ev} {t : Gv} {pos : Pos} (he : SE X W e f) (hg : SG X tg t) (hs : swapsWithSole [tg] e pos.line X.env = pure false) (hw : swappedStores [tg] e X.env = pure none) (h1 : (assignEach [tg] X.env).map (·.2) = [assign tg X.env]) :
    SS X W (.Assign [tg] e pos) (sAsg f t) := by
  refine (ps_asg he hg hs hw h1).imp fun D σ H ⟨ρ, μ, α, F, r, re, q⟩ => ?_
  refine ⟨ρ, μ, α, F, r, re, (gp_lift re q).mono fun w μ1 α1 F1 H1 x1 r1 q1 v rv => ?_⟩
  exact ⟨ρ, μ1, α1, F1, w, r1, re.ext x1, rv, q1.bind.calm.mono fun ρ' μ2 α2 F2 H2 x2 r2 q2 σ' re' => q2.now r2 σ' re'⟩
theorem ss_set {i : Nat} {x : Str} {e : Expr} {f : Ev} {pos pos' : Pos} (hN : X.N.Nodup) (hi : X.N[i]? = some x) (hx : Loc X.env.scope x) (he : SE X W e f) (hs : swapsWith e (some (.Name x pos')) pos.line X.env = pure false) (hf : X.fn x = true ∨ X.env.scope.names.lookup x = some .local) :
    SS X W (.Assign [.Name x pos'] e pos) (sAsg f (gNm i)) := by
  refine (ps_set hN hi hx he hs hf).imp fun D σ H ⟨ρ, μ, α, F, r, re, q⟩ => ?_
  refine ⟨ρ, μ, α, F, r, re, (gp_lift re q).mono fun w μ1 α1 F1 H1 x1 r1 q1 v rv => ?_⟩
  exact q1.now r1 _ ((re.ext x1).set i rv)
theorem ss_par {i j : Nat} {x y : Str} {a b : Expr} {as : Av} {px py pt pos : Pos} {kt k2 : Nat} {pt2 : Pos} (hc : X.calm = true) (hN : X.N.Nodup) (hi : X.N[i]? = some x) (hj : X.N[j]? = some y) (hij : i ≠ j) (hx : X.env.scope.names.lookup x = some .local) (hy : X.env.scope.names.lookup y = some .local)
    (ha : SA X W [a, b] as) (hw : swappedStores [.Tuple [.Name x px, .Name y py] kt pt] (.Tuple [a, b] k2 pt2) X.env = pure (some [x, y])) (hs : swapsWithSole [.Tuple [.Name x px, .Name y py] kt pt] (.Tuple [a, b] k2 pt2) pos.line X.env = pure false) :
    SS X W (.Assign [.Tuple [.Name x px, .Name y py] kt pt] (.Tuple [a, b] k2 pt2) pos) (sPar i j as) := by
  refine (ps_par hc hN hi hj hij hx hy ha hw hs).imp fun D σ H ⟨ρ, μ, α, F, r, re, q⟩ => ?_
  refine ⟨ρ, μ, α, F, r, re, (gp_lift re q).mono fun ws μ1 α1 F1 H1 x1 r1 q1 vs rv => ?_⟩
  split at q1
  · obtain ⟨v, v', rfl, d, d'⟩ := rws2 rv
    exact ⟨v, v', rfl, q1.now r1 _ (((re.ext x1).set i d).set j d')⟩
  · exact q1.elim

/-! methods of cells -/
theorem cell_at {K : PySem.W.Frag} {α : List Addr} {F H : Hp} {μ : Mu} {k : Nat} {c : Cell} {v : V} (r : Rep K α F μ H) (e : μ[k]? = some (some c)) (q : Rw K α F v (.r k)) : ∃ a vs, v = .ref a ∧ α[k]? = some a ∧ H a = some (.lst vs) ∧ DqAll K F vs c := by
  obtain ⟨a, vs, h1, h2, h3, h4⟩ := r.cell k c e
  obtain ⟨b, g1, rfl⟩ := q
  rw [h1] at g1
  cases g1
  exact ⟨a, vs, rfl, h1, h2, h4⟩
section
variable {o e : Expr} {es : List Expr} {apos cpos : Pos} {fo : Ev} {as : Av}
theorem se_app (ho : SE X W o fo) (ha : SA X W (e :: es) as) (hb : attributeBase o "append" X.env (eval o X.env) = eval o X.env)
    (hfew : ((backTo cpos (starEach (e :: es) X.env)).all (fun x => !x.1) && (backToKw cpos (keywordEach [] X.env)).all (fun x => x.1.isSome) && decide ((e :: es).length + ([] : List Keyword).length + (if ([] : List Keyword).isEmpty then 0 else 1) < 30)) = true)
    (hl : (apos.endLine == cpos.line) = true) (hs : starEach (e :: es) X.env = (false, eval e X.env) :: starEach es X.env) (hp : (backTo cpos (starEach es X.env)).any (·.1) = false) :
    SE X W (.Call (.Attribute o "append" apos) (e :: es) [] cpos) (eMeth1 gApp fo as) := by
  refine (pe_bm PySem.F.plainAttrs_list PySem.F.slot_list_append PySem.F.type_list_append mt_append ho ha hb hfew hl hs hp).imp fun σ H Q ⟨ρ, μ, α, F, r, re, q⟩ => ?_
  refine ⟨ρ, μ, α, F, r, re, q.bind.mono fun w μ1 α1 F1 H1 x1 r1 q1 v rv => ?_⟩
  by_cases hw : live w μ1 = true
  · rw [if_pos hw] at q1
    have ty : tyV X.K "list" v H1 := by
      unfold live at hw
      split at hw
      · split at hw
        · rename_i k c ec
          obtain ⟨a, vs, rfl, h1, h2, h4⟩ := cell_at r1 ec rv
          exact .inl ⟨rfl, _, .inl (.inl h2)⟩
        · cases hw
      · cases hw
    refine ⟨ty, ρ, μ1, α1, F1, r1, re.ext x1, q1.bind.mono fun ws μ2 α2 F2 H2 x2 r2 q2 us rus => ?_⟩
    have q3 := q2.calm (X' := fun _ _ _ => False)
    have rv2 := rv.ext x2
    unfold gApp at q3
    split at q3
    · split at q3
      · split at q3
        · rename_i k y _ c ec hl
          obtain ⟨a, vs, rfl, h1, h2, h4⟩ := cell_at r2 ec rv2
          cases rus with
          | cons r1' t1 =>
            cases t1
            have r1' : Dq X.K F2 _ y := r1'
            obtain ⟨rw', xw⟩ := r2.write ec h1 (h4.append (.cons r1' .nil))
            exact ⟨a, vs, _, rfl, rfl, h2, by rw [h4.length, sizeLine_eq]; exact hl, q3.at xw rw' _ .non⟩
        · exact q3.elim
      · exact q3.elim
    · exact q3.elim
  · rw [if_neg hw] at q1
    exact q1.elim
theorem se_pop (ho : SE X W o fo) (hb : attributeBase o "pop" X.env (eval o X.env) = eval o X.env) (hl : (apos.endLine == cpos.line) = true) :
    SE X W (.Call (.Attribute o "pop" apos) [] [] cpos) (e1 gPop fo) := by
  refine (pe_bm0 PySem.F.plainAttrs_list PySem.F.slot_list_pop PySem.F.type_list_pop mt_pop ho hb hl).imp fun σ H Q ⟨ρ, μ, α, F, r, re, q⟩ => ?_
  refine ⟨ρ, μ, α, F, r, re, q.bind.mono fun w μ1 α1 F1 H1 x1 r1 q1 v rv => ?_⟩
  have q2 := q1.calm (X' := fun _ _ _ => False)
  unfold gPop at q2
  split at q2
  · split at q2
    · rename_i k c ec
      split at q2
      · rename_i y ey
        obtain ⟨a, vs, rfl, h1, h2, h4⟩ := cell_at r1 ec rv
        obtain ⟨y', e1, dy⟩ := h4.get ey
        obtain ⟨rw', xw⟩ := r1.write ec h1 h4.dropLast
        refine ⟨.inl ⟨rfl, _, .inl (.inl h2)⟩, a, vs, y', rfl, rfl, h2, by rw [h4.length]; exact e1, q2.at xw rw' _ (dy.mono xw.fro)⟩
      · exact q2.elim
    · exact q2.elim
  · exact q2.elim
end
end
end TL
/-! TL9: what is walked over; for, while, list comprehensions. -/
namespace TL
open PySem PySem.Spec L2 PyProof.Rows RZ

/-- the items, and the cells that must not change meanwhile -/
structure Its where
  xs : Cell
  tie : List (Nat × Cell)
abbrev Iv := Rho → Mu → Out Its
def tied (i : Its) (μ : Mu) : Prop := ∀ p ∈ i.tie, μ[p.1]? = some (some p.2)
structure JOk (K : PySem.W.Frag) (α0 : List Addr) (F0 H0 : Hp) (J : It) (i : Its) : Prop where
  at_ : ∀ α F μ H, Rep K α F μ H → Ext α0 F0 H0 α F H → tied i μ →
    (∀ n, n < i.xs.length → J.go n H) ∧ (∀ n, i.xs.length ≤ n → J.stop n H) ∧ ∀ n d x H', i.xs[n]? = some d → J.yld n H x H' → ∃ F', Rep K α F' μ H' ∧ Ext α F H α F' H' ∧ Dq K F' x d
def tI (K : PySem.W.Frag) (mg : Str → Option Value) (W : WX) (f : Iv) : TI := fun σ H R => ∃ ρ μ α F, Rep K α F μ H ∧ RepE K α F ρ σ ∧ gp K mg α F H (f ρ μ) (fun i _ α' F' H' => ∀ J, JOk K α' F' H' J i → R J H') (fun c d H' => W c d σ H')
abbrev SI (X : Cx) (W : WX) (tg e : Expr) (f : Iv) : Prop := PI X tg e (tI X.K X.mg W f)
theorem _root_.L2.PI.imp {X : Cx} {tg e : Expr} {t t' : TI} (h : PI X tg e t) (i : ∀ σ H R, t' σ H R → t σ H R) : PI X tg e t' := ⟨fun pins s σ H R I q => h.run pins s σ H R I (i _ _ _ q)⟩

/-! ### any list, tuple, text -/
def iDyn (K : PySem.W.Frag) (te : TE) : TI := fun σ H R => te σ H fun v H1 =>
  (∃ a, v = .ref a ∧ (∃ xs, SqL K H1 a xs) ∧ R (Itl K a) H1) ∨ (∃ a, v = .ref a ∧ (∃ xs, SqT K H1 a xs) ∧ R (Itt K a) H1) ∨ ∃ x, v = .str x ∧ R (L2.Its x) H1
theorem pi_dyn {X : Cx} {tg e : Expr} {te : TE} (he : PE X e te) : PI X tg e (iDyn X.K te) := by
  refine ⟨fun pins s σ H R I h => ?_⟩
  refine thn (he.run pins s σ H _ I h) fun v s1 ⟨y, H1, I1, r1, q1⟩ => ?_
  rcases q1 with ⟨a, rfl, ⟨xs, hq⟩, q⟩ | ⟨a, rfl, ⟨xs, hq⟩, q⟩ | ⟨x, rfl, q⟩
  · cases r1
    obtain ⟨its, rv, p, hz⟩ := I1.list hq
    refine wpAny_pyIter_list p.isList ?_
    exact pi_one (tk := s1.toks) I1 _ (turn_list a _) ⟨_, Heap.get?_push_size _ rfl, rfl, rfl⟩ q
  · cases r1
    obtain ⟨its, rv, p, hz⟩ := I1.tuple hq
    refine wpAny_pyIter_tuple (show s1.heap.IsTuple a its.toArray from p) ?_
    exact pi_one (tk := s1.toks) I1 _ (turn_tuple a _) ⟨_, Heap.get?_push_size _ rfl, rfl, rfl⟩ q
  · obtain ⟨t, rfl⟩ := r1
    cases ha : x.cps.all (· < 128)
    · exact wpAny_pyIter_wide ha (pi_one (tk := s1.toks) I1 _ (turn_str _ x t "str_iterator" (.inr rfl)) ⟨_, Heap.get?_push_size _ rfl, rfl, rfl⟩ q)
    · exact wpAny_pyIter_ascii ha (pi_one (tk := s1.toks) I1 _ (turn_str _ x t "str_ascii_iterator" (.inl rfl)) ⟨_, Heap.get?_push_size _ rfl, rfl, rfl⟩ q)
def strL (x : Str) : Cell := x.cps.toList.map fun c => .str ⟨#[c]⟩
def itsOf (w : Wv) (μ : Mu) : Option Its :=
  match w with
  | .d (.list c) => some ⟨c, []⟩
  | .d (.tuple c) => some ⟨c, []⟩
  | .d (.str x) => some ⟨strL x, []⟩
  | .r k => match μ[k]? with
    | some (some c) => some ⟨c, [(k, c)]⟩
    | _ => none
  | _ => none
def oOf {γ : Type} (o : Option γ) (μ : Mu) : Out γ := match o with
  | some c => .ok c μ
  | none => .bad
def iAny (f : Ev) : Iv := fun ρ μ => (f ρ μ).bind fun w μ1 => oOf (itsOf w μ1) μ1
section
variable {K : PySem.W.Frag} {α0 : List Addr} {F0 H0 : Hp}
theorem jok_list {a : Addr} {vs : List V} {c : Cell} (hF : Ls K F0 a vs) (d : DqAll K F0 vs c) : JOk K α0 F0 H0 (Itl K a) ⟨c, []⟩ := by
  refine ⟨fun α F μ H r e t => ?_⟩
  have hs : SqL K H a vs := (sameL (e.fro.trans r.sub) hF).sq
  have d' := d.mono e.fro
  refine ⟨fun n hn => ?_, fun n hn => ⟨vs, hs, by rw [d'.length]; exact hn⟩, fun n y x H' hy hyl => ?_⟩
  · have hn' : n < vs.length := by rw [d'.length]; exact hn
    exact ⟨vs, vs[n], hs, List.getElem?_eq_getElem hn'⟩
  · obtain ⟨rfl, q⟩ := hyl
    obtain ⟨v, e1, e2⟩ := d'.get hy
    have := q vs hs
    rw [e1] at this
    cases this
    exact ⟨F, r, .refl, e2⟩
theorem jok_tup {a : Addr} {vs : List V} {c : Cell} (hF : SqT K F0 a vs) (d : DqAll K F0 vs c) : JOk K α0 F0 H0 (Itt K a) ⟨c, []⟩ := by
  refine ⟨fun α F μ H r e t => ?_⟩
  have hs : SqT K H a vs := sameT (e.fro.trans r.sub) hF
  have d' := d.mono e.fro
  refine ⟨fun n hn => ?_, fun n hn => ⟨vs, hs, by rw [d'.length]; exact hn⟩, fun n y x H' hy hyl => ?_⟩
  · have hn' : n < vs.length := by rw [d'.length]; exact hn
    exact ⟨vs, vs[n], hs, List.getElem?_eq_getElem hn'⟩
  · obtain ⟨rfl, q⟩ := hyl
    obtain ⟨v, e1, e2⟩ := d'.get hy
    have := q vs hs
    rw [e1] at this
    cases this
    exact ⟨F, r, .refl, e2⟩
theorem jok_cell {a : Addr} {k : Nat} {c : Cell} (ha : α0[k]? = some a) : JOk K α0 F0 H0 (Itl K a) ⟨c, [(k, c)]⟩ := by
  refine ⟨fun α F μ H r e t => ?_⟩
  have tk : μ[k]? = some (some c) := t (k, c) List.mem_cons_self
  obtain ⟨b, vs, h1, h2, h3, d'⟩ := r.cell k c tk
  obtain ⟨β, rfl⟩ := e.pre
  rw [List.getElem?_append_left (List.getElem?_eq_some_iff.mp ha).1, ha] at h1
  cases h1
  have hs : SqL K H a vs := .inl (.inl h2)
  refine ⟨fun n hn => ?_, fun n hn => ⟨vs, hs, by rw [d'.length]; exact hn⟩, fun n y x H' hy hyl => ?_⟩
  · have hn' : n < vs.length := by rw [d'.length]; exact hn
    exact ⟨vs, vs[n], hs, List.getElem?_eq_getElem hn'⟩
  · obtain ⟨rfl, q⟩ := hyl
    obtain ⟨v, e1, e2⟩ := d'.get hy
    have := q vs hs
    rw [e1] at this
    cases this
    exact ⟨F, r, .refl, e2⟩
theorem strL_get {x : Str} {n : Nat} {c : Nat} (h : x.cps[n]? = some c) : (strL x)[n]? = some (.str ⟨#[c]⟩) := by
  unfold strL
  rw [List.getElem?_map, Array.getElem?_toList, h]
  rfl
theorem strL_len {x : Str} : (strL x).length = x.cps.size := by
  unfold strL
  rw [List.length_map, Array.length_toList]
theorem jok_str {x : Str} : JOk K α0 F0 H0 (L2.Its x) ⟨strL x, []⟩ := by
  refine ⟨fun α F μ H r e t => ⟨fun n hn => ?_, fun n hn => ?_, fun n y v H' hy hyl => ?_⟩⟩
  · rw [strL_len] at hn
    exact hn
  · rw [strL_len] at hn
    exact hn
  · obtain ⟨rfl, c, hc, rfl⟩ := hyl
    have := strL_get hc
    rw [this] at hy
    cases hy
    exact ⟨F, r, .refl, .str _⟩
end
section
variable {X : Cx} {W : WX} {tg : Expr}
theorem si_any {e : Expr} {f : Ev} (he : SE X W e f) : SI X W tg e (iAny f) := by
  refine (pi_dyn he).imp fun σ H R ⟨ρ, μ, α, F, r, re, q⟩ => ?_
  refine ⟨ρ, μ, α, F, r, re, q.bind.mono fun w μ1 α1 F1 H1 x1 r1 q1 v rv => ?_⟩
  unfold itsOf at q1
  split at q1
  · have rv : Dq X.K F1 v _ := rv
    cases rv with
    | lst h d => exact .inl ⟨_, rfl, ⟨_, (sameL r1.sub h).sq⟩, q1.now r1 _ (jok_list h d)⟩
  · have rv : Dq X.K F1 v _ := rv
    cases rv with
    | tup h d => exact .inr (.inl ⟨_, rfl, ⟨_, sameT r1.sub h⟩, q1.now r1 _ (jok_tup h d)⟩)
  · have rv : Dq X.K F1 v _ := rv
    cases rv
    exact .inr (.inr ⟨_, rfl, q1.now r1 _ jok_str⟩)
  · split at q1
    · rename_i k c ec
      obtain ⟨a, vs, rfl, h1, h2, h4⟩ := cell_at r1 ec rv
      exact .inl ⟨_, rfl, ⟨_, .inl (.inl h2)⟩, q1.now r1 _ (jok_cell h1)⟩
    · exact q1.elim
  · exact q1.elim

/-! ### range, enumerate, zip -/
def intL (lo : Int) (n : Nat) (c : Int) : Cell := (List.range n).map fun (i : Nat) => .int (lo + (i : Int) * c)
theorem intL_len {lo c : Int} {n : Nat} : (intL lo n c).length = n := by
  unfold intL
  rw [List.length_map, List.length_range]
theorem intL_get {lo c : Int} {n i : Nat} {d : PyData} (h : (intL lo n c)[i]? = some d) : d = .int (lo + (i : Int) * c) := by
  unfold intL at h
  rw [List.getElem?_map] at h
  cases e : (List.range n)[i]? with
  | none =>
    rw [e] at h
    cases h
  | some j =>
    rw [e] at h
    have := (List.getElem?_eq_some_iff.mp e).2
    rw [List.getElem_range] at this
    subst this
    cases h
    rfl
theorem jok_rng {K : PySem.W.Frag} {α0 : List Addr} {F0 H0 : Hp} {lo : Int} {n : Nat} : JOk K α0 F0 H0 (Itr lo n) ⟨intL lo n 1, []⟩ := by
  refine ⟨fun α F μ H r e t => ⟨fun i hn => ?_, fun i hn => ?_, fun i y v H' hy hyl => ?_⟩⟩
  · rw [intL_len] at hn
    exact hn
  · rw [intL_len] at hn
    exact hn
  · obtain ⟨rfl, rfl⟩ := hyl
    rw [intL_get hy, Int.mul_one]
    exact ⟨F, r, .refl, .int _⟩
theorem jok_rngC {K : PySem.W.Frag} {α0 : List Addr} {F0 H0 : Hp} {lo c : Int} {n : Nat} : JOk K α0 F0 H0 (Itc lo c n) ⟨intL lo n c, []⟩ := by
  refine ⟨fun α F μ H r e t => ⟨fun i hn => ?_, fun i hn => ?_, fun i y v H' hy hyl => ?_⟩⟩
  · rw [intL_len] at hn
    exact hn
  · rw [intL_len] at hn
    exact hn
  · obtain ⟨rfl, rfl⟩ := hyl
    rw [intL_get hy]
    exact ⟨F, r, .refl, .int _⟩
noncomputable def smallI (j : Int) : Bool := @decide (-4611686018427387904 ≤ j) (Classical.propDecidable _) && @decide (j < 4611686018427387904) (Classical.propDecidable _)
theorem smallI_ok {j : Int} (h : smallI j = true) : -(2 ^ 62) ≤ j ∧ j < 2 ^ 62 := by
  unfold smallI at h
  rw [Bool.and_eq_true] at h
  have h1 := @of_decide_eq_true _ (Classical.propDecidable _) h.1
  have h2 := @of_decide_eq_true _ (Classical.propDecidable _) h.2
  exact ⟨by omega, by omega⟩
theorem smallI_is {j : Int} (h1 : -4611686018427387904 ≤ j) (h2 : j < 4611686018427387904) : smallI j = true := by
  unfold smallI
  rw [Bool.and_eq_true]
  exact ⟨@decide_eq_true _ (Classical.propDecidable _) h1, @decide_eq_true _ (Classical.propDecidable _) h2⟩
noncomputable def iR1 (as : Av) : Iv := fun ρ μ => (as ρ μ).bind fun ws μ1 => match ws with
  | [.d (.int j)] => if smallI j = true then .ok ⟨intL 0 j.toNat 1, []⟩ μ1 else .bad
  | _ => .bad
noncomputable def iR2 (as : Av) : Iv := fun ρ μ => (as ρ μ).bind fun ws μ1 => match ws with
  | [.d (.int i), .d (.int j)] => if (smallI i && smallI j) = true then .ok ⟨intL i (j - i).toNat 1, []⟩ μ1 else .bad
  | _ => .bad
/-- downwards -/
noncomputable def iR3 (as : Av) : Iv := fun ρ μ => (as ρ μ).bind fun ws μ1 => match ws with
  | [.d (.int i), .d (.int j), .d (.int (-1))] => if (smallI i && smallI j) = true then .ok ⟨intL i (i - j).toNat (-1), []⟩ μ1 else .bad
  | _ => .bad
theorem si_r1 {a : Expr} {as : Av} {p pos : Pos} (hg : Gl X "range") (hm : X.mg "range" = none) (ha : SA X W [a] as) (hs : starEach [a] X.env = [(false, eval a X.env)]) : SI X W tg (.Call (.Name "range" p) [a] [] pos) (iR1 as) := by
  refine (pi_range1 hg hm ha hs).imp fun σ H R ⟨ρ, μ, α, F, r, re, q⟩ => ?_
  refine ⟨ρ, μ, α, F, r, re, q.bind.mono fun ws μ1 α1 F1 H1 x1 r1 q1 vs rv => ?_⟩
  split at q1
  · rename_i j
    split at q1
    · rename_i h
      cases rv with
      | cons a1 t1 =>
        cases t1
        cases a1
        obtain ⟨h1, h2⟩ := smallI_ok h
        exact ⟨j, rfl, h1, h2, q1.now r1 _ jok_rng⟩
    · exact q1.elim
  · exact q1.elim
theorem si_r2 {a b : Expr} {as : Av} {p pos : Pos} (hg : Gl X "range") (hm : X.mg "range" = none) (ha : SA X W [a, b] as) (hs : starEach [a, b] X.env = [(false, eval a X.env), (false, eval b X.env)]) (hs2 : starEach [b] X.env = [(false, eval b X.env)]) :
    SI X W tg (.Call (.Name "range" p) [a, b] [] pos) (iR2 as) := by
  refine (pi_range2 hg hm ha hs hs2).imp fun σ H R ⟨ρ, μ, α, F, r, re, q⟩ => ?_
  refine ⟨ρ, μ, α, F, r, re, q.bind.mono fun ws μ1 α1 F1 H1 x1 r1 q1 vs rv => ?_⟩
  split at q1
  · rename_i i j
    split at q1
    · rename_i h
      rw [Bool.and_eq_true] at h
      cases rv with
      | cons a1 t1 =>
        cases t1 with
        | cons a2 t2 =>
          cases t2
          cases a1
          cases a2
          obtain ⟨h1, h2⟩ := smallI_ok h.1
          obtain ⟨h3, h4⟩ := smallI_ok h.2
          exact ⟨i, j, rfl, ⟨h1, h2, h3, h4⟩, q1.now r1 _ jok_rng⟩
    · exact q1.elim
  · exact q1.elim
theorem si_r3 {a b c : Expr} {as : Av} {p pos : Pos} (hg : Gl X "range") (hm : X.mg "range" = none) (ha : SA X W [a, b, c] as)
    (hs : starEach [a, b, c] X.env = (false, eval a X.env) :: starEach [b, c] X.env) (hpl : (backTo pos (starEach [b, c] X.env)).any (·.1) = false) :
    SI X W tg (.Call (.Name "range" p) [a, b, c] [] pos) (iR3 as) := by
  refine (pi_range3 hg hm ha hs hpl).imp fun σ H R ⟨ρ, μ, α, F, r, re, q⟩ => ?_
  refine ⟨ρ, μ, α, F, r, re, q.bind.mono fun ws μ1 α1 F1 H1 x1 r1 q1 vs rv => ?_⟩
  split at q1
  · rename_i i j
    split at q1
    · rename_i h
      rw [Bool.and_eq_true] at h
      cases rv with
      | cons a1 t1 =>
        cases t1 with
        | cons a2 t2 =>
          cases t2 with
          | cons a3 t3 =>
            cases t3
            cases a1
            cases a2
            cases a3
            obtain ⟨h1, h2⟩ := smallI_ok h.1
            obtain ⟨h3, h4⟩ := smallI_ok h.2
            exact ⟨i, j, -1, _, rfl, .neg h1 h2 h3 h4, q1.now r1 _ jok_rngC⟩
    · exact q1.elim
  · exact q1.elim
/-- a list: its items, its ties -/
def lstOf (w : Wv) (μ : Mu) : Option Its :=
  match w with
  | .d (.list c) => some ⟨c, []⟩
  | .r k => match μ[k]? with
    | some (some c) => some ⟨c, [(k, c)]⟩
    | _ => none
  | _ => none
def tupOf (w : Wv) : Option Its :=
  match w with
  | .d (.tuple c) => some ⟨c, []⟩
  | _ => none
/-- what is known of a list while it is tied -/
structure LKn (K : PySem.W.Frag) (α0 : List Addr) (F0 H0 : Hp) (a : Addr) (i : Its) : Prop where
  at_ : ∀ α F μ H, Rep K α F μ H → Ext α0 F0 H0 α F H → tied i μ → ∃ vs, SqL K H a vs ∧ DqAll K F vs i.xs
theorem lkn {K : PySem.W.Frag} {α : List Addr} {F H : Hp} {μ : Mu} {w : Wv} {v : V} {i : Its} (r : Rep K α F μ H) (rv : Rw K α F v w) (e : lstOf w μ = some i) : ∃ a, v = .ref a ∧ (∃ vs, SqL K H a vs) ∧ LKn K α F H a i := by
  unfold lstOf at e
  split at e
  · cases e
    have rv : Dq K F v _ := rv
    cases rv with
    | lst h d => exact ⟨_, rfl, ⟨_, (sameL r.sub h).sq⟩, ⟨fun α' F' μ' H' r' x t => ⟨_, (sameL (x.fro.trans r'.sub) h).sq, d.mono x.fro⟩⟩⟩
  · split at e
    · rename_i k _ c ec
      cases e
      obtain ⟨a, vs, rfl, h1, h2, h4⟩ := cell_at r ec rv
      refine ⟨a, rfl, ⟨_, .inl (.inl h2)⟩, ⟨fun α' F' μ' H' r' x t => ?_⟩⟩
      have tk : μ'[k]? = some (some c) := t (k, c) List.mem_cons_self
      obtain ⟨b, us, g1, g2, g3, d'⟩ := r'.cell k c tk
      obtain ⟨β, rfl⟩ := x.pre
      rw [List.getElem?_append_left (List.getElem?_eq_some_iff.mp h1).1, h1] at g1
      cases g1
      exact ⟨us, .inl (.inl g2), d'⟩
    · cases e
  · cases e
structure TKn (K : PySem.W.Frag) (α0 : List Addr) (F0 H0 : Hp) (a : Addr) (i : Its) : Prop where
  at_ : ∀ α F μ H, Rep K α F μ H → Ext α0 F0 H0 α F H → tied i μ → ∃ vs, SqT K H a vs ∧ DqAll K F vs i.xs
theorem tkn {K : PySem.W.Frag} {α : List Addr} {F H : Hp} {μ : Mu} {w : Wv} {v : V} {i : Its} (r : Rep K α F μ H) (rv : Rw K α F v w) (e : tupOf w = some i) : ∃ a, v = .ref a ∧ (∃ vs, SqT K H a vs) ∧ TKn K α F H a i := by
  unfold tupOf at e
  split at e
  · cases e
    have rv : Dq K F v _ := rv
    cases rv with
    | tup h d => exact ⟨_, rfl, ⟨_, sameT r.sub h⟩, ⟨fun α' F' μ' H' r' x t => ⟨_, sameT (x.fro.trans r'.sub) h, d.mono x.fro⟩⟩⟩
  · cases e
def enumL (c : Cell) : Cell := c.mapIdx fun n x => .tuple [.int n, x]
def zipL (c d : Cell) : Cell := List.zipWith (fun x y => PyData.tuple [x, y]) c d
def iEnumS (as : Av) : Iv := fun ρ μ => (as ρ μ).bind fun ws μ1 => match ws with
  | [w] => (oOf (lstOf w μ1) μ1).bind fun i μ2 => .ok ⟨enumL i.xs, i.tie⟩ μ2
  | _ => .bad
theorem tied_app {xs ys : Cell} {t1 t2 : List (Nat × Cell)} {μ : Mu} {zs : Cell} (h : tied ⟨zs, t1 ++ t2⟩ μ) : tied ⟨xs, t1⟩ μ ∧ tied ⟨ys, t2⟩ μ :=
  ⟨fun p hp => h p (List.mem_append_left _ hp), fun p hp => h p (List.mem_append_right _ hp)⟩
theorem jok_enum {K : PySem.W.Frag} {α0 : List Addr} {F0 H0 : Hp} {a : Addr} {i : Its} (k : LKn K α0 F0 H0 a i) : JOk K α0 F0 H0 (Ite K a) ⟨enumL i.xs, i.tie⟩ := by
  refine ⟨fun α F μ H r e t => ?_⟩
  obtain ⟨vs, hs, d⟩ := k.at_ α F μ H r e t
  have hl : (enumL i.xs).length = i.xs.length := by unfold enumL; rw [List.length_mapIdx]
  refine ⟨fun n hn => ?_, fun n hn => ⟨vs, hs, by rw [d.length, ← hl]; exact hn⟩, fun n y x H' hy hyl => ?_⟩
  · have hn' : n < vs.length := by rw [d.length, ← hl]; exact hn
    exact ⟨vs, vs[n], hs, List.getElem?_eq_getElem hn'⟩
  · obtain ⟨T, u, rfl, hT, rfl, q⟩ := hyl
    have hu := q vs hs
    obtain ⟨z, hz, dz⟩ := d.getV hu
    have hy : (enumL i.xs)[n]? = some y := hy
    unfold enumL at hy
    rw [List.getElem?_mapIdx, hz] at hy
    cases hy
    obtain ⟨r2, x2⟩ := r.new (o := .tup [.int (n : Nat), u]) hT
    exact ⟨_, r2, x2, .tup (.inl (.inl upd_same)) (.cons (.int _) (.cons (dz.mono x2.fro) .nil))⟩
theorem si_enum {e : Expr} {as : Av} {p pos tpos : Pos} {elts : List Expr} {kk : Nat} (hg : Gl X "enumerate") (hm : X.mg "enumerate" = none) (ha : SA X W [e] as) (hs : starEach [e] X.env = [(false, eval e X.env)]) :
    SI X W (.Tuple elts kk tpos) (.Call (.Name "enumerate" p) [e] [] pos) (iEnumS as) := by
  refine (pi_enum hg hm ha hs).imp fun σ H R ⟨ρ, μ, α, F, r, re, q⟩ => ?_
  refine ⟨ρ, μ, α, F, r, re, q.bind.mono fun ws μ1 α1 F1 H1 x1 r1 q1 vs rv => ?_⟩
  split at q1
  · rename_i w
    cases rv with
    | cons a1 t1 =>
      cases t1
      cases e1 : lstOf w μ1 with
      | none =>
        rw [e1] at q1
        exact q1.elim
      | some i =>
        rw [e1] at q1
        obtain ⟨a, rfl, ⟨us, hu⟩, k⟩ := lkn r1 a1 e1
        exact ⟨a, us, rfl, hu, gp.now (c := (⟨enumL i.xs, i.tie⟩ : Its)) q1 r1 _ (jok_enum k)⟩
  · exact q1.elim
def iZipS (as : Av) : Iv := fun ρ μ => (as ρ μ).bind fun ws μ1 => match ws with
  | [w, u] => match lstOf w μ1, lstOf u μ1, tupOf w, tupOf u with
    | some i, some j, _, _ => .ok ⟨zipL i.xs j.xs, i.tie ++ j.tie⟩ μ1
    | _, _, some i, some j => .ok ⟨zipL i.xs j.xs, i.tie ++ j.tie⟩ μ1
    | _, _, _, _ => .bad
  | _ => .bad
theorem zipL_len {c d : Cell} : (zipL c d).length = min c.length d.length := by unfold zipL; rw [List.length_zipWith]
theorem jok_zip {K : PySem.W.Frag} {α0 : List Addr} {F0 H0 : Hp} {a b : Addr} {i j : Its} (k : LKn K α0 F0 H0 a i) (k2 : LKn K α0 F0 H0 b j) : JOk K α0 F0 H0 (Itz K a b) ⟨zipL i.xs j.xs, i.tie ++ j.tie⟩ := by
  refine ⟨fun α F μ H r e t => ?_⟩
  obtain ⟨t1, t2⟩ := tied_app (xs := i.xs) (ys := j.xs) t
  obtain ⟨vs, hs, d⟩ := k.at_ α F μ H r e t1
  obtain ⟨us, hs2, d2⟩ := k2.at_ α F μ H r e t2
  have hl := zipL_len (c := i.xs) (d := j.xs)
  have l1 := d.length
  have l2 := d2.length
  refine ⟨fun n hn => ?_, fun n hn => ⟨vs, us, hs, hs2, ?_⟩, fun n y x H' hy hyl => ?_⟩
  · have hn : n < (zipL i.xs j.xs).length := hn
    have hn1 : n < vs.length := by omega
    have hn2 : n < us.length := by omega
    exact ⟨vs, us, vs[n], us[n], hs, hs2, List.getElem?_eq_getElem hn1, List.getElem?_eq_getElem hn2⟩
  · have hn : (zipL i.xs j.xs).length ≤ n := hn
    omega
  · obtain ⟨T, u, u2, rfl, hT, rfl, q, q2⟩ := hyl
    obtain ⟨z, hz, dz⟩ := d.getV (q vs hs)
    obtain ⟨z2, hz2, dz2⟩ := d2.getV (q2 us hs2)
    have hy : (zipL i.xs j.xs)[n]? = some y := hy
    unfold zipL at hy
    rw [List.getElem?_zipWith, hz, hz2] at hy
    cases hy
    obtain ⟨r2, x2⟩ := r.new (o := .tup [u, u2]) hT
    exact ⟨_, r2, x2, .tup (.inl (.inl upd_same)) (.cons (dz.mono x2.fro) (.cons (dz2.mono x2.fro) .nil))⟩
theorem jok_zipT {K : PySem.W.Frag} {α0 : List Addr} {F0 H0 : Hp} {a b : Addr} {i j : Its} (k : TKn K α0 F0 H0 a i) (k2 : TKn K α0 F0 H0 b j) : JOk K α0 F0 H0 (ItzT K a b) ⟨zipL i.xs j.xs, i.tie ++ j.tie⟩ := by
  refine ⟨fun α F μ H r e t => ?_⟩
  obtain ⟨t1, t2⟩ := tied_app (xs := i.xs) (ys := j.xs) t
  obtain ⟨vs, hs, d⟩ := k.at_ α F μ H r e t1
  obtain ⟨us, hs2, d2⟩ := k2.at_ α F μ H r e t2
  have hl := zipL_len (c := i.xs) (d := j.xs)
  have l1 := d.length
  have l2 := d2.length
  refine ⟨fun n hn => ?_, fun n hn => ⟨vs, us, hs, hs2, ?_⟩, fun n y x H' hy hyl => ?_⟩
  · have hn : n < (zipL i.xs j.xs).length := hn
    have hn1 : n < vs.length := by omega
    have hn2 : n < us.length := by omega
    exact ⟨vs, us, vs[n], us[n], hs, hs2, List.getElem?_eq_getElem hn1, List.getElem?_eq_getElem hn2⟩
  · have hn : (zipL i.xs j.xs).length ≤ n := hn
    omega
  · obtain ⟨T, u, u2, rfl, hT, rfl, q, q2⟩ := hyl
    obtain ⟨z, hz, dz⟩ := d.getV (q vs hs)
    obtain ⟨z2, hz2, dz2⟩ := d2.getV (q2 us hs2)
    have hy : (zipL i.xs j.xs)[n]? = some y := hy
    unfold zipL at hy
    rw [List.getElem?_zipWith, hz, hz2] at hy
    cases hy
    obtain ⟨r2, x2⟩ := r.new (o := .tup [u, u2]) hT
    exact ⟨_, r2, x2, .tup (.inl (.inl upd_same)) (.cons (dz.mono x2.fro) (.cons (dz2.mono x2.fro) .nil))⟩
theorem si_zip {e e2 : Expr} {as : Av} {p pos tpos : Pos} {elts : List Expr} {kk : Nat} (hg : Gl X "zip") (hm : X.mg "zip" = none) (ha : SA X W [e, e2] as)
    (hs : starEach [e, e2] X.env = (false, eval e X.env) :: starEach [e2] X.env) (hpl : (backTo pos (starEach [e2] X.env)).any (·.1) = false) :
    SI X W (.Tuple elts kk tpos) (.Call (.Name "zip" p) [e, e2] [] pos) (iZipS as) := by
  refine (pi_zipA hg hm ha hs hpl).imp fun σ H R ⟨ρ, μ, α, F, r, re, q⟩ => ?_
  refine ⟨ρ, μ, α, F, r, re, q.bind.mono fun ws μ1 α1 F1 H1 x1 r1 q1 vs rv => ?_⟩
  split at q1
  · rename_i w u
    obtain ⟨v, v', rfl, d, d'⟩ := rws2 rv
    split at q1
    · rename_i i j e1 e2
      obtain ⟨a, rfl, ⟨us, hu⟩, k⟩ := lkn r1 d e1
      obtain ⟨b, rfl, ⟨us2, hu2⟩, k2⟩ := lkn r1 d' e2
      exact ⟨a, b, us, us2, rfl, .inl ⟨hu, hu2, q1.now r1 _ (jok_zip k k2)⟩⟩
    · rename_i i j e1 e2 _
      obtain ⟨a, rfl, ⟨us, hu⟩, k⟩ := tkn r1 d e1
      obtain ⟨b, rfl, ⟨us2, hu2⟩, k2⟩ := tkn r1 d' e2
      exact ⟨a, b, us, us2, rfl, .inr ⟨hu, hu2, q1.now r1 _ (jok_zipT k k2)⟩⟩
    · exact q1.elim
  · exact q1.elim
end
end TL
/-! TL10: for, while, list comprehensions. -/
namespace TL
open PySem PySem.Spec L2 PyProof.Rows
open Classical in
noncomputable def loopF (i : Its) (t : Gv) (b : Sv) : Cell → Rho → Mu → Out Fl
  | [], ρ, μ => if tied i μ then .ok (.nx ρ) μ else .bad
  | x :: xs, ρ, μ => if tied i μ then (calm (t (.d x) ρ μ)).bind fun ρ1 μ1 => (calm (b ρ1 μ1)).bind fun fl μ2 =>
      match fl with
      | .nx ρ2 => loopF i t b xs ρ2 μ2
      | .ct ρ2 => loopF i t b xs ρ2 μ2
      | .bk ρ2 => .ok (.nx ρ2) μ2
      | .rt w => .ok (.rt w) μ2
      | .er x us ρ2 => .ok (.er x us ρ2) μ2
    else .bad
noncomputable def sFor (it : Iv) (t : Gv) (b : Sv) : Sv := fun ρ μ => liftO ρ (it ρ μ) fun i μ1 => loopF i t b i.xs ρ μ1
def loopW (c : Bv) (b : Sv) : Nat → Rho → Mu → Out Fl
  | 0, _, _ => .bad
  | n + 1, ρ, μ => liftO ρ (c ρ μ) fun z μ1 => if z = true then (calm (b ρ μ1)).bind fun fl μ2 =>
      match fl with
      | .nx ρ2 => loopW c b n ρ2 μ2
      | .ct ρ2 => loopW c b n ρ2 μ2
      | .bk ρ2 => .ok (.nx ρ2) μ2
      | .rt w => .ok (.rt w) μ2
      | .er x us ρ2 => .ok (.er x us ρ2) μ2
    else .ok (.nx ρ) μ1
open Classical in
noncomputable def sWhile (c : Bv) (b : Sv) : Sv := fun ρ μ => if h : ∃ n, loopW c b n ρ μ ≠ .bad then loopW c b (Classical.choose h) ρ μ else .bad
theorem loopW_succ (c : Bv) (b : Sv) : ∀ (n : Nat) (ρ : Rho) (μ : Mu), loopW c b n ρ μ ≠ .bad → loopW c b (n + 1) ρ μ = loopW c b n ρ μ
  | 0, ρ, μ, h => absurd rfl h
  | n + 1, ρ, μ, h => by
    unfold loopW at h ⊢
    cases e : c ρ μ with
    | bad => rfl
    | err x ws μ1 => rfl
    | ok z μ1 =>
      rw [e] at h
      simp only [liftO_ok] at h ⊢
      by_cases hz : z = true
      · rw [if_pos hz] at h ⊢
        rw [if_pos hz]
        cases e2 : calm (b ρ μ1) with
        | bad => rfl
        | err x ws μ2 => rfl
        | ok fl μ2 =>
          rw [e2] at h
          cases fl with
          | nx ρ2 => exact loopW_succ c b n ρ2 μ2 h
          | ct ρ2 => exact loopW_succ c b n ρ2 μ2 h
          | _ => rfl
      · rw [if_neg hz, if_neg hz]
theorem loopW_add (c : Bv) (b : Sv) (n : Nat) (ρ : Rho) (μ : Mu) (h : loopW c b n ρ μ ≠ .bad) : ∀ k, loopW c b (n + k) ρ μ = loopW c b n ρ μ
  | 0 => rfl
  | k + 1 => by
    have ih := loopW_add c b n ρ μ h k
    rw [← Nat.add_assoc, loopW_succ c b (n + k) ρ μ (by rw [ih]; exact h), ih]
/-- any number of turns that is enough -/
theorem sWhile_at {c : Bv} {b : Sv} {ρ : Rho} {μ : Mu} {o : Out Fl} (n : Nat) (h : loopW c b n ρ μ = o) (hb : o ≠ .bad) : sWhile c b ρ μ = o := by
  have ex : ∃ n, loopW c b n ρ μ ≠ .bad := ⟨n, by rw [h]; exact hb⟩
  unfold sWhile
  rw [dif_pos ex]
  have h1 := loopW_add c b _ ρ μ (Classical.choose_spec ex) n
  have h2 := loopW_add c b n ρ μ (by rw [h]; exact hb) (Classical.choose ex)
  rw [Nat.add_comm] at h2
  rw [← h1, h2, h]

section
variable {X : Cx} {W : WX}
section
variable {K : PySem.W.Frag} {mg : Str → Option Value} {γ δ : Type} {α0 α : List Addr} {F0 H0 F H : Hp} {o : Out γ} {E : XK}
/-- the computation goes on elsewhere; the rest is told from the old place -/
theorem gp.keep {k : γ → Mu → Out δ} {G : δ → Mu → List Addr → Hp → Hp → Prop} (h : gp K mg α0 F0 H0 (o.bind k) G E) (x : Ext α0 F0 H0 α F H) : gp K mg α F H o (fun c μ' _ _ _ => gp K mg α0 F0 H0 (k c μ') G E) E := h.bind0.base x
end
theorem turns {i : Its} {t : Gv} {b : Sv} {D : Ends} {tg : TG} {tb : TS} (hg : tg = tG X.K X.mg t) (hb : tb = tS X.K X.mg W b) {ρ : Rho} {σ : St} {μ : Mu} {α : List Addr} {F H : Hp} {J : It} (r : Rep X.K α F μ H) (re : RepE X.K α F ρ σ) (j : JOk X.K α F H J i)
    (q : gp X.K X.mg α F H (loopF i t b i.xs ρ μ) (GS X.K X.mg W D) (fun _ _ _ => False)) :
    ∃ V : Nat → Nat → St → Hp → Prop, (∃ m, V 0 m σ H) ∧ ∀ n m σ H, V n m σ H →
      (J.stop n H ∧ D.nx σ H) ∨ (J.go n H ∧ ∃ N : St → Hp → Prop, (∀ σ' H', N σ' H' → ∃ m', m' < m ∧ V (n + 1) m' σ' H') ∧ ∀ x H', J.yld n H x H' → tg x σ H' fun σ2 H2 => tb { D with nx := N, ct := N, bk := D.nx } σ2 H2) := by
  subst hg hb
  refine ⟨fun n m σ' H' => m + n = i.xs.length ∧ ∃ ρ' μ' α' F', Rep X.K α' F' μ' H' ∧ RepE X.K α' F' ρ' σ' ∧ Ext α F H α' F' H' ∧ gp X.K X.mg α' F' H' (loopF i t b (i.xs.drop n) ρ' μ') (GS X.K X.mg W D) (fun _ _ _ => False), ⟨i.xs.length, rfl, ρ, μ, α, F, r, re, .refl, q⟩, ?_⟩
  rintro n m σ1 H1 ⟨hm, ρ1, μ1, α1, F1, r1, re1, x1, q1⟩
  by_cases hn : n < i.xs.length
  · rw [List.drop_eq_getElem_cons hn] at q1
    unfold loopF at q1
    split at q1
    · rename_i ht
      obtain ⟨jg, js, jy⟩ := j.at_ α1 F1 μ1 H1 r1 x1 ht
      refine .inr ⟨jg n hn, fun σ' H' => ∃ ρ' μ' α' F', Rep X.K α' F' μ' H' ∧ RepE X.K α' F' ρ' σ' ∧ Ext α F H α' F' H' ∧ gp X.K X.mg α' F' H' (loopF i t b (i.xs.drop (n + 1)) ρ' μ') (GS X.K X.mg W D) (fun _ _ _ => False), fun σ' H' nx => ⟨m - 1, by omega, by omega, nx⟩, fun x H2 hy => ?_⟩
      obtain ⟨F2, r2, x2, d2⟩ := jy n i.xs[n] x H2 (List.getElem?_eq_getElem hn) hy
      have q2 := (q1.base x2).bind.calm (X' := fun _ _ _ => False)
      refine ⟨ρ1, μ1, α1, F2, .d i.xs[n], r2, re1.ext x2, d2, q2.mono fun ρ3 μ3 α3 F3 H3 x3 r3 q3 σ3 re3 => ?_⟩
      refine ⟨ρ3, μ3, α3, F3, r3, re3, ?_⟩
      have q4 := q3.bind.calm (X' := fun _ _ _ => False)
      refine q4.mono fun fl μ4 α4 F4 H4 x4 r4 q5 => ?_
      have xx : Ext α F H α4 F4 H4 := ((x1.trans x2).trans x3).trans x4
      cases fl with
      | nx ρ4 => exact fun σ4 re4 => ⟨ρ4, μ4, α4, F4, r4, re4, xx, q5⟩
      | ct ρ4 => exact fun σ4 re4 => ⟨ρ4, μ4, α4, F4, r4, re4, xx, q5⟩
      | bk ρ4 => exact fun σ4 re4 => gp.now (G := GS X.K X.mg W D) (X := fun _ _ _ => False) (c := Fl.nx ρ4) q5 r4 σ4 re4
      | rt w => exact gp.now (G := GS X.K X.mg W D) (X := fun _ _ _ => False) (c := Fl.rt w) q5 r4
      | er y us ρ4 => exact gp.now (G := GS X.K X.mg W D) (X := fun _ _ _ => False) (c := Fl.er y us ρ4) q5 r4
    · exact q1.elim
  · have hn' : i.xs.length ≤ n := Nat.le_of_not_lt hn
    rw [List.drop_eq_nil_of_le hn'] at q1
    unfold loopF at q1
    split at q1
    · rename_i ht
      obtain ⟨jg, js, jy⟩ := j.at_ α1 F1 μ1 H1 r1 x1 ht
      exact .inl ⟨js n hn', gp.now (G := GS X.K X.mg W D) (X := fun _ _ _ => False) (c := Fl.nx ρ1) q1 r1 σ1 re1⟩
    · exact q1.elim
theorem ss_for {tg iter : Expr} {body : List Stmt} {fi : Iv} {t : Gv} {b : Sv} {pos : Pos} (hp : PassesOwn (model X.prog X.w) X.A X.env X.xe) (hc : X.calm = true) (hi : SI X W tg iter fi) (hg : SG X tg t) (hb : SSs X W body b)
    (hs : ∀ x, foldedSetIterable iter X.env x = pure x) : SS X W (.For tg iter body [] pos) (sFor fi t b) := by
  refine (ps_for hp hc hi hg hb hs).imp fun D σ H ⟨ρ, μ, α, F, r, re, q⟩ => ?_
  refine ⟨ρ, μ, α, F, r, re, (gp_lift re q).mono fun i μ1 α1 F1 H1 x1 r1 q1 J j => ?_⟩
  exact turns rfl rfl r1 (re.ext x1) j q1
theorem ss_whileN {c : Expr} {body : List Stmt} {fc : Bv} {b : Sv} {pos : Pos} (hp : PassesOwn (model X.prog X.w) X.A X.env X.xe) (hc : ST X W c fc) (hb : SSs X W body b) : SS X W (.While c body [] pos) (sWhile fc b) := by
  refine (ps_while hp hc hb).imp fun D σ H ⟨ρ, μ, α, F, r, re, q⟩ => ?_
  have q' : gp X.K X.mg α F H (sWhile fc b ρ μ) (GS X.K X.mg W D) (fun _ _ _ => False) := q
  unfold sWhile at q'
  split at q'
  · rename_i ex
    generalize Classical.choose ex = n0 at q'
    refine ⟨fun m σ' H' => ∃ ρ' μ' α' F', Rep X.K α' F' μ' H' ∧ RepE X.K α' F' ρ' σ' ∧ gp X.K X.mg α' F' H' (loopW fc b m ρ' μ') (GS X.K X.mg W D) (fun _ _ _ => False), ⟨n0, ρ, μ, α, F, r, re, q'⟩, ?_⟩
    rintro m σ1 H1 ⟨ρ1, μ1, α1, F1, r1, re1, q1⟩
    cases m with
    | zero => exact q1.elim
    | succ m =>
      unfold loopW at q1
      refine ⟨ρ1, μ1, α1, F1, r1, re1, (gp_lift re1 q1).mono fun z μ2 α2 F2 H2 x2 r2 q2 => ?_⟩
      cases z with
      | false => exact gp.now (G := GS X.K X.mg W D) (X := fun _ _ _ => False) (c := Fl.nx ρ1) q2 r2 σ1 (re1.ext x2)
      | true =>
        refine ⟨fun σ' H' => ∃ ρ' μ' α' F', Rep X.K α' F' μ' H' ∧ RepE X.K α' F' ρ' σ' ∧ gp X.K X.mg α' F' H' (loopW fc b m ρ' μ') (GS X.K X.mg W D) (fun _ _ _ => False), fun σ' H' nx => ⟨m, Nat.lt_succ_self m, nx⟩, ?_⟩
        refine ⟨ρ1, μ2, α2, F2, r2, re1.ext x2, ?_⟩
        have q4 := (gp.bind q2).calm (X' := fun _ _ _ => False)
        refine q4.mono fun fl μ4 α4 F4 H4 x4 r4 q5 => ?_
        cases fl with
        | nx ρ4 => exact fun σ4 re4 => ⟨ρ4, μ4, α4, F4, r4, re4, q5⟩
        | ct ρ4 => exact fun σ4 re4 => ⟨ρ4, μ4, α4, F4, r4, re4, q5⟩
        | bk ρ4 => exact fun σ4 re4 => gp.now (G := GS X.K X.mg W D) (X := fun _ _ _ => False) (c := Fl.nx ρ4) q5 r4 σ4 re4
        | rt w => exact gp.now (G := GS X.K X.mg W D) (X := fun _ _ _ => False) (c := Fl.rt w) q5 r4
        | er y us ρ4 => exact gp.now (G := GS X.K X.mg W D) (X := fun _ _ _ => False) (c := Fl.er y us ρ4) q5 r4
  · exact q'.elim

/-! ### list comprehensions -/
def wipeR (ρ : Rho) : List Nat → Rho
  | [] => ρ
  | v :: vs => (wipeR ρ vs).set v none
theorem wipeR_len (ρ : Rho) : ∀ vs, (wipeR ρ vs).length = ρ.length
  | [] => rfl
  | v :: vs => by
    unfold wipeR
    rw [List.length_set, wipeR_len ρ vs]
theorem RepE.wipe {K : PySem.W.Frag} {α : List Addr} {F : Hp} {ρ : Rho} {σ : St} (h : RepE K α F ρ σ) : ∀ vs, RepE K α F (wipeR ρ vs) (L2.wipe σ vs)
  | [] => h
  | v :: vs => by
    have ih := RepE.wipe h vs
    refine ⟨by rw [wipeR_len, wipe_length]; exact h.len, fun i w e => ?_⟩
    unfold wipeR at e
    unfold L2.wipe
    by_cases hi : v = i
    · subst hi
      by_cases hl : v < (wipeR ρ vs).length
      · rw [List.getElem?_set_self hl] at e
        cases e
      · rw [List.getElem?_eq_none (by rw [List.length_set]; omega)] at e
        cases e
    · rw [List.getElem?_set_ne hi] at e ⊢
      exact ih.at_ i w e
theorem wipe_set (σ : St) (i : Nat) (v : Option V) : ∀ vs : List Nat, i ∈ vs → L2.wipe (σ.set i v) vs = L2.wipe σ vs
  | [], h => by cases h
  | u :: vs, h => by
    unfold L2.wipe
    by_cases hm : i ∈ vs
    · rw [wipe_set σ i v vs hm]
    · have hu : i = u := by
        rcases List.mem_cons.mp h with e | e
        · exact e
        · exact absurd e hm
      subst hu
      have far : ∀ (τ : St) (vs : List Nat), i ∉ vs → L2.wipe (τ.set i v) vs = (L2.wipe τ vs).set i v := by
        intro τ vs
        induction vs with
        | nil => intro _; rfl
        | cons z zs ih =>
          intro hz
          rw [List.mem_cons, not_or] at hz
          unfold L2.wipe
          rw [ih hz.2, List.set_comm _ _ (Ne.symm hz.1)]
      rw [far σ vs hm, List.set_set]
/-- a target of a block: own names only -/
def tGw (K : PySem.W.Frag) (mg : Str → Option Value) (os : List Nat) (t : Gv) : TG := fun v σ H Q => ∃ ρ μ α F w, Rep K α F μ H ∧ RepE K α F ρ σ ∧ Rw K α F v w ∧ gp K mg α F H (t w ρ μ) (fun ρ' _ α' F' H' => ∀ σ', RepE K α' F' ρ' σ' → L2.wipe σ' os = L2.wipe σ os → Q σ' H') (fun _ _ _ => False)
abbrev SGw (X : Cx) (os : List Nat) (tg : Expr) (t : Gv) : Prop := PG X tg (tGw X.K X.mg os t)
theorem sgw_name {os : List Nat} {i : Nat} {x : Str} {pos : Pos} (hN : X.N.Nodup) (hi : X.N[i]? = some x) (hx : Loc X.env.scope x) (hf : X.fn x = true ∨ X.env.scope.names.lookup x = some .local) (ho : i ∈ os) : SGw X os (.Name x pos) (gNm i) :=
  (pg_name hN hi hx hf).imp fun v σ H Q ⟨ρ, μ, α, F, w, r, re, rv, q⟩ => q.now r _ (re.set i rv) (wipe_set σ i _ os ho)
def tGsw (K : PySem.W.Frag) (mg : Str → Option Value) (os : List Nat) (ts : List Gv) : TGs := fun vs σ H Q => ∃ ρ μ α F ws, Rep K α F μ H ∧ RepE K α F ρ σ ∧ Rws K α F vs ws ∧ gp K mg α F H (gSeq ts ws ρ μ) (fun ρ' _ α' F' H' => ∀ σ', RepE K α' F' ρ' σ' → L2.wipe σ' os = L2.wipe σ os → Q σ' H') (fun _ _ _ => False)
abbrev SGsw (X : Cx) (os : List Nat) (es : List Expr) (ts : List Gv) : Prop := PGs X es (tGsw X.K X.mg os ts)
theorem sgsw_nil {os : List Nat} : SGsw X os [] [] := pgs_nil.imp fun vs σ H Q ⟨ρ, μ, α, F, ws, r, re, rv, q⟩ => by
  cases ws with
  | nil =>
    cases rv
    exact ⟨rfl, q.now r σ re rfl⟩
  | cons w ws => exact q.elim
theorem sgsw_cons {os : List Nat} {e : Expr} {es : List Expr} {t : Gv} {ts : List Gv} (h1 : SGw X os e t) (h2 : SGsw X os es ts) (hs : (assignEach (e :: es) X.env).map (·.2) = assign e X.env :: (assignEach es X.env).map (·.2)) : SGsw X os (e :: es) (t :: ts) := by
  refine (pgs_cons h1 h2 hs).imp fun vs σ H Q ⟨ρ, μ, α, F, ws, r, re, rv, q⟩ => ?_
  cases ws with
  | nil => exact q.elim
  | cons w ws =>
    cases rv with
    | cons r1 r2 =>
      refine ⟨_, _, rfl, ρ, μ, α, F, w, r, re, r1, gp.bind q |>.mono fun ρ' μ' α' F' H' x' rp q' σ' re' e' => ?_⟩
      exact ⟨ρ', μ', α', F', ws, rp, re', Rws.ext r2 x', q'.mono fun ρ2 μ2 α2 F2 H2 x2 rp2 q2 σ2 re2 e2 => q2 σ2 re2 (e2.trans e')⟩
theorem sgw_tup {os : List Nat} {es : List Expr} {k : Nat} {pos : Pos} {ts : List Gv} (hc : X.calm = true) (h : SGsw X os es ts) (hn : (assignEach es X.env).length = ts.length) (hst : (assignEach es X.env).findIdx? (·.1) = none) : SGw X os (.Tuple es k pos) (gTp ts) := by
  refine (pg_tup hc h hn hst).imp fun v σ H Q ⟨ρ, μ, α, F, w, r, re, rv, q⟩ => ?_
  unfold gTp at q
  split at q
  · rename_i xs
    split at q
    · rename_i hl
      cases rv with
      | @tup a vs _ t1 d1 => exact ⟨a, vs, rfl, sameT r.sub t1, by rw [d1.length, hl], ρ, μ, α, F, _, r, re, Rws.of_all d1, q⟩
    · exact q.elim
  · exact q.elim
/-- one turn's item -/
def lcPut (acc : Cell) (w : Wv) (μ : Mu) : Out Cell := match w with
  | .d y => if acc.length < 16777216 then .ok (acc ++ [y]) μ else .bad
  | _ => .bad
open Classical in
noncomputable def loopC (i : Its) (t : Gv) (c : Bv) (e : Ev) (ρ : Rho) : Cell → Cell → Mu → Out Cell
  | [], acc, μ => if tied i μ then .ok acc μ else .bad
  | x :: xs, acc, μ => if tied i μ then (calm (t (.d x) ρ μ)).bind fun ρ1 μ1 => (calm (c ρ1 μ1)).bind fun b μ2 =>
      if b = true then ((calm (e ρ1 μ2)).bind (lcPut acc)).bind fun acc' μ3 => loopC i t c e ρ xs acc' μ3 else loopC i t c e ρ xs acc μ2
    else .bad
noncomputable def lLc (it : Iv) (t : Gv) (c : Bv) (e : Ev) (os : List Nat) : Lv := fun ρ μ => (it ρ μ).bind fun i μ1 => loopC i t c e (wipeR ρ os) i.xs [] μ1
def bYes : Bv := fun _ μ => .ok true μ
theorem Rep.poke {K : PySem.W.Frag} {α : List Addr} {F H : Hp} {μ : Mu} {D : Addr} {o : HO} (r : Rep K α F μ H) (h : H D ≠ none) (hF : F D = none) (hn : D ∉ α) : Rep K α F μ (upd H D o) := by
  refine ⟨r.len, fun b u q => ?_, fun k c q => ?_, r.inj, fun a m => ?_⟩
  · rw [upd_ne (ne_of_none q hF)]
    exact r.sub _ _ q
  · obtain ⟨a, vs, h1, h2, h3, h4⟩ := r.cell k c q
    exact ⟨a, vs, h1, by rw [upd_ne (fun (e : a = D) => hn (e ▸ List.mem_of_getElem? h1))]; exact h2, h3, h4⟩
  · rw [upd_ne (fun (e : a = D) => hn (e ▸ m))]
    exact r.had a m
theorem Ext.poke {α0 α : List Addr} {F0 H0 F H : Hp} {D : Addr} {o : HO} (e : Ext α0 F0 H0 α F H) (h : H0 D = none) : Ext α0 F0 H0 α F (upd H D o) := by
  refine ⟨e.pre, e.fro, fun a u q n => ?_, fun a q => ?_, e.newF, e.newA⟩
  · rw [upd_ne (ne_of_none q h)]
    exact e.frame a u q n
  · by_cases z : a = D
    · rw [z, upd_same]
      exact fun z => nomatch z
    · rw [upd_ne z]
      exact e.keep a q
abbrev STs (X : Cx) (W : WX) (es : List Expr) (f : Bv) : Prop := PTs X es (tT X.K X.mg W f)
theorem sts_nil : STs X W [] bYes := ⟨fun pins s σ H Q I ⟨_, _, _, _, r, _, q⟩ => pts_nil.run pins s σ H Q I (q.now r)⟩
theorem sts_one {c : Expr} {f : Bv} (h : ST X W c f) : STs X W [c] f := pts_one h
/-- the accumulator between two turns -/
structure LcAt (X : Cx) (α0 : List Addr) (F0 H0 : Hp) (H1 : Hp) (D : Addr) (i : Its) (t : Gv) (c : Bv) (e : Ev) (ρ0 : Rho) (Q : VK) (E : XK) (n : Nat) (H : Hp) : Prop where
  ex : ∃ μ α F acc vs, Rep X.K α F μ H ∧ Ext α0 F0 H0 α F H ∧ H D = some (.lst vs) ∧ F D = none ∧ D ∉ α ∧ DqAll X.K F vs acc ∧ gp X.K X.mg α0 F0 H0 (loopC i t c e ρ0 (i.xs.drop n) acc μ) (Gl' X.K H1 Q) E
theorem away {α α' : List Addr} {F F' H H' : Hp} {D : Addr} (x : Ext α F H α' F' H') {o : HO} (h : H D = some o) (hF : F D = none) (hn : D ∉ α) : H' D = some o ∧ F' D = none ∧ D ∉ α' := by
  refine ⟨x.frame D o h hn, ?_, fun m => ?_⟩
  · cases z : F' D with
    | none => rfl
    | some u =>
      rcases x.newF D (by rw [z]; exact fun z => nomatch z) with q | q | q
      · exact absurd hF q
      · rw [h] at q; cases q
      · exact absurd q hn
  · rcases x.newA D m with q | q
    · exact hn q
    · rw [h] at q; cases q
theorem lc_turns {i : Its} {t : Gv} {c : Bv} {e : Ev} {Q : VK} {E : XK} {os : List Nat} {ρ : Rho} {σ : St} {μ : Mu} {α : List Addr} {F H Hz : Hp} {J : It} (r : Rep X.K α F μ H) (re : RepE X.K α F ρ σ) (hz : ∀ a, Hz a ≠ none → H a ≠ none) (j : JOk X.K α F H J i)
    (q : gp X.K X.mg α F H (loopC i t c e (wipeR ρ os) i.xs [] μ) (Gl' X.K Hz Q) E) (D : Addr) (hD : H D = none) :
    ∃ V : Nat → Nat → Hp → Prop, (∃ m, V 0 m (upd H D (.lst []))) ∧ ∀ n m H, V n m H →
      (J.stop n H ∧ Q (.ref D) H) ∨ (J.go n H ∧ ∃ Nx : Hp → Prop, (∀ H', Nx H' → ∃ m', m' < m ∧ V (n + 1) m' H') ∧ ∀ x H', J.yld n H x H' → tGw X.K X.mg os t x (L2.wipe σ os) H' fun σ2 H2 => L2.wipe σ2 os = L2.wipe σ os ∧ tT X.K X.mg (fun _ _ _ _ => False) c σ2 H2 fun b H3 =>
        if b = true then tE X.K X.mg (fun _ _ _ _ => False) e σ2 H3 fun y H4 => ∃ acc, H4 D = some (.lst acc) ∧ acc.length < sizeLine ∧ Nx (upd H4 D (.lst (acc ++ [y]))) else Nx H3) := by
  have wipe2 : ∀ τ : St, L2.wipe (L2.wipe τ os) os = L2.wipe τ os := by
    intro τ
    have : ∀ vs : List Nat, (∀ v ∈ vs, v ∈ os) → L2.wipe (L2.wipe τ vs) os = L2.wipe τ os := by
      intro vs
      induction vs with
      | nil => intro _; rfl
      | cons v vs ih =>
        intro h
        show L2.wipe ((L2.wipe τ vs).set v none) os = _
        rw [wipe_set _ _ _ _ (h v List.mem_cons_self), ih fun u hu => h u (List.mem_cons_of_mem _ hu)]
    exact this os fun v h => h
  have fp : F D = none := r.sub.free hD
  have na : D ∉ α := fun m => r.had D m hD
  obtain ⟨rs, xs⟩ := r.side (o := .lst []) hD
  refine ⟨fun n m H' => m + n = i.xs.length ∧ LcAt X α F H Hz D i t c e (wipeR ρ os) Q E n H', ⟨i.xs.length, rfl, ⟨μ, α, F, [], [], rs, xs, upd_same, fp, na, .nil, q⟩⟩, ?_⟩
  rintro n m H1 ⟨hm, ⟨μ1, α1, F1, acc, vs, r1, x1, h1, f1, n1, d1, q1⟩⟩
  by_cases hn : n < i.xs.length
  · rw [List.drop_eq_getElem_cons hn] at q1
    unfold loopC at q1
    split at q1
    · rename_i ht
      obtain ⟨jg, js, jy⟩ := j.at_ α1 F1 μ1 H1 r1 x1 ht
      refine .inr ⟨jg n hn, LcAt X α F H Hz D i t c e (wipeR ρ os) Q E (n + 1), fun H' nx => ⟨m - 1, by omega, by omega, nx⟩, fun x H2 hy => ?_⟩
      obtain ⟨F2, r2, x2, d2⟩ := jy n i.xs[n] x H2 (List.getElem?_eq_getElem hn) hy
      have re2 : RepE X.K α1 F2 (wipeR ρ os) (L2.wipe σ os) := ((re.wipe os).ext x1).ext x2
      refine ⟨wipeR ρ os, μ1, α1, F2, .d i.xs[n], r2, re2, d2, ((q1.keep (x1.trans x2)).calm (X' := fun _ _ _ => False)).mono fun ρ3 μ3 α3 F3 H3 x3 r3 q3 σ3 re3 e3 => ?_⟩
      have x13 := (x1.trans x2).trans x3
      refine ⟨e3.trans (wipe2 σ), ρ3, μ3, α3, F3, r3, re3, ((q3.keep x13).calm (X' := fun _ _ _ => False)).mono fun b μ4 α4 F4 H4 x4 r4 q4 => ?_⟩
      have x14 := x13.trans x4
      have x24 := (x2.trans x3).trans x4
      obtain ⟨g1, g2, g3⟩ := away x24 h1 f1 n1
      have d4 := d1.mono x24.fro
      cases b with
      | false => exact ⟨μ4, α4, F4, acc, vs, r4, x14, g1, g2, g3, d4, q4⟩
      | true =>
        refine ⟨ρ3, μ4, α4, F4, r4, re3.ext x4, ((gp.keep (gp.bind0 q4) .refl |>.base x14).calm (X' := fun _ _ _ => False)).mono fun w μ5 α5 F5 H5 x5 r5 q5 v rv => ?_⟩
        obtain ⟨k1, k2, k3⟩ := away x5 g1 g2 g3
        unfold lcPut at q5
        split at q5
        · rename_i y
          split at q5
          · rename_i hl
            have d5 := d4.mono x5.fro
            refine ⟨vs, k1, by rw [d5.length, sizeLine_eq]; exact hl, ⟨μ5, α5, F5, acc ++ [y], vs ++ [v], r5.poke (by rw [k1]; exact fun z => nomatch z) k2 k3, (x14.trans x5).poke hD, upd_same, k2, k3, d5.append (.cons rv .nil), ?_⟩⟩
            exact q5.at (x14.trans x5) r5
          · exact q5.elim
        · exact q5.elim
    · exact q1.elim
  · have hn' : i.xs.length ≤ n := Nat.le_of_not_lt hn
    rw [List.drop_eq_nil_of_le hn'] at q1
    unfold loopC at q1
    split at q1
    · rename_i ht
      obtain ⟨jg, js, jy⟩ := j.at_ α1 F1 μ1 H1 r1 x1 ht
      refine .inl ⟨js n hn', ?_⟩
      have : Hz D = none := by
        by_cases z : Hz D = none
        · exact z
        · exact absurd hD (hz D z)
      exact (gp.at q1 x1 r1) D vs this h1 f1 n1 d1
    · exact q1.elim
section
variable {elt tg iter : Expr} {ifs : List Expr} {scope : Scope} {own : List (Str × Nat)} {pos : Pos} {fi : Iv} {t : Gv} {c : Bv} {e : Ev}
/-- X, as the block of a comprehension sees it -/
abbrev Bk (X : Cx) (scope : Scope) (s : Shared) (H : Hp) (C : Addr) (cl : List (Str × Addr)) (fp : List Addr) : Cx := X.blk s H scope (compEnvC scope cl C X.env) fp
abbrev W0 : WX := fun _ _ _ _ => False
theorem lc_read {D : Ends} {os : List Nat} {σ : St} {H : Hp} {Q : VK} (h : tL X.K X.mg W (lLc fi t c e os) σ H Q) : tLc (tI X.K X.mg W fi) (tGw X.K X.mg os t) (tT X.K X.mg W0 c) (tE X.K X.mg W0 e) os σ H Q := by
  obtain ⟨ρ, μ, α, F, r, re, q⟩ := h
  have q' := gp.bind0 q
  refine ⟨ρ, μ, α, F, r, re, ?_⟩
  refine (show gp X.K X.mg α F H (fi ρ μ) _ _ from q').mono fun i μ1 α1 F1 H1 x1 r1 q1 J j => ?_
  intro D hD
  exact lc_turns r1 (re.ext x1) x1.keep j (q1.base x1) D hD
theorem sl_lc (hc : X.calm = true) (hN : X.N.Nodup) (hi : SI X W tg iter fi) (ok : BlkOk X.N X.env.scope scope own)
    (hg : ∀ s H C cl fp, SGw (Bk X scope s H C cl fp) (own.map (·.2)) tg t) (ht : ∀ s H C cl fp, STs (Bk X scope s H C cl fp) W0 ifs c) (he : ∀ s H C cl fp, SE (Bk X scope s H C cl fp) W0 elt e)
    (hs : ∀ x, foldedSetIterable iter X.env x = pure x) : SL X W (.ListComp elt [⟨tg, iter, ifs, 0⟩] scope pos) (lLc fi t c e (own.map (·.2))) :=
  (pe_lc (g := tGw X.K X.mg (own.map (·.2)) t) (tt := tT X.K X.mg W0 c) (te := tE X.K X.mg W0 e) hc hN hi ok hg ht he hs).imp fun σ H Q h => lc_read (D := ⟨fun _ _ => True, fun _ _ => True, fun _ _ => True, fun _ _ => True⟩) h
/-- name = [..] on one line -/
theorem ss_setLcN {i : Nat} {y : Str} {py spos : Pos} (hc : X.calm = true) (hN : X.N.Nodup) (hy : X.N[i]? = some y) (hyl : X.env.scope.names.lookup y = some .local)
    (hsw : swapsWith (.ListComp elt [⟨tg, iter, ifs, 0⟩] scope pos) (some (.Name y py)) spos.line X.env = pure true) (hi : SI X W tg iter fi) (ok : BlkOk X.N X.env.scope scope own)
    (hg : ∀ s H C cl fp, SGw (Bk X scope s H C cl fp) (own.map (·.2)) tg t) (ht : ∀ s H C cl fp, STs (Bk X scope s H C cl fp) W0 ifs c) (he : ∀ s H C cl fp, SE (Bk X scope s H C cl fp) W0 elt e)
    (hs : ∀ x, foldedSetIterable iter X.env x = pure x) : SS X W (.Assign [.Name y py] (.ListComp elt [⟨tg, iter, ifs, 0⟩] scope pos) spos) (sAsg (eNew (lLc fi t c e (own.map (·.2)))) (gNm i)) := by
  refine (ps_setLc (g := tGw X.K X.mg (own.map (·.2)) t) (tt := tT X.K X.mg W0 c) (te := tE X.K X.mg W0 e) hc hN hy hyl hsw hi ok hg ht he hs).imp fun D σ H ⟨ρ, μ, α, F, r, re, q⟩ => ?_
  refine lc_read (D := D) ⟨ρ, μ, α, F, r, re, ?_⟩
  have q1 := gp_lift re q
  refine gp.mono (gp.bind0 (show gp X.K X.mg α F H ((lLc fi t c e (own.map (·.2)) ρ μ).bind fun c μ1 => .ok (Wv.r μ1.length) (μ1 ++ [some c])) _ _ from q1)) fun z μ1 α1 F1 H1 x1 r1 q2 A vs hD hD1 hF hn dq => ?_
  have r2 := r1.cellSide hD1 hF hn dq
  have q3 := q2.at (x1.celled hD) r2
  refine gp.now (G := GS X.K X.mg W D) (X := fun _ _ _ => False) (c := Fl.nx (ρ.set i (some (Wv.r μ1.length)))) q3 r2 _ ((re.ext (x1.celled hD)).set i ⟨A, ?_, rfl⟩)
  rw [r1.len, List.getElem?_append_right (Nat.le_refl _), Nat.sub_self]
  rfl
/-- name = [..] on one line -/
theorem ss_setLcF {i : Nat} {y : Str} {py spos : Pos} (hc : X.calm = true) (hN : X.N.Nodup) (hy : X.N[i]? = some y) (hyl : X.env.scope.names.lookup y = some .local)
    (hsw : swapsWith (.ListComp elt [⟨tg, iter, ifs, 0⟩] scope pos) (some (.Name y py)) spos.line X.env = pure true) (hi : SI X W tg iter fi) (ok : BlkOk X.N X.env.scope scope own)
    (hg : ∀ s H C cl fp, SGw (Bk X scope s H C cl fp) (own.map (·.2)) tg t) (ht : ∀ s H C cl fp, STs (Bk X scope s H C cl fp) W0 ifs c) (he : ∀ s H C cl fp, SE (Bk X scope s H C cl fp) W0 elt e)
    (hs : ∀ x, foldedSetIterable iter X.env x = pure x) : SS X W (.Assign [.Name y py] (.ListComp elt [⟨tg, iter, ifs, 0⟩] scope pos) spos) (sAsg (eFrz (lLc fi t c e (own.map (·.2)))) (gNm i)) := by
  refine (ps_setLc (g := tGw X.K X.mg (own.map (·.2)) t) (tt := tT X.K X.mg W0 c) (te := tE X.K X.mg W0 e) hc hN hy hyl hsw hi ok hg ht he hs).imp fun D σ H ⟨ρ, μ, α, F, r, re, q⟩ => ?_
  refine lc_read (D := D) ⟨ρ, μ, α, F, r, re, ?_⟩
  have q1 := gp_lift re q
  refine gp.mono (gp.bind0 (show gp X.K X.mg α F H ((lLc fi t c e (own.map (·.2)) ρ μ).bind fun c μ1 => .ok (Wv.d (.list c)) μ1) _ _ from q1)) fun z μ1 α1 F1 H1 x1 r1 q2 A vs hD hD1 hF hn dq => ?_
  have r2 := r1.freezeSide hD1 hF hn
  have q3 := q2.at (x1.frozen hD hF) r2
  exact gp.now (G := GS X.K X.mg W D) (X := fun _ _ _ => False) (c := Fl.nx (ρ.set i (some (Wv.d (.list z))))) q3 r2 _ ((re.ext (x1.frozen hD hF)).set i (Dq.lst (.of upd_same) (dq.mono (same_frozen hF))))
end
end
end TL
/-! TL11: lists put together; {}. -/
namespace TL
open PySem PySem.Spec L2 PyProof.Rows RZ
def gPlus (a b : Wv) (μ : Mu) : Out Wv :=
  match dataOf μ a, dataOf μ b with
  | some (.list xs), some (.list ys) => if xs.length + ys.length ≤ 16777216 then .ok (.d (.list (xs ++ ys))) μ else .bad
  | _, _ => gAdd a b μ
/-- told so that no computing of it starts by itself -/
noncomputable def repOk (n : Nat) (k : Int) : Bool := @decide (k < 16777216 ∧ -16777216 ≤ k ∧ n * k.toNat ≤ 16777216) (Classical.propDecidable _)
theorem repOk_ok {n : Nat} {k : Int} (h : repOk n k = true) : k < 16777216 ∧ -16777216 ≤ k ∧ n * k.toNat ≤ 16777216 := @of_decide_eq_true _ (Classical.propDecidable _) h
theorem repOk_is {n : Nat} {k : Int} (h : k < 16777216 ∧ -16777216 ≤ k ∧ n * k.toNat ≤ 16777216) : repOk n k = true := @decide_eq_true _ (Classical.propDecidable _) h
noncomputable def gTimes (a b : Wv) (μ : Mu) : Out Wv :=
  match dataOf μ a, b with
  | some (.list xs), .d (.int k) => if repOk xs.length k = true then .ok (.d (.list (List.replicate k.toNat xs).flatten)) μ else .bad
  | _, _ => gMul a b μ
theorem DqAll.times {K : PySem.W.Frag} {F : Hp} {vs : List V} {c : Cell} (d : DqAll K F vs c) : ∀ k : Nat, DqAll K F (List.replicate k vs).flatten (List.replicate k c).flatten
  | 0 => .nil
  | k + 1 => by
    rw [List.replicate_succ, List.replicate_succ, List.flatten_cons, List.flatten_cons]
    exact d.append (DqAll.times d k)
section
variable {X : Cx} {W : WX}
def rCatR (K : PySem.W.Frag) : R2 := fun x y H Q => ∃ l b xs zs, x = .ref l ∧ y = .ref b ∧ Ls K H l xs ∧ Ls K H b zs ∧ xs.length + zs.length ≤ sizeLine ∧ ∀ p, H p = none → Q (.ref p) (upd H p (.lst (xs ++ zs)))
theorem op_catR : OpR X (binaryOp .Add) (rCatR X.K) := by
  intro pins s σ H x y v u Q I rx ry h
  obtain ⟨l, b, xs, zs, rfl, rfl, hH, hB, hz, q⟩ := h
  cases rx
  cases ry
  obtain ⟨z, its, n, r, e⟩ := hH.ob I
  obtain ⟨z2, its2, n2, r2, e2⟩ := hB.ob I
  have hl := r.length
  have hl2 := r2.length
  refine PySem.P.add_list e e2 ?_ (by rw [List.size_toArray, List.size_toArray]; omega)
  have ea : its.toArray ++ its2.toArray = (its ++ its2).toArray := by simp
  rw [ea]
  exact ⟨.ref _, _, I.lnew (t' := s.toks) (r.append r2) (by rw [List.length_append]; omega), rfl, q _ I.fresh⟩
def rRepR (K : PySem.W.Frag) : R2 := fun x y H Q => ∃ l k xs, x = .ref l ∧ y = .int k ∧ Ls K H l xs ∧ -(2 ^ 63) ≤ k ∧ k < 2 ^ 63 ∧ xs.length * k.toNat ≤ sizeLine ∧
  ∀ p, H p = none → Q (.ref p) (upd H p (.lst (List.replicate k.toNat xs).flatten))
theorem op_repR : OpR X (binaryOp .Mult) (rRepR X.K) := by
  intro pins s σ H x y v u Q I rx ry h
  obtain ⟨l, k, xs, rfl, rfl, hH, h1, h2, hz, q⟩ := h
  cases rx
  obtain ⟨t, rfl⟩ := ry
  obtain ⟨z, its, n, r, e⟩ := hH.ob I
  have hl := r.length
  have hlen : its.toArray.size * k.toNat ≤ sizeLine := by rw [List.size_toArray, ← hl]; exact hz
  have hcap : ¬ its.toArray.size * k.toNat > (2 ^ 63 - 1) / 8 := by
    have : (sizeLine : Nat) ≤ (2 ^ 63 - 1) / 8 := by decide
    omega
  have hfit : ¬ (!Builtin.List.listFitsIndex k) = true := by
    rw [fitsIndex_both h1 h2]
    exact Bool.false_ne_true
  have hlong : ¬ Builtin.List.listTooLong (its.toArray.size * k.toNat) = true := by
    rw [notLongL hlen]
    exact Bool.false_ne_true
  have hnew : List.foldl (fun x1 x2 => x1 ++ x2) #[] (List.replicate (if its.toArray.isEmpty = true then 0 else k.toNat) its.toArray) = (List.replicate k.toNat its).flatten.toArray := by
    have f0 : ∀ m : Nat, List.foldl (fun x1 x2 => x1 ++ x2) #[] (List.replicate m its.toArray) = (List.replicate m its).flatten.toArray := fun m => by
      have := foldl_rep its m []
      rw [List.nil_append] at this
      exact this
    rw [f0]
    cases its with
    | nil => simp
    | cons a r' => rw [if_neg (by simp)]
  refine wpAny_binaryOp_repeat_ref (T := "list") (U := "int") (by decide) ⟨_, e, rfl⟩ (fun s' => typeIs_int s' k t) noFill_list_mul F.fills_int_mul F.slot_int_rmul repeat_list F.slot_int_index.lookup
    (call_meets F.slot_int_rmul (typeIs_int s k t) F.entry_int_rmul (F.args_int_rmul_2 _ _) (int___rmul___int_list k t l its.toArray n)
      ⟨e, rfl, ⟨_, e, rfl⟩, call_meets F.slot_list_mul ⟨_, e, rfl⟩ F.entry_list_mul (F.args_list_mul_2 _ _) (AutoListH.list___mul___list_int_3 l its.toArray n k t hfit hcap hlong) ⟨e, ?_⟩⟩)
  rw [hnew]
  exact ⟨.ref _, _, I.lnew (t' := s.toks) (r.rep k.toNat) (by rw [PyProof.Rows.lm_len_rep_flat, Nat.mul_comm]; exact hz), rfl, q _ I.fresh⟩
theorem op_gPlus : OpR X (binaryOp .Add) (r2G X.K X.mg gPlus) := by
  intro pins s σ H x y v u Q I rx ry ⟨μ, α, F, w1, w2, r, h1, h2, q⟩
  unfold gPlus at q
  split at q
  · rename_i xs ys e1 e2
    split at q
    · rename_i hl
      obtain ⟨a, vs, rfl, hA, d1⟩ := items_of r e1 h1
      obtain ⟨b, us, rfl, hB, d2⟩ := items_of r e2 h2
      refine op_catR pins s σ H _ _ v u Q I rx ry ⟨a, b, vs, us, rfl, rfl, hA, hB, ?_, fun p hp => ?_⟩
      · rw [d1.length, d2.length]
        exact le_line hl
      · obtain ⟨r2, x2⟩ := r.new (o := .lst (vs ++ us)) hp
        exact q.at x2 r2 _ (.lst (.of upd_same) ((d1.mono x2.fro).append (d2.mono x2.fro)))
    · exact q.elim
  · exact op_gAdd pins s σ H x y v u Q I rx ry ⟨μ, α, F, w1, w2, r, h1, h2, q⟩
theorem op_gTimes : OpR X (binaryOp .Mult) (r2G X.K X.mg gTimes) := by
  intro pins s σ H x y v u Q I rx ry ⟨μ, α, F, w1, w2, r, h1, h2, q⟩
  unfold gTimes at q
  split at q
  · rename_i xs k e1
    split at q
    · rename_i hl
      have hl := repOk_ok hl
      obtain ⟨a, vs, rfl, hA, d1⟩ := items_of r e1 h1
      cases h2
      refine op_repR pins s σ H _ _ v u Q I rx ry ⟨a, k, vs, rfl, rfl, hA, by omega, by omega, ?_, fun p hp => ?_⟩
      · rw [d1.length]
        exact le_line hl.2.2
      · obtain ⟨r2, x2⟩ := r.new (o := .lst (List.replicate k.toNat vs).flatten) hp
        exact q.at x2 r2 _ (.lst (.of upd_same) (DqAll.times (d1.mono x2.fro) k.toNat))
    · exact q.elim
  · exact op_gMul pins s σ H x y v u Q I rx ry ⟨μ, α, F, w1, _, r, h1, h2, q⟩
/-- a list that nobody else has -/
def lCat (a b : Ev) : Lv := fun ρ μ => (a ρ μ).bind fun w μ1 => (b ρ μ1).bind fun u μ2 => match dataOf μ2 w, dataOf μ2 u with
  | some (.list xs), some (.list ys) => if xs.length + ys.length ≤ 16777216 then .ok (xs ++ ys) μ2 else .bad
  | _, _ => .bad
noncomputable def lRep (a b : Ev) : Lv := fun ρ μ => (a ρ μ).bind fun w μ1 => (b ρ μ1).bind fun u μ2 => match dataOf μ2 w, u with
  | some (.list xs), .d (.int k) => if repOk xs.length k = true then .ok (List.replicate k.toNat xs).flatten μ2 else .bad
  | _, _ => .bad
theorem side_at {K : PySem.W.Frag} {mg : Str → Option Value} {α0 α : List Addr} {F0 H0 F H : Hp} {μ : Mu} {c : Cell} {Q : VK} {E : XK} {vs : List V} {p : Addr} (q : gp K mg α F H (.ok c μ) (Gl' K H0 Q) E) (r : Rep K α F μ H) (x : Ext α0 F0 H0 α F H) (hp : H p = none) (d : DqAll K F vs c) : Q (.ref p) (upd H p (.lst vs)) := by
  obtain ⟨r2, x2⟩ := r.side (o := .lst vs) hp
  have hF : F p = none := r.sub.free hp
  have hH : H0 p = none := by
    by_cases z : H0 p = none
    · exact z
    · exact absurd hp (x.keep p z)
  exact q.at x2 r2 p vs hH upd_same hF (fun m => r.had p m hp) d
theorem sl_cat {a b : Expr} {pos : Pos} {fa fb : Ev} (ha : SE X W a fa) (hb : SE X W b fb) : SL X W (.BinOp a .Add b pos) (lCat fa fb) := by
  refine (pe_op op_catR ha hb).imp fun σ H Q ⟨ρ, μ, α, F, r, re, q⟩ => ?_
  refine ⟨ρ, μ, α, F, r, re, q.bind.mono fun w μ1 α1 F1 H1 x1 r1 q1 v rv => ?_⟩
  refine ⟨ρ, μ1, α1, F1, r1, re.ext x1, q1.bind.mono fun u μ2 α2 F2 H2 x2 r2 q2 v' rv' => ?_⟩
  split at q2
  · rename_i xs ys e1 e2
    split at q2
    · rename_i hl
      obtain ⟨a, vs, rfl, hA, d1⟩ := items_of r2 e1 (rv.ext x2)
      obtain ⟨b, us, rfl, hB, d2⟩ := items_of r2 e2 rv'
      refine ⟨a, b, vs, us, rfl, rfl, hA, hB, ?_, fun p hp => side_at q2 r2 (x1.trans x2) hp (d1.append d2)⟩
      rw [d1.length, d2.length]
      exact le_line hl
    · exact q2.elim
  · exact q2.elim
theorem sl_rep {a b : Expr} {pos : Pos} {fa fb : Ev} (ha : SE X W a fa) (hb : SE X W b fb) : SL X W (.BinOp a .Mult b pos) (lRep fa fb) := by
  refine (pe_op op_repR ha hb).imp fun σ H Q ⟨ρ, μ, α, F, r, re, q⟩ => ?_
  refine ⟨ρ, μ, α, F, r, re, q.bind.mono fun w μ1 α1 F1 H1 x1 r1 q1 v rv => ?_⟩
  refine ⟨ρ, μ1, α1, F1, r1, re.ext x1, q1.bind.mono fun u μ2 α2 F2 H2 x2 r2 q2 v' rv' => ?_⟩
  split at q2
  · rename_i xs k e1
    split at q2
    · rename_i hl
      have hl := repOk_ok hl
      obtain ⟨a, vs, rfl, hA, d1⟩ := items_of r2 e1 (rv.ext x2)
      cases rv'
      refine ⟨a, k, vs, rfl, rfl, hA, by omega, by omega, ?_, fun p hp => side_at q2 r2 (x1.trans x2) hp (DqAll.times d1 k.toNat)⟩
      rw [d1.length]
      exact le_line hl.2.2
    · exact q2.elim
  · exact q2.elim
/-- {} -/
def eDic : Ev := fun _ μ => .ok (.d (.dict [])) μ
theorem se_dic {pos : Pos} : SE X W (.Dict [] [] pos) eDic := by
  refine pe_dnewK.imp fun σ H Q ⟨ρ, μ, α, F, r, re, q⟩ => ?_
  intro p hp
  obtain ⟨r2, x2⟩ := r.new (o := .dK []) hp
  exact q.at x2 r2 _ (.dic upd_same)
end
end TL
/-! TL12: rules with their small conditions filled; what a def of the text is; the law's head. -/
namespace TL
open PySem PySem.Spec L2 PyProof.Rows RZ

abbrev GF := List Wv → Mu → Out Wv
/-- a def of the text at its place, and its promise -/
structure Has (P : Program) (w : World) (K : PySem.W.Frag) (mg : Str → Option Value) (base : Heap) (j : Nat) (x : Str) (st : Stmt) (ps : List Str) (n : Nat) (g : GF) (f : Addr) (fd : FuncData) : Prop where
  m : mg x = some (.ref f)
  F : Fun K x x st f fd
  b : Binds K fd ps []
  G : FnG P w K mg base j f fd ps (spG K mg n g)
theorem fng_bad {P : Program} {w : World} {K : PySem.W.Frag} {mg : Str → Option Value} {base : Heap} {j n : Nat} {f : Addr} {fd : FuncData} {ps : List Str} (hn : ps.length = n) : FnG P w K mg base j f fd ps (spG K mg n fun _ _ => .bad) := by
  refine ⟨fun vs H Q E h => by rw [h.len, hn], fun A outer s H args us vs Q E hr hg he hb hv h => ?_⟩
  obtain ⟨ws, μ, α, F, r, rv, q⟩ := h
  unfold arity at q
  split at q <;> exact q.elim
def cF (n : Nat) (g : GF) (as : Av) : Ev := fun ρ μ => (as ρ μ).bind fun ws μ1 => if ws.length = n then g ws μ1 else .bad
section
variable {X : Cx} {W : WX} {x : Str} {p pos : Pos} {e : Expr} {es : List Expr} {as : Av} {j k n : Nat} {st : Stmt} {ps : List Str} {g : GF} {f : Addr} {fd : FuncData}
theorem xV (i : Nat) (hN : X.N[i]? = some x := by rfl) (hv : Vis X.env.scope x := by first | exact Or.inl rfl | exact Or.inr (Or.inl rfl) | exact Or.inr (Or.inr rfl)) (hd : (x == ("__debug__" : Str)) = false := by decide) (hcd : (x == ("__classdict__" : Str)) = false := by decide) : SE X W (.Name x pos) (eVar i) := se_var hN hv hd hcd
theorem xCall (h : Has X.prog X.w X.K X.mg X.base j x st ps n g f fd) (hj : j ≤ k) (hr : Room k X.A) (hg : X.A.guards = some []) (tk : Takes X W) (gl : Gl X x) (ha : SA X W (e :: es) as)
    (hdb : (x == ("__debug__" : Str)) = false := by decide) (he : starEach (e :: es) X.env = (false, eval e X.env) :: starEach es X.env := by rfl) (hpl : (backTo pos (starEach es X.env)).any (·.1) = false := by rfl) :
    SE X W (.Call (.Name x p) (e :: es) [] pos) (cF n g as) := by
  have z := se_call (p := p) (pos := pos) (dv := []) (ds := []) (ws0 := []) (h.G.up hj) hr hg gl h.m h.F.kp h.b .nil (fun _ _ => .nil) tk ha hdb he hpl
  have e : eCall (fun ws μ => arity n g (ws ++ []) μ) as = cF n g as := by
    unfold eCall cF arity
    simp only [List.append_nil]
  rw [e] at z
  exact z
theorem xCall0 (h : Has X.prog X.w X.K X.mg X.base j x st ps n g f fd) (hj : j ≤ k) (hr : Room k X.A) (hg : X.A.guards = some []) (tk : Takes X W) (gl : Gl X x)
    (hdb : (x == ("__debug__" : Str)) = false := by decide) : SE X W (.Call (.Name x p) [] [] pos) (cF n g aNil) := by
  have z := se_call0 (p := p) (pos := pos) (dv := []) (ds := []) (ws0 := []) (h.G.up hj) hr hg gl h.m h.F.kp h.b .nil (fun _ _ => .nil) tk hdb
  have e : eCall (fun ws μ => arity n g (ws ++ []) μ) aNil = cF n g aNil := by
    unfold eCall cF arity
    simp only [List.append_nil]
  rw [e] at z
  exact z
/-- by keywords, in the order pm -/
def cFK (pm : List Nat) (n : Nat) (g : GF) (as : Av) : Ev := fun ρ μ => (as ρ μ).bind fun ws μ1 => if (permL pm ws).length = n then g (permL pm ws) μ1 else .bad
theorem xCallK {kws : List Keyword} {ks : List Str} {pm : List Nat} (h : Has X.prog X.w X.K X.mg X.base j x st ps n g f fd) (kb : KwBinds X.K fd ps ks pm []) (hj : j ≤ k) (hr : Room k X.A) (hg : X.A.guards = some []) (tk : Takes X W) (gl : Gl X x) (ha : SK X W kws as)
    (hall : (backToKw pos (keywordEach kws X.env)).all (·.1.isSome) = true := by rfl) (hks : (backToKw pos (keywordEach kws X.env)).filterMap (·.1) = ks := by rfl) (hdb : (x == ("__debug__" : Str)) = false := by decide)
    (hpl : ((backTo pos (starEach [] X.env)).any (·.1) || (backToKw pos (keywordEach kws X.env)).any (·.1.isNone)) = false := by rfl) : SE X W (.Call (.Name x p) [] kws pos) (cFK pm n g as) := by
  have z := se_callK (p := p) (pos := pos) (dv := []) (ds := []) (ws0 := []) (h.G.up hj) hr hg gl h.m h.F.kp kb .nil (fun _ _ => .nil) tk ha hall hks hdb hpl
  have e : eCall (fun ws μ => arity n g (permL pm (ws ++ [])) μ) as = cFK pm n g as := by
    unfold eCall cFK arity
    simp only [List.append_nil]
  rw [e] at z
  exact z
theorem xBi {id : String} {g : GF} (hc : CallR X (.builtin id) (rnG X.K X.mg g)) (hv : bootBuiltins x = some (.builtin id)) (hm : X.mg x = none) (hg : Gl X x) (ha : SA X W (e :: es) as) (hn : x ≠ "__name__" := by decide) (hdb : (x == ("__debug__" : Str)) = false := by decide)
    (he : starEach (e :: es) X.env = (false, eval e X.env) :: starEach es X.env := by rfl) (hpl : (backTo pos (starEach es X.env)).any (·.1) = false := by rfl) : SE X W (.Call (.Name x p) (e :: es) [] pos) (en g as) := se_bi hc hg hm hv ha hn hdb he hpl
theorem xTy {T : String} {g : GF} (hc : CallR X (.type T) (rnG X.K X.mg g)) (hv : bootBuiltins x = some (.type T)) (hm : X.mg x = none) (hg : Gl X x) (ha : SA X W (e :: es) as) (hn : x ≠ "__name__" := by decide) (hdb : (x == ("__debug__" : Str)) = false := by decide)
    (he : starEach (e :: es) X.env = (false, eval e X.env) :: starEach es X.env := by rfl) (hpl : (backTo pos (starEach es X.env)).any (·.1) = false := by rfl) : SE X W (.Call (.Name x p) (e :: es) [] pos) (en g as) := se_ty hc hg hm hv ha hn hdb he hpl
theorem xList (hm : X.mg "list" = none) (hg : Gl X "list") (ha : SA X W (e :: es) as)
    (he : starEach (e :: es) X.env = (false, eval e X.env) :: starEach es X.env := by rfl) (hpl : (backTo pos (starEach es X.env)).any (·.1) = false := by rfl) : SL X W (.Call (.Name "list" p) (e :: es) [] pos) (lList as) := TL.sl_list hg hm (by decide +kernel) ha (by decide) (by decide) he hpl
theorem bt_len : bootBuiltins "len" = some (.builtin "len") := by decide +kernel
theorem bt_abs : bootBuiltins "abs" = some (.builtin "abs") := by decide +kernel
theorem bt_max : bootBuiltins "max" = some (.builtin "max") := by decide +kernel
theorem bt_min : bootBuiltins "min" = some (.builtin "min") := by decide +kernel
theorem bt_sum : bootBuiltins "sum" = some (.builtin "sum") := by decide +kernel
theorem bt_all : bootBuiltins "all" = some (.builtin "all") := by decide +kernel
theorem bt_any : bootBuiltins "any" = some (.builtin "any") := by decide +kernel
theorem bt_repr : bootBuiltins "repr" = some (.builtin "repr") := by decide +kernel
theorem bt_divmod : bootBuiltins "divmod" = some (.builtin "divmod") := by decide +kernel
theorem bt_int : bootBuiltins "int" = some (.type "int") := by decide +kernel
theorem bt_str : bootBuiltins "str" = some (.type "str") := by decide +kernel
theorem bt_bool : bootBuiltins "bool" = some (.type "bool") := by decide +kernel
theorem bt_tuple : bootBuiltins "tuple" = some (.type "tuple") := by decide +kernel
theorem bt_list : bootBuiltins "list" = some (.type "list") := by decide +kernel
theorem xIsi {T : String} {f : Ev} {p2 : Pos} {y : Str} (hvT : bootBuiltins y = some (.type T)) (hm : X.mg "isinstance" = none) (hmT : X.mg y = none) (hg : Gl X "isinstance") (hgT : Gl X y) (he : SE X W e f) (hn : y ≠ "__name__" := by decide) (hdb : (y == ("__debug__" : Str)) = false := by decide)
    (h1 : starEach (e :: [.Name y p2]) X.env = (false, eval e X.env) :: starEach [.Name y p2] X.env := by rfl) : SE X W (.Call (.Name "isinstance" p) [e, .Name y p2] [] pos) (e1 (gIsi T) f) := se_isi hg hm hgT hmT hvT hn hdb he h1
theorem xA {a : Ev} (ha : SE X W e a) (hr : SA X W es as) (hs : starEach (e :: es) X.env = (false, eval e X.env) :: starEach es X.env := by rfl) : SA X W (e :: es) (aCons a as) := sa_cons ha hr hs
theorem xCmp {a b : Expr} {op : CmpOp} {g : Wv → Wv → Mu → Out Wv} {fa fb : Ev} (ho : OpR X (compareOp op) (r2G X.K X.mg g)) (ha : SE X W a fa) (hb : SE X W b fb) (hm : behindInMarks op b = false := by first | rfl | exact nomark _) : SE X W (.Compare a [op] [b] pos) (e2 g fa fb) := se_cmp ho ha hb hm
theorem xtCmp {a b : Expr} {op : CmpOp} {g : Wv → Wv → Mu → Out Wv} {fa fb : Ev} (ho : OpR X (compareOp op) (r2G X.K X.mg g)) (ha : SE X W a fa) (hb : SE X W b fb) (hm : behindInMarks op b = false := by first | rfl | exact nomark _) : ST X W (.Compare a [op] [b] pos) (tB' (e2 g fa fb)) := st_cmp ho ha hb hm
theorem xtVal {f : Ev} (h : SE X W e f) (he : ∀ whole, isTrue e X.env whole = (do let v ← whole; standAt e.pos; holding [v] (truthy v)) := by intro _; rfl) : ST X W e (tB' f) := st_val h he
theorem xIx {a b : Expr} {fa fb : Ev} (ha : SE X W a fa) (hb : SE X W b fb) (hs : PlainIx b := by intro _ _; rfl) : SE X W (.Subscript a b pos) (e2 gIx fa fb) := se_ix ha hb hs
theorem xSet (i : Nat) {f : Ev} {pos' : Pos} (hN : X.N.Nodup) (he : SE X W e f) (hi : X.N[i]? = some x := by rfl) (hx : Loc X.env.scope x := by first | exact Or.inl rfl | exact Or.inr rfl) (hs : swapsWith e (some (.Name x pos')) pos.line X.env = pure false := by rfl)
    (hf : X.fn x = true ∨ X.env.scope.names.lookup x = some .local := by first | exact Or.inl rfl | exact Or.inr rfl) : SS X W (.Assign [.Name x pos'] e pos) (sAsg f (gNm i)) := ss_set hN hi hx he hs hf
theorem xNm (i : Nat) (hN : X.N.Nodup) (hi : X.N[i]? = some x := by rfl) (hx : Loc X.env.scope x := by first | exact Or.inl rfl | exact Or.inr rfl) (hf : X.fn x = true ∨ X.env.scope.names.lookup x = some .local := by first | exact Or.inl rfl | exact Or.inr rfl) : SG X (.Name x pos) (gNm i) := sg_name hN hi hx hf
theorem xwNm (i : Nat) {os : List Nat} (hN : X.N.Nodup) (hi : X.N[i]? = some x := by rfl) (hx : Loc X.env.scope x := by first | exact Or.inl rfl | exact Or.inr rfl) (hf : X.fn x = true ∨ X.env.scope.names.lookup x = some .local := by first | exact Or.inl rfl | exact Or.inr rfl) (ho : i ∈ os := by decide) : SGw X os (.Name x pos) (gNm i) := sgw_name hN hi hx hf ho
theorem xG {t : Gv} {ts : List Gv} (h1 : SG X e t) (h2 : SGs X es ts) (hs : (assignEach (e :: es) X.env).map (·.2) = assign e X.env :: (assignEach es X.env).map (·.2) := by rfl) : SGs X (e :: es) (t :: ts) := sgs_cons h1 h2 hs
theorem xGT {kk : Nat} {ts : List Gv} (hc : X.calm = true) (h : SGs X es ts) (hn : (assignEach es X.env).length = ts.length := by rfl) (hst : (assignEach es X.env).findIdx? (·.1) = none := by rfl) : SG X (.Tuple es kk pos) (gTp ts) := sg_tup hc h hn hst
theorem xwG {os : List Nat} {t : Gv} {ts : List Gv} (h1 : SGw X os e t) (h2 : SGsw X os es ts) (hs : (assignEach (e :: es) X.env).map (·.2) = assign e X.env :: (assignEach es X.env).map (·.2) := by rfl) : SGsw X os (e :: es) (t :: ts) := sgsw_cons h1 h2 hs
theorem xwGT {os : List Nat} {kk : Nat} {ts : List Gv} (hc : X.calm = true) (h : SGsw X os es ts) (hn : (assignEach es X.env).length = ts.length := by rfl) (hst : (assignEach es X.env).findIdx? (·.1) = none := by rfl) : SGw X os (.Tuple es kk pos) (gTp ts) := sgw_tup hc h hn hst
theorem xGS {o i : Expr} {fo fi : Ev} (ho : SE X (fun _ _ _ _ => False) o fo) (hi : SE X (fun _ _ _ _ => False) i fi) (ha : ∀ v, assign (.Subscript o i pos) X.env v = (do
      let ov ← holding [v] (eval o X.env)
      let iv ← holding [v, ov] (eval i X.env)
      standAt pos
      holding [v, ov, iv] (setItem ov iv v)
      release [v, ov, iv] []) := by intro _; rfl) : SG X (.Subscript o i pos) (gSb fo fi) := sg_sub ho hi ha
theorem xAsg {tg : Expr} {f : Ev} {t : Gv} (he : SE X W e f) (hg : SG X tg t) (hs : swapsWithSole [tg] e pos.line X.env = pure false := by rfl) (hw : swappedStores [tg] e X.env = pure none := by rfl) (h1 : (assignEach [tg] X.env).map (·.2) = [assign tg X.env] := by rfl) :
    SS X W (.Assign [tg] e pos) (sAsg f t) := ss_asg he hg hs hw h1
theorem xExpr {f : Ev} (he : SE X W e f) (hs : swapsWith e none pos.line X.env = pure false := by rfl) : SS X W (.Expr e pos) (sExpr f) := ss_expr he hs
theorem xFor {tg : Expr} {body : List Stmt} {fi : Iv} {t : Gv} {b : Sv} (hp : PassesOwn (model X.prog X.w) X.A X.env X.xe) (hc : X.calm = true) (hi : SI X W tg e fi) (hg : SG X tg t) (hb : SSs X W body b) (hs : ∀ x, foldedSetIterable e X.env x = pure x := by intro _; rfl) : SS X W (.For tg e body [] pos) (sFor fi t b) := ss_for hp hc hi hg hb hs
theorem xR1 {tg a : Expr} (hm : X.mg "range" = none) (hg : Gl X "range") (ha : SA X W [a] as) (hs : starEach [a] X.env = [(false, eval a X.env)] := by rfl) : SI X W tg (.Call (.Name "range" p) [a] [] pos) (iR1 as) := si_r1 hg hm ha hs
theorem xR2 {tg a b : Expr} (hm : X.mg "range" = none) (hg : Gl X "range") (ha : SA X W [a, b] as) (hs : starEach [a, b] X.env = [(false, eval a X.env), (false, eval b X.env)] := by rfl) (hs2 : starEach [b] X.env = [(false, eval b X.env)] := by rfl) : SI X W tg (.Call (.Name "range" p) [a, b] [] pos) (iR2 as) := si_r2 hg hm ha hs hs2
theorem xR3 {tg a b c : Expr} (hm : X.mg "range" = none) (hg : Gl X "range") (ha : SA X W [a, b, c] as) (hs : starEach [a, b, c] X.env = (false, eval a X.env) :: starEach [b, c] X.env := by rfl) (hpl : (backTo pos (starEach [b, c] X.env)).any (·.1) = false := by rfl) :
    SI X W tg (.Call (.Name "range" p) [a, b, c] [] pos) (iR3 as) := si_r3 hg hm ha hs hpl
theorem xEnum {elts : List Expr} {kk : Nat} {tpos : Pos} (hm : X.mg "enumerate" = none) (hg : Gl X "enumerate") (ha : SA X W [e] as) (hs : starEach [e] X.env = [(false, eval e X.env)] := by rfl) : SI X W (.Tuple elts kk tpos) (.Call (.Name "enumerate" p) [e] [] pos) (iEnumS as) := si_enum hg hm ha hs
theorem xZip {e2 : Expr} {elts : List Expr} {kk : Nat} {tpos : Pos} (hm : X.mg "zip" = none) (hg : Gl X "zip") (ha : SA X W [e, e2] as) (hs : starEach [e, e2] X.env = (false, eval e X.env) :: starEach [e2] X.env := by rfl) (hpl : (backTo pos (starEach [e2] X.env)).any (·.1) = false := by rfl) :
    SI X W (.Tuple elts kk tpos) (.Call (.Name "zip" p) [e, e2] [] pos) (iZipS as) := si_zip hg hm ha hs hpl
theorem xLc {elt tg iter : Expr} {ifs : List Expr} {scope : Scope} {fi : Iv} {t : Gv} {c : Bv} {v : Ev} (own : List (Str × Nat)) (hc : X.calm = true) (hN : X.N.Nodup) (hi : SI X W tg iter fi)
    (hg : ∀ s H C cl fp, SGw (Bk X scope s H C cl fp) (own.map (·.2)) tg t) (ht : ∀ s H C cl fp, STs (Bk X scope s H C cl fp) W0 ifs c) (he : ∀ s H C cl fp, SE (Bk X scope s H C cl fp) W0 elt v)
    (ok : BlkOk X.N X.env.scope scope own := by exact blkOk_by (by decide +kernel)) (hs : ∀ x, foldedSetIterable iter X.env x = pure x := by intro _; rfl) : SL X W (.ListComp elt [⟨tg, iter, ifs, 0⟩] scope pos) (lLc fi t c v (own.map (·.2))) := sl_lc hc hN hi ok hg ht he hs
theorem xSetLcN (i : Nat) {y : Str} {py spos : Pos} {elt tg iter : Expr} {ifs : List Expr} {scope : Scope} {fi : Iv} {t : Gv} {c : Bv} {v : Ev} (own : List (Str × Nat)) (hc : X.calm = true) (hN : X.N.Nodup) (hi : SI X W tg iter fi)
    (hg : ∀ s H C cl fp, SGw (Bk X scope s H C cl fp) (own.map (·.2)) tg t) (ht : ∀ s H C cl fp, STs (Bk X scope s H C cl fp) W0 ifs c) (he : ∀ s H C cl fp, SE (Bk X scope s H C cl fp) W0 elt v)
    (hy : X.N[i]? = some y := by rfl) (hyl : X.env.scope.names.lookup y = some .local := by rfl) (hsw : swapsWith (.ListComp elt [⟨tg, iter, ifs, 0⟩] scope pos) (some (.Name y py)) spos.line X.env = pure true := by rfl)
    (ok : BlkOk X.N X.env.scope scope own := by exact blkOk_by (by decide +kernel)) (hs : ∀ x, foldedSetIterable iter X.env x = pure x := by intro _; rfl) : SS X W (.Assign [.Name y py] (.ListComp elt [⟨tg, iter, ifs, 0⟩] scope pos) spos) (sAsg (eNew (lLc fi t c v (own.map (·.2)))) (gNm i)) := ss_setLcN hc hN hy hyl hsw hi ok hg ht he hs
theorem xSetLcF (i : Nat) {y : Str} {py spos : Pos} {elt tg iter : Expr} {ifs : List Expr} {scope : Scope} {fi : Iv} {t : Gv} {c : Bv} {v : Ev} (own : List (Str × Nat)) (hc : X.calm = true) (hN : X.N.Nodup) (hi : SI X W tg iter fi)
    (hg : ∀ s H C cl fp, SGw (Bk X scope s H C cl fp) (own.map (·.2)) tg t) (ht : ∀ s H C cl fp, STs (Bk X scope s H C cl fp) W0 ifs c) (he : ∀ s H C cl fp, SE (Bk X scope s H C cl fp) W0 elt v)
    (hy : X.N[i]? = some y := by rfl) (hyl : X.env.scope.names.lookup y = some .local := by rfl) (hsw : swapsWith (.ListComp elt [⟨tg, iter, ifs, 0⟩] scope pos) (some (.Name y py)) spos.line X.env = pure true := by rfl)
    (ok : BlkOk X.N X.env.scope scope own := by exact blkOk_by (by decide +kernel)) (hs : ∀ x, foldedSetIterable iter X.env x = pure x := by intro _; rfl) : SS X W (.Assign [.Name y py] (.ListComp elt [⟨tg, iter, ifs, 0⟩] scope pos) spos) (sAsg (eFrz (lLc fi t c v (own.map (·.2)))) (gNm i)) := ss_setLcF hc hN hy hyl hsw hi ok hg ht he hs
theorem xApp {o : Expr} {apos cpos : Pos} {fo : Ev} (ho : SE X W o fo) (ha : SA X W (e :: es) as) (hb : attributeBase o "append" X.env (eval o X.env) = eval o X.env := by rfl)
    (hfew : ((backTo cpos (starEach (e :: es) X.env)).all (fun x => !x.1) && (backToKw cpos (keywordEach [] X.env)).all (fun x => x.1.isSome) && decide ((e :: es).length + ([] : List Keyword).length + (if ([] : List Keyword).isEmpty then 0 else 1) < 30)) = true := by rfl)
    (hl : (apos.endLine == cpos.line) = true := by rfl) (hs : starEach (e :: es) X.env = (false, eval e X.env) :: starEach es X.env := by rfl) (hp : (backTo cpos (starEach es X.env)).any (·.1) = false := by rfl) :
    SE X W (.Call (.Attribute o "append" apos) (e :: es) [] cpos) (eMeth1 gApp fo as) := se_app ho ha hb hfew hl hs hp
theorem xPop {o : Expr} {apos cpos : Pos} {fo : Ev} (ho : SE X W o fo) (hb : attributeBase o "pop" X.env (eval o X.env) = eval o X.env := by rfl) (hl : (apos.endLine == cpos.line) = true := by rfl) : SE X W (.Call (.Attribute o "pop" apos) [] [] cpos) (e1 gPop fo) := se_pop ho hb hl
end

/-! ### the law's head -/
theorem DqAll.ofInts {K : PySem.W.Frag} {H : Hp} : ∀ ns : List Int, DqAll K H (ns.map V.int) (ns.map PyData.int)
  | [] => .nil
  | n :: r => .cons (.int n) (DqAll.ofInts r)
section
variable {P : Program} {w : World} {K : PySem.W.Frag} {mg mb : Str → Option Value} {k : Nat} {fa a : Addr} {fd : FuncData} {x : Str} {g : GF} {s₁ : Shared} {vs : List Value} {ns : List Int}
theorem head_call (inK : K.In s₁.heap) (gl : s₁.heap.Ns mainGlobals mg) (bl : s₁.heap.Ns builtinsNs mb) (bb : ∀ y : Str, y ≠ "__name__" → mb y = bootBuiltins y) (nl : s₁.heap.NoLimit) (ng : s₁.gens = #[])
    (ob : s₁.heap.get? a = some { cls := .type "list", data := .seq vs.toArray }) (isI : IntsAre vs ns) (len : ns.length ≤ sizeLine) (room : Room k callerA)
    (F : ∀ base : Heap, K.In base → base.Ns mainGlobals mg → FnG P w K mg base k fa fd [x] (spG K mg 1 g)) (bind : ∀ (s : Shared) (u : Value), BindsTo s fd ⟨[u], []⟩ [(x, u)])
    (sem : arity 1 g [.d (.list (ns.map PyData.int))] [] = .ok (.d (.bool true)) []) :
    codeAny (model P w) callerA (.call (.ref fa) ⟨[.ref a], []⟩) (fun r s' => r = .ok (.ret (.bool true)) ∧ OldK s₁.heap s'.heap ∧ s'.os = s₁.os ∧ AllBare s'.gens) s₁ := by
  have rel := vals_ints isI
  have cnt := isI.length
  have go : ∀ H : Hp, (∀ b, H b ≠ none → b = a) → (H a ≠ none → K.lookup a = none) → HOk P w H s₁.heap → Only H → Ls K H a (ns.map V.int) →
      codeAny (model P w) callerA (.call (.ref fa) ⟨[.ref a], []⟩) (fun r s' => r = .ok (.ret (.bool true)) ∧ OldK s₁.heap s'.heap ∧ s'.os = s₁.os ∧ AllBare s'.gens) s₁ := by
    intro H alone apart hk only lies
    have far : ∀ {b : Addr} {o : Obj}, s₁.heap.get? b = some o → b ≠ a → (hidT s₁.heap H).get? b = some o := fun {b o} got ne => hidT_get got (Classical.byContradiction fun z => ne (alone b z))
    have space : ∀ {b : Addr} {m : Str → Option Value}, s₁.heap.Ns b m → (hidT s₁.heap H).Ns b m := by
      rintro b m ⟨o, es, ep, got, dat, rest⟩
      refine ⟨o, es, ep, far got fun eq => ?_, dat, rest⟩
      rw [eq, ob] at got
      cases got
      exact nomatch dat
    have known : K.In (hidT s₁.heap H) := by
      intro b o kb
      by_cases eq : b = a
      · subst eq
        refine hidT_get (inK _ o kb) (Classical.byContradiction fun z => ?_)
        rw [apart z] at kb
        exact nomatch kb
      · exact far (inK b o kb) eq
    have lim : (hidT s₁.heap H).NoLimit := by
      obtain ⟨mc, l1, l2⟩ := nl
      exact ⟨mc, space l1, l2⟩
    have md : Mod K mg (hidT s₁.heap H) := ⟨known, space gl, ⟨mb, space bl, bb⟩, lim⟩
    have en0 : Env0 P w K mg (hidT s₁.heap H) callerA [] s₁ H :=
      ⟨rfl, md, fun b o z => of_hidT z, Nat.le_of_eq (hidT_size _ _), trivial, fun b z => (nomatch (show b ∈ ([] : List Addr) from z)), hk, .of_eq ng⟩
    have data : Dq K H (.ref a) (.list (ns.map PyData.int)) := .lst lies (DqAll.ofInts ns)
    have want : spG K mg 1 g [.ref a] H (fun v _ => v = .bl true) (fun _ _ _ => False) := by
      refine ⟨[.d (.list (ns.map PyData.int))], [], [], H, ⟨rfl, Same.refl _, fun i c z => ?_, fun i j b c c' z => ?_, fun b z => (nomatch z)⟩, .cons data .nil, ?_⟩
      · simp at z
      · simp at z
      · rw [sem]
        intro α' F' H' _ _ v rv
        have rv : Dq K F' v (.bool true) := rv
        cases rv
        rfl
    refine codeAny_mono ((F _ known (space gl)).run callerA [] s₁ H ⟨[.ref a], []⟩ [.ref a] [.ref a] _ _ room rfl en0 (bind s₁ (.ref a)) (.cons rfl .nil) want) fun r s' got => ?_
    rcases r with er | fl
    · obtain ⟨_, _, _, _, _, _, _, _, _, _, _, _, z⟩ := got
      exact z.elim
    · cases fl with
      | ret u =>
        obtain ⟨v, H', os, bare, un, hk', ru, rfl⟩ := got
        cases (show u = Value.bool true from ru)
        refine ⟨rfl, OldK.of_keep fun b o z => ?_, os, bare⟩
        rcases only b with n | ⟨o', xs, fz⟩
        · exact un.keep b o z n (fun y => nomatch (show b ∈ ([] : List Addr) from y)) (by simp)
        · have fz' := un.frzs b o' _ fz
          have g1 := (hk b _ fz).1
          have g2 := (hk' b _ fz').1
          rw [g1] at z
          cases z
          exact g2
      | _ => exact False.elim got
  cases lk : K.lookup a with
  | some o =>
    have got := inK a o lk
    rw [ob] at got
    cases got
    exact go (fun _ => none) (fun b z => absurd rfl z) (fun z => absurd rfl z) (fun b u z => nomatch (show (none : Option HO) = some u from z)) (fun _ => .inl rfl)
      (.inr ⟨vs, _, lk, by rw [List.length_map]; exact len, rel⟩)
  | none =>
    have at_ : ∀ b u, (if b = a then some (HO.frz { cls := .type "list", data := .seq vs.toArray } (.lst (ns.map V.int))) else none) = some u → b = a ∧ u = HO.frz { cls := .type "list", data := .seq vs.toArray } (.lst (ns.map V.int)) := fun b u z => by
      split at z
      · exact ⟨by assumption, (Option.some.inj z).symm⟩
      · exact nomatch z
    refine go (fun b => if b = a then some (.frz { cls := .type "list", data := .seq vs.toArray } (.lst (ns.map V.int))) else none) (fun b z => ?_) (fun _ => lk) (fun b u z => ?_) (fun b => ?_) (.inl (.inr ⟨_, if_pos rfl⟩))
    · by_cases eq : b = a
      · exact eq
      · exact absurd (if_neg eq) z
    · obtain ⟨rfl, rfl⟩ := at_ b u z
      exact ⟨ob, by rw [List.length_map]; exact len, vs, _, rel, ob⟩
    · by_cases eq : b = a
      · exact .inr ⟨_, _, if_pos eq⟩
      · exact .inl (if_neg eq)
/-- what is left of a law behind k_head: each def's promise, and that the law's own function tells True -/
theorem walk_G {l : PySem.W.OpenLaw} {n k : Nat} {q : Program} {loose : List Str} {XP : (Str → Option Value) → Heap → Prop} {YP : World → Heap → Prop} {d : DefRec} {K : Params → PySem.W.Frag} {x : Str} {g : GF}
    (hn : l.most = some n) (hn2 : n ≤ sizeLine) (hdf : d.params.defaults = []) (room : Room k callerA) (hY : ∀ (w : World) (h : Heap), YP w h → (K w.params).In h)
    (F : ∀ (w : World) (mg : Str → Option Value) (fa : Addr) (h : Heap), (K w.params).In h → h.Ns mainGlobals mg → mg d.name = some (.ref fa) →
      ∃ fd : FuncData, (∀ (s : Shared) (u : Value), BindsTo s fd ⟨[u], []⟩ [(x, u)]) ∧ ∀ base : Heap, (K w.params).In base → base.Ns mainGlobals mg → FnG l.prog w (K w.params) mg base k fa fd [x] (spG (K w.params) mg 1 g))
    (sem : ∀ ns : List Int, ns.length ≤ n → (∀ z ∈ ns, Builtin.Int.intBits z ≤ 1048576) → arity 1 g [.d (.list (ns.map PyData.int))] [] = .ok (.d (.bool true)) []) :
    PySem.W.WalkO q loose XP YP l.row.toRowW d [] (fun f vs => PySem.call f vs) := by
  refine Att.attach_callB hn hdf fun w s₀ s₁ mg mb fa o pm cd doc a vs ns G Y _ _ _ named obj isI many bits gens => ?_
  have inK := hY w _ Y
  obtain ⟨fd, bind, prom⟩ := F w mg fa _ inK G.T.g named
  exact head_call inK G.T.g G.T.b G.T.builtins G.T.nolimit gens obj isI (Nat.le_trans many hn2) room prom bind (sem ns many bits)
end
end TL
/-! TL13: tuple * int, gcd, pairs, constants of the module, defaults. -/
namespace TL
open PySem PySem.Spec L2 PyProof.Rows RZ
/-- one time, or nothing to repeat: the object itself -/
theorem tuple_mul_same (l : Addr) (items : Array Value) (n : Nat) (dd : Option Addr) (sl : Array (Option Value)) (x : Int) (u : Tok) (c0 : (decide (x < -(2 ^ 63)) || decide (x ≥ 2 ^ 63)) = false) (c1 : (items.isEmpty || x == 1) = true) :
    Meets (Builtin.«tuple.__mul__» ⟨[.ref l, .int x u], []⟩) (fun _ R s => s.heap.get? l = some { cls := .type "tuple", dict := dd, data := .seq items n, slots := sl } ∧ R (.ok (.ret (Value.ref l))) s) :=
  .of_wp fun prog w A R s h => by
    obtain ⟨hp, g, d, tk, os⟩ := s
    obtain ⟨hl, h⟩ := h
    have f1 := AutoSeq1.idx_int
    wp_walk using wpAny_loadPart' hl
    repeat (first
      | (refine wpAny_ite_false (decide_eq_false (by rw [c0]; exact Bool.false_ne_true)) ?_; wp_walk using wpAny_loadPart' hl)
      | (refine wpAny_ite_true (decide_eq_true c1) ?_; wp_walk using wpAny_loadPart' hl))
    exact ⟨_, rfl, h⟩
theorem tuple_mul_none (l : Addr) (items : Array Value) (n : Nat) (dd : Option Addr) (sl : Array (Option Value)) (x : Int) (u : Tok) (c0 : (decide (x < -(2 ^ 63)) || decide (x ≥ 2 ^ 63)) = false) (c1 : (items.isEmpty || x == 1) = false) (c2 : (decide (x ≤ 0) || items.isEmpty) = true) :
    Meets (Builtin.«tuple.__mul__» ⟨[.ref l, .int x u], []⟩) (fun _ R s => s.heap.get? l = some { cls := .type "tuple", dict := dd, data := .seq items n, slots := sl } ∧
      R (.ok (.ret (Value.ref s.heap.objs.size))) { s with heap := s.heap.push { cls := Value.type "tuple", data := Data.seq #[] }, toks := s.toks }) :=
  .of_wp fun prog w A R s h => by
    obtain ⟨hp, g, d, tk, os⟩ := s
    obtain ⟨hl, h⟩ := h
    have f1 := AutoSeq1.idx_int
    wp_walk using wpAny_loadPart' hl
    repeat (first
      | (refine wpAny_ite_false (decide_eq_false (by rw [c0]; exact Bool.false_ne_true)) ?_; wp_walk using wpAny_loadPart' hl)
      | (refine wpAny_ite_false (decide_eq_false (by rw [c1]; exact Bool.false_ne_true)) ?_; wp_walk using wpAny_loadPart' hl)
      | (refine wpAny_ite_true (decide_eq_true c2) ?_; wp_walk using wpAny_loadPart' hl))
    exact ⟨_, rfl, h⟩
noncomputable def gTimesT (a b : Wv) (μ : Mu) : Out Wv :=
  match a, b with
  | .d (.tuple xs), .d (.int k) => if -1000 ≤ k ∧ k ≤ 1000 ∧ xs.length ≤ 1000 then .ok (.d (.tuple (List.replicate k.toNat xs).flatten)) μ else .bad
  | _, _ => gTimes a b μ
section
variable {X : Cx} {W : WX}
theorem op_gTimesT : OpR X (binaryOp .Mult) (r2G X.K X.mg gTimesT) := by
  intro pins s σ H x y v u Q I rx ry ⟨μ, α, Fz, w1, w2, r, h1, h2, q⟩
  unfold gTimesT at q
  split at q
  · rename_i xs k
    split at q
    · rename_i hk
      cases h1 with
      | @tup a vs _ t1 d1 =>
        cases h2
        have tH := sameT r.sub t1
        by_cases hbig : xs ≠ [] ∧ 2 ≤ k
        · refine op_repT pins s σ H _ _ v u Q I rx ry ⟨a, k, vs, rfl, rfl, tH, fun e => hbig.1 ?_, hbig.2, hk.2.1, by rw [d1.length]; exact hk.2.2, fun p hp => ?_⟩
          · have := d1.length
            rw [e] at this
            exact List.eq_nil_of_length_eq_zero this.symm
          · obtain ⟨r2, x2⟩ := r.new (o := .tup (List.replicate k.toNat vs).flatten) hp
            exact q.at x2 r2 _ (.tup (.inl (.inl upd_same)) (DqAll.times (d1.mono x2.fro) k.toNat))
        · cases rx
          obtain ⟨t, rfl⟩ := ry
          obtain ⟨its, ri, ⟨⟨cls, dd, data, sl⟩, ho, hc, n, hd⟩, hs⟩ := I.tuple tH
          simp only at hc hd
          subst hc hd
          have hle : its.length = xs.length := by rw [← ri.length, d1.length]
          have c0 : (decide (k < -(2 ^ 63)) || decide (k ≥ 2 ^ 63)) = false := by
            rw [decide_eq_false (by omega), decide_eq_false (by omega)] <;> rfl
          by_cases h1 : (its.toArray.isEmpty || k == 1) = true
          · have hval : (List.replicate k.toNat xs).flatten = xs := by
              rcases Bool.or_eq_true_iff.mp h1 with e | e
              · have e0 : its.length = 0 := by simpa [Array.isEmpty] using e
                have : xs = [] := List.eq_nil_of_length_eq_zero (by omega)
                subst this
                simp
              · have : k = 1 := by simpa using e
                subst this
                simp
            rw [hval] at q
            refine wpAny_binaryOp_repeat_ref (T := "tuple") (U := "int") (by decide) ⟨_, ho, rfl⟩ (fun s' => typeIs_int s' k t) L2.noFill_tuple_mul F.fills_int_mul F.slot_int_rmul L2.repeat_tuple F.slot_int_index.lookup
              (call_meets F.slot_int_rmul (typeIs_int s k t) F.entry_int_rmul (F.args_int_rmul_2 _ _) (L2.int_rmul_tuple k t a its.toArray n dd sl)
                ⟨ho, rfl, ⟨_, ho, rfl⟩, call_meets F.slot_tuple_mul ⟨_, ho, rfl⟩ F.entry_tuple_mul (F.args_tuple_mul_2 _ _) (tuple_mul_same a its.toArray n dd sl k t c0 h1) ⟨ho, ?_⟩⟩)
            exact ⟨V.ref a, H, I, rfl, q.now r _ (.tup t1 d1)⟩
          · rw [Bool.not_eq_true] at h1
            have hne : its.toArray.isEmpty = false := by
              cases z : its.toArray.isEmpty with
              | false => rfl
              | true => rw [z] at h1; cases h1
            have hxs : xs ≠ [] := fun e => by
              rw [e] at hle
              have : its = [] := List.eq_nil_of_length_eq_zero hle
              rw [this] at hne
              cases hne
            have hk1 : k ≠ 1 := fun e => by
              rw [e] at h1
              simp at h1
            have hk0 : k ≤ 0 := by
              have : ¬ 2 ≤ k := fun z => hbig ⟨hxs, z⟩
              omega
            have hval : (List.replicate k.toNat xs).flatten = [] := by
              have : k.toNat = 0 := by omega
              rw [this]
              rfl
            rw [hval] at q
            have c2 : (decide (k ≤ 0) || its.toArray.isEmpty) = true := by
              rw [decide_eq_true hk0]
              rfl
            refine wpAny_binaryOp_repeat_ref (T := "tuple") (U := "int") (by decide) ⟨_, ho, rfl⟩ (fun s' => typeIs_int s' k t) L2.noFill_tuple_mul F.fills_int_mul F.slot_int_rmul L2.repeat_tuple F.slot_int_index.lookup
              (call_meets F.slot_int_rmul (typeIs_int s k t) F.entry_int_rmul (F.args_int_rmul_2 _ _) (L2.int_rmul_tuple k t a its.toArray n dd sl)
                ⟨ho, rfl, ⟨_, ho, rfl⟩, call_meets F.slot_tuple_mul ⟨_, ho, rfl⟩ F.entry_tuple_mul (F.args_tuple_mul_2 _ _) (tuple_mul_none a its.toArray n dd sl k t c0 h1 c2) ⟨ho, ?_⟩⟩)
            have nf := I.hok.fresh (Nat.le_refl s.heap.objs.size)
            obtain ⟨r2, x2⟩ := r.new (o := .tup []) nf
            refine ⟨.ref s.heap.objs.size, _, I.laid (t' := s.toks) (o := .tup []) (fun b ob q => Heap.get?_push_of_some _ q) (Nat.le_refl _) ?_, rfl, q.at x2 r2 _ (.tup (.inl (.inl upd_same)) .nil)⟩
            exact ⟨Nat.zero_le _, [], .nil, IsTup.new _ _⟩
    · exact q.elim
  · exact op_gTimes pins s σ H x y v u Q I rx ry ⟨μ, α, Fz, w1, w2, r, h1, h2, q⟩

/-! ### a function of the library bound at the top; pairs -/
variable {x y : Str} {p pos : Pos} {e : Expr} {es : List Expr} {as : Av}
theorem xBif {id : String} {g : GF} (hc : CallR X (.builtin id) (rnG X.K X.mg g)) (hm : X.mg x = some (.builtin id)) (hg : Gl X x) (ha : SA X W (e :: es) as) (hdb : (x == ("__debug__" : Str)) = false := by decide)
    (he : starEach (e :: es) X.env = (false, eval e X.env) :: starEach es X.env := by rfl) (hpl : (backTo pos (starEach es X.env)).any (·.1) = false := by rfl) : SE X W (.Call (.Name x p) (e :: es) [] pos) (en g as) := se_bif hc hg hm ha hdb he hpl
theorem xPar (i j : Nat) {a b : Expr} {px py pt : Pos} {kt k2 : Nat} {pt2 : Pos} (hc : X.calm = true) (hN : X.N.Nodup) (ha : SA X W [a, b] as) (hi : X.N[i]? = some x := by rfl) (hj : X.N[j]? = some y := by rfl) (hij : i ≠ j := by decide)
    (hx : X.env.scope.names.lookup x = some .local := by rfl) (hy : X.env.scope.names.lookup y = some .local := by rfl)
    (hw : swappedStores [.Tuple [.Name x px, .Name y py] kt pt] (.Tuple [a, b] k2 pt2) X.env = pure (some [x, y]) := by rfl) (hs : swapsWithSole [.Tuple [.Name x px, .Name y py] kt pt] (.Tuple [a, b] k2 pt2) pos.line X.env = pure false := by rfl) :
    SS X W (.Assign [.Tuple [.Name x px, .Name y py] kt pt] (.Tuple [a, b] k2 pt2) pos) (sPar i j as) := ss_par hc hN hi hj hij hx hy ha hw hs
def sNever : Sv := fun _ _ => .bad
theorem ss_nev {st : Stmt} : SS X W st sNever := ss_never
/-- a constant of the module -/
def Con (K : PySem.W.Frag) (mg : Str → Option Value) (x : Str) (c : PyData) : Prop := ∃ v u, mg x = some u ∧ RelV v u ∧ ∀ F, Dq K F v c
theorem xCon {c : PyData} (h : Con X.K X.mg x c) (hg : Gl X x) (hd : (x == ("__debug__" : Str)) = false := by decide) : SE X W (.Name x pos) (eK c) := by
  obtain ⟨v, u, hm, r, hc⟩ := h
  exact se_glob hg hm r hc hd
end
end TL
/-! TL14: enumerate over a tuple. -/
namespace TL
open PySem PySem.Spec L2 PyProof.Rows RZ
open AutoSeq1 (wpAny_loadPart')
theorem meets_enum_tup (l : Addr) (items : Array Value) (n : Nat) (dct : Option Addr) (sl : Array (Option Value)) :
    Meets (Builtin.«enumerate.__new__» ⟨[.type "enumerate", .ref l], []⟩) (fun _ R s => s.heap.get? l = some { cls := .type "tuple", dict := dct, data := .seq items n, slots := sl } ∧
      R (.ok (.ret (.ref (s.heap.push { cls := .type "tuple_iterator", data := .fields #[.ref l, .int 0 0] }).objs.size)))
        { s with heap := (s.heap.push { cls := .type "tuple_iterator", data := .fields #[.ref l, .int 0 0] }).push { cls := .type "enumerate", data := .fields #[.none, .bool false, .ref s.heap.objs.size, rawInt 0, .none, .none] } }) :=
  .of_wp fun prog w A R s h => by
    obtain ⟨hp, g, d, tk, os⟩ := s
    obtain ⟨hl, h⟩ := h
    have hsub := sub_enumerate
    have hT : Heap.IsTuple (Shared.heap ⟨hp, g, d, tk, os⟩) l items := ⟨_, hl, rfl, n, rfl⟩
    wp_walk using wpAny_loadPart' hl
    refine wpAny_stack_any fun st => wpAny_pure ?_
    split
    · rename_i c _ _ _ _ _
      cases (c == Value.type "enumerate")
      · wp_walk using wpAny_loadPart' hl, wpAny_pyIter_tuple hT
        exact ⟨_, rfl, h⟩
      · wp_walk using wpAny_loadPart' hl, wpAny_pyIter_tuple hT
        exact ⟨_, rfl, h⟩
    · wp_walk using wpAny_loadPart' hl, wpAny_pyIter_tuple hT
      exact ⟨_, rfl, h⟩
theorem call_enum_tup {prog : Program} {w : World} {A : Around} {E : Value → Shared → Prop} {s : Shared} {l : Addr} {items : Array Value} {Q : Value → Shared → Prop} (hT : s.heap.IsTuple l items)
    (h : ∀ h', IsEnum h' (s.heap.objs.size + 1) s.heap.objs.size 0 .none → h'.IsTupleIter s.heap.objs.size l 0 → h'.objs.size = s.heap.objs.size + 2 →
      (∀ b o, s.heap.get? b = some o → h'.get? b = some o) → Q (.ref (s.heap.objs.size + 1)) { s with heap := h' }) :
    wpAny (model prog w) A (call (.type "enumerate") [.ref l]) Q E s := by
  obtain ⟨⟨c, dct, dt, sl⟩, hl, hc, n, hd⟩ := hT
  simp only at hc hd
  subst hc hd
  refine callType_new F.called_enumerate (by decide) (F.typeCall_enumerate_1 _) (F.newCall_enumerate_1 _) (fun obj => F.args_object_init_2 obj _) F.entry_enumerate_new
    (meets_enum_tup l items n dct sl) ⟨hl, ?_⟩
  have two : ((s.heap.push { cls := .type "tuple_iterator", data := .fields #[.ref l, .int 0 0] }).push { cls := .type "enumerate", data := .fields #[.none, .bool false, .ref s.heap.objs.size, rawInt 0, .none, .none] }).get? (s.heap.objs.size + 1) =
      some { cls := .type "enumerate", data := .fields #[.none, .bool false, .ref s.heap.objs.size, rawInt 0, .none, .none] } := by
    have := Heap.get?_push_size (s.heap.push { cls := .type "tuple_iterator", data := .fields #[.ref l, .int 0 0] }) (o := { cls := .type "enumerate", data := .fields #[.none, .bool false, .ref s.heap.objs.size, rawInt 0, .none, .none] }) rfl
    rw [Heap.size_push] at this
    exact this
  show _ ∧ _
  rw [Heap.size_push]
  exact ⟨⟨_, two, rfl⟩, h _ two ⟨_, Heap.get?_push_of_some _ (Heap.get?_push_size _ rfl), rfl, rfl⟩ (by rw [Heap.size_push, Heap.size_push]) fun b o x => Heap.get?_push_of_some _ (Heap.get?_push_of_some _ x)⟩
/-- the tuple at a, each item in a new pair -/
def IteT (K : PySem.W.Frag) (a : Addr) : It :=
  ⟨fun i H => ∃ (xs : List V) (x : V), SqT K H a xs ∧ xs[i]? = some x, fun i H v H' => ∃ T x, v = .ref T ∧ H T = none ∧ H' = upd H T (.tup [.int (i : Nat), x]) ∧ ∀ xs, SqT K H a xs → xs[i]? = some x, fun i H => ∃ xs : List V, SqT K H a xs ∧ xs.length ≤ i⟩
theorem turn_enumT {P : Program} {w : World} {K : PySem.W.Frag} {elts : List Expr} {kk : Nat} {tpos : Pos} (a e it : Addr) (hae : a ≠ e) (hai : a ≠ it) :
    Turn P w K (.Tuple elts kk tpos) (IteT K a) [e, it] e (fun i h => (∃ old, IsEnum h e it ((i : Nat) : Int) old) ∧ h.IsTupleIter it a i ∧ e ≠ it) where
  mem := by simp
  obj := fun i h st b hb => by
    obtain ⟨⟨old, he⟩, ⟨o, ho, hc, hd⟩, _⟩ := st
    have two : b = e ∨ b = it := by simpa using hb
    rcases two with z | z
    · rw [z]
      exact ⟨_, he, fun v q => nomatch q⟩
    · rw [z]
      exact ⟨o, ho, fun v q => by rw [hd] at q; cases q⟩
  keep := fun i h h' st k => ⟨⟨st.1.choose, k e (by simp) _ st.1.choose_spec⟩, st.2.1.at fun o q => k it (by simp) o q, st.2.2⟩
  item := by
    intro X hP hw hK hc i pins s σ H E I hf st hg
    subst hP hw hK
    obtain ⟨⟨old, he⟩, hit, hne⟩ := st
    obtain ⟨xs, x, hq, hx⟩ := hg
    obtain ⟨its, rv, p, hz⟩ := I.tuple hq
    obtain ⟨u, hu, ru⟩ := rv.get hx
    have hel : e < s.heap.objs.size := Heap.lt_size he
    have hil : it < s.heap.objs.size := by
      obtain ⟨_, q, _⟩ := hit
      exact Heap.lt_size q
    have pT : s.heap.IsTuple a its.toArray := p
    have D := Draws.tuple (prog := X.prog) (w := X.w) (A := X.A.in1) (by rw [show X.A.in1.handled = X.A.handled from rfl]; exact I.ok.hd hc) it a hai its.toArray
    have hlt : i < its.toArray.size := by
      rw [List.size_toArray]
      exact (List.getElem?_eq_some_iff.mp hu).1
    refine wpAny_pyNext_enum_itemD D he ⟨hit, pT⟩ hlt hne (by simp; exact ⟨hne, Ne.symm hae⟩) fun y h' tk hy ho st' hT hsz hk => ?_
    have ey : y = u := by
      have hy : its.toArray[i]? = some y := hy
      rw [List.getElem?_toArray, hu] at hy
      exact (Option.some.inj hy).symm
    subst ey
    refine ⟨_, rfl, wpAny_letOwnedTupleGo_enum (s := { s with heap := h', toks := tk + 1 }) ho fun h2 he2 sb => ?_⟩
    have hT2 : h2.get? s.heap.objs.size = some { cls := .type "tuple", data := .seq #[.int i tk, y] } := (sb.2 _ (Nat.ne_of_gt hel)).trans hT
    have new : ObjOk X.prog X.w (upd H s.heap.objs.size (.tup [.int (i : Nat), x])) h2 s.heap.objs.size (.tup [.int (i : Nat), x]) :=
      ⟨by show 2 ≤ sizeLine; decide, [.int i tk, y], .cons ⟨_, rfl⟩ (.cons ru .nil), ⟨_, hT2, rfl, _, rfl⟩⟩
    have I1 : Inv X pins σ (upd H s.heap.objs.size (.tup [.int (i : Nat), x])) { s with heap := h2, toks := tk + 1 } :=
      I.turnedNew (ch := [e, it]) (fun b ob hb q => (sb.2 b (fun z => hb (by simp [z]))).trans (hk b ob (fun z => hb (by simp [z])) (fun z => hb (by simp [z])) q)) hf (Nat.le_refl _) new
    refine ⟨.ref s.heap.objs.size, _, I1, rfl, ⟨_, x, rfl, I.hok.fresh (Nat.le_refl _), rfl, fun ys hy => by rw [I.tuple_inj hy hq]; exact hx⟩, ⟨⟨y, ?_⟩, st'.1.at fun o q => (sb.2 it (Ne.symm hne)).trans q, hne⟩, fun b hb => ?_⟩
    · have e1 : ((i + 1 : Nat) : Int) = (i : Int) + 1 := by omega
      rw [e1]
      exact he2
    · have two : b = e ∨ b = it := by simpa using hb
      have hb' : b < s.heap.objs.size := by
        rcases two with z | z
        · rw [z]; exact hel
        · rw [z]; exact hil
      rw [upd_ne (Nat.ne_of_lt hb')]
      exact (hf b hb).1
  done := by
    intro X hP hw hK hc i pins s σ H E I hf st hg
    subst hP hw hK
    obtain ⟨⟨old, he⟩, hit, hne⟩ := st
    obtain ⟨xs, hq, hx⟩ := hg
    obtain ⟨its, rv, p, hz⟩ := I.tuple hq
    have pT : s.heap.IsTuple a its.toArray := p
    have hl := rv.length
    have over : its.toArray[i]? = none := by
      simp
      omega
    have D : Draws X.prog X.w X.A.in1 it [it, a] i (fun _ _ => False) (fun j h => j = i ∧ h.IsTupleIter it a i ∧ h.IsTuple a its.toArray) :=
      { live := fun _ _ st => let ⟨o, ho, _⟩ := st.2.1; ⟨o, ho⟩
        frame := fun _ _ _ st hk => ⟨st.1, st.2.1.at fun o e => hk it (by simp) o e, st.2.2.at fun o e => hk a (by simp) o e⟩
        item := fun j s Q E hj st hQ => absurd st.1 (by omega)
        done := fun s Q E st hE => wpAny_nextOf_tuple_end (by rw [show X.A.in1.handled = X.A.handled from rfl]; exact I.ok.hd hc) st.2.1 st.2.2 over hE }
    refine wpAny_pyNext_enum_endD D he ⟨rfl, hit, pT⟩ fun h' eb => ⟨rfl, I.turned (t' := s.toks) (fun b o hb q => eb b o hb q) (hf it (by simp)).1 (hf it (by simp)).2.1 (hf it (by simp)).2.2.2.1 (hf it (by simp)).2.2.2.2.1 (hf it (by simp)).2.2.2.2.2⟩
  self := fun A i s Q E st h => wpAny_pyIter_enum st.1.choose_spec h
def iEnumA (K : PySem.W.Frag) (ta : TA) : TI := fun σ H R => ta σ H fun vs H1 => ∃ a xs, vs = [.ref a] ∧ ((SqL K H1 a xs ∧ R (Ite K a) H1) ∨ (SqT K H1 a xs ∧ R (IteT K a) H1))
theorem pi_enumA {X : Cx} {e : Expr} {ta : TA} {p pos tpos : Pos} {elts : List Expr} {kk : Nat} (hg : Gl X "enumerate") (hm : X.mg "enumerate" = none) (ha : PA X [e] ta) (hs : starEach [e] X.env = [(false, eval e X.env)]) :
    PI X (.Tuple elts kk tpos) (.Call (.Name "enumerate" p) [e] [] pos) (iEnumA X.K ta) := by
  refine ⟨fun pins s σ H R I h => ?_⟩
  refine Call_ (ld_blt I hg hm boot_enumerate (PyProof.Rows.callWith_type1 (thn (ha.run pos pins s σ H _ I h) fun us s1 ⟨vs, H1, I1, r1, q1⟩ => ?_) hs rfl))
  obtain ⟨a, xs, ex, q1⟩ := q1
  subst ex
  cases r1 with
  | cons r rr =>
    cases rr
    cases r
    have own : ∀ b, b ∈ [s1.heap.objs.size + 1, s1.heap.objs.size] → FpOk X pins H1 b := fun b hb => by
      have two : b = s1.heap.objs.size + 1 ∨ b = s1.heap.objs.size := by simpa using hb
      have hle : s1.heap.objs.size ≤ b := by omega
      exact I1.fpOk hle (I1.hok.fresh hle)
    rcases q1 with ⟨hq, q⟩ | ⟨hq, q⟩
    · obtain ⟨its, rv, p', hz⟩ := I1.list hq
      exact call_enumerate_list p'.isList fun h' he hit hsz hk => wpAny_pyIter_enum he
        ⟨_, [s1.heap.objs.size + 1, s1.heap.objs.size], _, _, H1, rfl, I1.kept (t' := s1.toks) hk, turn_enum a (s1.heap.objs.size + 1) s1.heap.objs.size, ⟨⟨.none, he⟩, hit, Nat.succ_ne_self _⟩, own, q⟩
    · obtain ⟨its, rv, p', hz⟩ := I1.tuple hq
      have pT : s1.heap.IsTuple a its.toArray := p'
      have la : a < s1.heap.objs.size := by
        obtain ⟨o, ho, _⟩ := pT
        exact Heap.lt_size ho
      exact call_enum_tup pT fun h' he hit hsz hk => wpAny_pyIter_enum he
        ⟨_, [s1.heap.objs.size + 1, s1.heap.objs.size], _, _, H1, rfl, I1.kept (t' := s1.toks) hk, turn_enumT a (s1.heap.objs.size + 1) s1.heap.objs.size (Nat.ne_of_lt (Nat.lt_succ_of_lt la)) (Nat.ne_of_lt la), ⟨⟨.none, he⟩, hit, Nat.succ_ne_self _⟩, own, q⟩
def seqOf (w : Wv) (μ : Mu) : Option Its :=
  match w with
  | .d (.tuple c) => some ⟨c, []⟩
  | _ => lstOf w μ
def iEnumT (as : Av) : Iv := fun ρ μ => (as ρ μ).bind fun ws μ1 => match ws with
  | [w] => (oOf (seqOf w μ1) μ1).bind fun i μ2 => .ok ⟨enumL i.xs, i.tie⟩ μ2
  | _ => .bad
theorem jok_enumT {K : PySem.W.Frag} {α0 : List Addr} {F0 H0 : Hp} {a : Addr} {i : Its} (k : TKn K α0 F0 H0 a i) : JOk K α0 F0 H0 (IteT K a) ⟨enumL i.xs, i.tie⟩ := by
  refine ⟨fun α F μ H r e t => ?_⟩
  obtain ⟨vs, hs, d⟩ := k.at_ α F μ H r e t
  have hl : (enumL i.xs).length = i.xs.length := by unfold enumL; rw [List.length_mapIdx]
  refine ⟨fun n hn => ?_, fun n hn => ⟨vs, hs, by rw [d.length, ← hl]; exact hn⟩, fun n y x H' hy hyl => ?_⟩
  · have hn' : n < vs.length := by rw [d.length, ← hl]; exact hn
    exact ⟨vs, vs[n], hs, List.getElem?_eq_getElem hn'⟩
  · obtain ⟨T, u, rfl, hT, rfl, q⟩ := hyl
    obtain ⟨z, hz, dz⟩ := d.getV (q vs hs)
    have hy : (enumL i.xs)[n]? = some y := hy
    unfold enumL at hy
    rw [List.getElem?_mapIdx, hz] at hy
    cases hy
    obtain ⟨r2, x2⟩ := r.new (o := .tup [.int (n : Nat), u]) hT
    exact ⟨_, r2, x2, .tup (.inl (.inl upd_same)) (.cons (.int _) (.cons (dz.mono x2.fro) .nil))⟩
section
variable {X : Cx} {W : WX}
theorem xEnumT {e : Expr} {as : Av} {p pos tpos : Pos} {elts : List Expr} {kk : Nat} (hm : X.mg "enumerate" = none) (hg : Gl X "enumerate") (ha : SA X W [e] as) (hs : starEach [e] X.env = [(false, eval e X.env)] := by rfl) :
    SI X W (.Tuple elts kk tpos) (.Call (.Name "enumerate" p) [e] [] pos) (iEnumT as) := by
  refine (pi_enumA hg hm ha hs).imp fun σ H R ⟨ρ, μ, α, F, r, re, q⟩ => ?_
  refine ⟨ρ, μ, α, F, r, re, q.bind.mono fun ws μ1 α1 F1 H1 x1 r1 q1 vs rv => ?_⟩
  split at q1
  · rename_i w
    cases rv with
    | cons a1 t1 =>
      cases t1
      unfold seqOf at q1
      split at q1
      · obtain ⟨a, rfl, ⟨us, hu⟩, k⟩ := tkn r1 a1 rfl
        exact ⟨a, us, rfl, .inr ⟨hu, gp.now (c := (⟨enumL _, []⟩ : Its)) q1 r1 _ (jok_enumT k)⟩⟩
      · cases e1 : lstOf w μ1 with
        | none =>
          rw [e1] at q1
          exact q1.elim
        | some i =>
          rw [e1] at q1
          obtain ⟨a, rfl, ⟨us, hu⟩, k⟩ := lkn r1 a1 e1
          exact ⟨a, us, rfl, .inl ⟨hu, gp.now (c := (⟨enumL i.xs, i.tie⟩ : Its)) q1 r1 _ (jok_enum k)⟩⟩
  · exact q1.elim
end
end TL
/-! TLP: what the combinators do, as rules for simp; loops over data. -/
namespace TL
open PySem PySem.Spec L2
section
variable {ρ : Rho} {μ : Mu}
@[simp] theorem x_next : sNext ρ μ = .ok (.nx ρ) μ := rfl
@[simp] theorem x_seq {a b : Sv} : sSeq a b ρ μ = (a ρ μ).bind (seqK b) := rfl
@[simp] theorem x_seqn {b : Sv} {ρ' : Rho} : seqK b (.nx ρ') μ = b ρ' μ := rfl
@[simp] theorem x_seqr {b : Sv} {w : Wv} : seqK b (.rt w) μ = .ok (.rt w) μ := rfl
@[simp] theorem x_seqb {b : Sv} {ρ' : Rho} : seqK b (.bk ρ') μ = .ok (.bk ρ') μ := rfl
@[simp] theorem x_seqc {b : Sv} {ρ' : Rho} : seqK b (.ct ρ') μ = .ok (.ct ρ') μ := rfl
@[simp] theorem x_seqe {b : Sv} {x : Str} {ws : List Wv} {ρ' : Rho} : seqK b (.er x ws ρ') μ = .ok (.er x ws ρ') μ := rfl
@[simp] theorem x_ret {f : Ev} : sRet f ρ μ = liftO ρ (f ρ μ) fun w μ1 => .ok (.rt w) μ1 := rfl
@[simp] theorem x_retZ {f : Ev} : sRetZ f ρ μ = liftO ρ ((f ρ μ).bind frz) fun w μ1 => .ok (.rt w) μ1 := rfl
@[simp] theorem x_expr {f : Ev} : sExpr f ρ μ = liftO ρ (f ρ μ) fun _ μ1 => .ok (.nx ρ) μ1 := rfl
@[simp] theorem x_if {c : Bv} {a b : Sv} : sIf c a b ρ μ = liftO ρ (c ρ μ) fun t μ1 => if t = true then a ρ μ1 else b ρ μ1 := rfl
@[simp] theorem x_asg {f : Ev} {t : Gv} : sAsg f t ρ μ = liftO ρ (f ρ μ) fun w μ1 => (calm (t w ρ μ1)).bind fun ρ' μ2 => .ok (.nx ρ') μ2 := rfl
@[simp] theorem x_nm {i : Nat} {w : Wv} : gNm i w ρ μ = .ok (ρ.set i (some w)) μ := rfl
@[simp] theorem x_calm {γ : Type} {c : γ} : calm (.ok c μ) = .ok c μ := rfl
@[simp] theorem x_calmb {γ : Type} : calm (.bad : Out γ) = .bad := rfl
@[simp] theorem x_tp {ts : List Gv} {xs : List PyData} : gTp ts (.d (.tuple xs)) ρ μ = if xs.length = ts.length then gSeq ts (xs.map Wv.d) ρ μ else .bad := rfl
@[simp] theorem x_sq0 : gSeq [] [] ρ μ = .ok ρ μ := rfl
@[simp] theorem x_sq1 {t : Gv} {ts : List Gv} {w : Wv} {ws : List Wv} : gSeq (t :: ts) (w :: ws) ρ μ = (t w ρ μ).bind fun ρ' μ' => gSeq ts ws ρ' μ' := rfl
@[simp] theorem x_sb {o i : Ev} {w : Wv} : gSb o i w ρ μ = (o ρ μ).bind fun ow μ1 => (i ρ μ1).bind fun iw μ2 => (setC ow iw w μ2).bind fun _ μ3 => .ok ρ μ3 := rfl
@[simp] theorem x_k {x : PyData} : eK x ρ μ = .ok (.d x) μ := rfl
@[simp] theorem x_e1 {g : Wv → Mu → Out Wv} {a : Ev} : e1 g a ρ μ = (a ρ μ).bind fun w μ1 => calm (g w μ1) := rfl
@[simp] theorem x_e2 {g : Wv → Wv → Mu → Out Wv} {a b : Ev} : e2 g a b ρ μ = (a ρ μ).bind fun w μ1 => (b ρ μ1).bind fun u μ2 => calm (g w u μ2) := rfl
@[simp] theorem x_en {g : GF} {as : Av} : en g as ρ μ = (as ρ μ).bind fun ws μ1 => calm (g ws μ1) := rfl
@[simp] theorem x_nil : aNil ρ μ = .ok [] μ := rfl
@[simp] theorem x_cons {a : Ev} {as : Av} : aCons a as ρ μ = (a ρ μ).bind fun w μ1 => (as ρ μ1).bind fun ws μ2 => .ok (w :: ws) μ2 := rfl
@[simp] theorem x_cF {n : Nat} {g : GF} {as : Av} : cF n g as ρ μ = (as ρ μ).bind fun ws μ1 => if ws.length = n then g ws μ1 else .bad := rfl
@[simp] theorem x_cFK {pm : List Nat} {n : Nat} {g : GF} {as : Av} : cFK pm n g as ρ μ = (as ρ μ).bind fun ws μ1 => if (permL pm ws).length = n then g (permL pm ws) μ1 else .bad := rfl
@[simp] theorem x_tup {as : Av} : eTup as ρ μ = (lDisp as ρ μ).bind fun c μ1 => .ok (.d (.tuple c)) μ1 := rfl
@[simp] theorem x_frz {l : Lv} : eFrz l ρ μ = (l ρ μ).bind fun c μ1 => .ok (.d (.list c)) μ1 := rfl
@[simp] theorem x_new {l : Lv} : eNew l ρ μ = (l ρ μ).bind fun c μ1 => .ok (.r μ1.length) (μ1 ++ [some c]) := rfl
@[simp] theorem x_disp {as : Av} : lDisp as ρ μ = (as ρ μ).bind fun ws μ1 => match allD ws with
  | some c => if c.length ≤ 16777216 then .ok c μ1 else .bad
  | none => .bad := rfl
@[simp] theorem x_all0 : allD [] = some [] := rfl
@[simp] theorem x_all1 {x : PyData} {ws : List Wv} : allD (.d x :: ws) = (allD ws).map (x :: ·) := rfl
@[simp] theorem x_wB {b : Bool} : wB (.d (.bool b)) μ = .ok b μ := rfl
@[simp] theorem x_tB {a : Ev} : tB' a ρ μ = (a ρ μ).bind wB := rfl
@[simp] theorem x_bnot {a : Bv} : bNot a ρ μ = (a ρ μ).bind fun b μ1 => .ok (!b) μ1 := rfl
@[simp] theorem x_band {a b : Bv} : bAnd a b ρ μ = (a ρ μ).bind fun c μ1 => if c = true then b ρ μ1 else .ok false μ1 := rfl
@[simp] theorem x_bor {a b : Bv} : bOr a b ρ μ = (a ρ μ).bind fun c μ1 => if c = true then .ok true μ1 else b ρ μ1 := rfl
@[simp] theorem x_and {a b : Ev} : eAnd a b ρ μ = (a ρ μ).bind fun w μ0 => (wB w μ0).bind fun c μ1 => if c = true then b ρ μ1 else .ok (.d (.bool false)) μ1 := rfl
@[simp] theorem x_or {a b : Ev} : eOr a b ρ μ = (a ρ μ).bind fun w μ0 => (wB w μ0).bind fun c μ1 => if c = true then .ok (.d (.bool true)) μ1 else b ρ μ1 := rfl
@[simp] theorem x_not {a : Ev} : eNot a ρ μ = (a ρ μ).bind fun w μ0 => (wB w μ0).bind fun c μ1 => .ok (.d (.bool (!c))) μ1 := rfl
@[simp] theorem x_eif {c : Bv} {a b : Ev} : eIf c a b ρ μ = (c ρ μ).bind fun c μ1 => if c = true then a ρ μ1 else b ρ μ1 := rfl
@[simp] theorem x_lst {as : Av} : lList as ρ μ = (as ρ μ).bind fun ws μ1 => calm (gList ws μ1) := rfl
@[simp] theorem x_sl {a : Ev} {lo hi : Option Ev} : eSl a lo hi ρ μ = (a ρ μ).bind fun w μ1 => (oPart lo ρ μ1).bind fun l μ2 => (oPart hi ρ μ2).bind fun h μ3 => calm (gSl w l h μ3) := rfl
@[simp] theorem x_pn : oPart none ρ μ = .ok none μ := rfl
@[simp] theorem x_ps {f : Ev} : oPart (some f) ρ μ = (f ρ μ).bind fun w μ1 => match w with
    | .d (.int i) => .ok (some i) μ1
    | _ => .bad := rfl
@[simp] theorem x_dic : eDic ρ μ = .ok (.d (.dict [])) μ := rfl
@[simp] theorem x_iany {f : Ev} : iAny f ρ μ = (f ρ μ).bind fun w μ1 => oOf (itsOf w μ1) μ1 := rfl
@[simp] theorem x_oof {γ : Type} {c : γ} : oOf (some c) μ = .ok c μ := rfl
@[simp] theorem x_yes : bYes ρ μ = .ok true μ := rfl
@[simp] theorem x_dd {x : PyData} : dataOf μ (.d x) = some x := rfl
theorem x_dr {k : Nat} {c : Cell} (h : μ[k]? = some (some c)) : dataOf μ (.r k) = some (.list c) := by
  show (μ[k]?.join).map PyData.list = _
  rw [h]
  rfl
theorem x_var {i : Nat} {w : Wv} (h : ρ[i]? = some (some w)) : eVar i ρ μ = .ok w μ := by
  unfold eVar
  rw [h]
@[simp] theorem x_v0 {o : Wv} {r : Rho} : eVar 0 (some o :: r) μ = .ok o μ := rfl
@[simp] theorem x_vs {i : Nat} {o : Option Wv} {r : Rho} : eVar (i + 1) (o :: r) μ = eVar i r μ := rfl
@[simp] theorem x_ni {i : Int} : numOf (.d (.int i)) = some i := rfl
@[simp] theorem x_nb {b : Bool} : numOf (.d (.bool b)) = some (bi b) := rfl
theorem get_set {k : Nat} {c c' : Option Cell} (h : μ[k]? = some c) : (μ.set k c')[k]? = some c' := List.getElem?_set_self (List.getElem?_eq_some_iff.mp h).1
@[simp] theorem v_plus {i j : Int} : gPlus (.d (.int i)) (.d (.int j)) μ = .ok (.d (.int (i + j))) μ := rfl
@[simp] theorem v_plusT {xs ys : List PyData} : gPlus (.d (.tuple xs)) (.d (.tuple ys)) μ = if xs.length + ys.length ≤ 16777216 then .ok (.d (.tuple (xs ++ ys))) μ else .bad := rfl
@[simp] theorem v_plusL {xs ys : List PyData} : gPlus (.d (.list xs)) (.d (.list ys)) μ = if xs.length + ys.length ≤ 16777216 then .ok (.d (.list (xs ++ ys))) μ else .bad := rfl
@[simp] theorem v_plusB {b : Bool} {j : Int} : gPlus (.d (.bool b)) (.d (.int j)) μ = .ok (.d (.int (bi b + j))) μ := rfl
@[simp] theorem v_sub {i j : Int} : gSub (.d (.int i)) (.d (.int j)) μ = .ok (.d (.int (i - j))) μ := rfl
@[simp] theorem v_subB {i : Int} {b : Bool} : gSub (.d (.int i)) (.d (.bool b)) μ = .ok (.d (.int (i - bi b))) μ := rfl
@[simp] theorem v_subB' {j : Int} {b : Bool} : gSub (.d (.bool b)) (.d (.int j)) μ = .ok (.d (.int (bi b - j))) μ := rfl
theorem bits_small {i : Int} (h1 : -1000000000000000000 < i) (h2 : i < 1000000000000000000) : Builtin.Int.intBits i ≤ 64 := by
  unfold Builtin.Int.intBits
  split
  · omega
  · have hn : i.natAbs < 2 ^ 63 := by omega
    by_cases h0 : i.natAbs = 0
    · rw [h0]
      decide
    · have := (Nat.log2_lt h0).mpr hn
      omega
theorem v_times {i j : Int} (h1 : -1000000000000000000 < i) (h2 : i < 1000000000000000000) (h3 : -1000000000000000000 < j) (h4 : j < 1000000000000000000) : gTimes (.d (.int i)) (.d (.int j)) μ = .ok (.d (.int (i * j))) μ := by
  show (if mulOk i j = true then Out.ok (wI (i * j)) μ else Out.bad) = _
  rw [if_pos]
  · unfold mulOk
    have a := bits_small h1 h2
    have b := bits_small h3 h4
    exact @decide_eq_true _ (Classical.propDecidable _) (by omega)
theorem v_mod {i j : Int} (h : 0 < j) : gMod (.d (.int i)) (.d (.int j)) μ = .ok (.d (.int (i % j))) μ := by
  show (if j = 0 then Out.bad else Out.ok (wI (i.fmod j)) μ) = _
  rw [if_neg (by omega), Int.fmod_eq_emod_of_nonneg _ (by omega)]
theorem no_pylong {i j : Int} (h : 0 < j) (h2 : j < 1000000000000000000) : Builtin.divisionGoesByPylong i j = false := by
  unfold Builtin.divisionGoesByPylong
  have b := bits_small (i := j) (by omega) h2
  unfold Builtin.Int.intBits at b
  have hj : (j == 0) = false := by
    rw [beq_eq_false_iff_ne]
    omega
  rw [hj] at b
  simp only [hj, Bool.false_eq_true, if_false] at b ⊢
  have : ¬ (j.natAbs.log2 / 30 + 1 > 300) := by omega
  simp [this]
theorem v_div {i j : Int} (h : 0 < j) (h2 : j < 1000000000000000000) : gDiv (.d (.int i)) (.d (.int j)) μ = .ok (.d (.int (i / j))) μ := by
  show (if j = 0 ∨ Builtin.divisionGoesByPylong i j = true then Out.bad else Out.ok (wI (i.fdiv j)) μ) = _
  rw [if_neg, Int.fdiv_eq_ediv_of_nonneg _ (by omega)]
  · rw [no_pylong h h2]
    simp
    omega
theorem v_divmod {i j : Int} (h : 0 < j) (h2 : j < 1000000000000000000) : gDivmod [.d (.int i), .d (.int j)] μ = .ok (.d (.tuple [.int (i / j), .int (i % j)])) μ := by
  show (if 0 < j ∧ Builtin.divisionGoesByPylong i j = false then Out.ok (wT [.int (i / j), .int (i % j)]) μ else Out.bad) = _
  rw [if_pos ⟨h, no_pylong h h2⟩]
@[simp] theorem v_int {i : Int} : gInt [.d (.int i)] μ = .ok (.d (.int i)) μ := rfl
@[simp] theorem v_abs {i : Int} : gAbs [.d (.int i)] μ = .ok (.d (.int (if i < 0 then -i else i))) μ := rfl
@[simp] theorem v_neg {i : Int} : gNeg (.d (.int i)) μ = .ok (.d (.int (-i))) μ := rfl
@[simp] theorem v_cmp {p : Int → Int → Bool} {i j : Int} : gCmp p (.d (.int i)) (.d (.int j)) μ = .ok (.d (.bool (p i j))) μ := rfl
theorem v_ixr {k : Nat} {c : Cell} {i : Int} (h : μ[k]? = some (some c)) : gIx (.r k) (.d (.int i)) μ = match atI c i with
    | some x => .ok (.d x) μ
    | none => .bad := by
  unfold gIx
  rw [x_dr h] <;> rfl
@[simp] theorem v_ixt {xs : List PyData} {i : Int} : gIx (.d (.tuple xs)) (.d (.int i)) μ = match atI xs i with
    | some x => .ok (.d x) μ
    | none => .bad := rfl
@[simp] theorem v_ixl {xs : List PyData} {i : Int} : gIx (.d (.list xs)) (.d (.int i)) μ = match atI xs i with
    | some x => .ok (.d x) μ
    | none => .bad := rfl
theorem v_setc {k : Nat} {c : Cell} {j : Int} {x : PyData} (h : μ[k]? = some (some c)) : setC (.r k) (.d (.int j)) (.d x) μ = match ixN c.length j with
      | some n => .ok () (μ.set k (some (c.set n x)))
      | none => .bad := by
  unfold setC
  simp only [h] <;> (cases ixN c.length j <;> rfl)
@[simp] theorem v_isi {T : String} {x : PyData} : gIsi T (.d x) μ = if kinds.contains T = true then .ok (.d (.bool (subTy (tyName x) T))) μ else .bad := rfl
@[simp] theorem v_lent {xs : List PyData} : gLen [.d (.tuple xs)] μ = .ok (.d (.int xs.length)) μ := rfl
@[simp] theorem v_lenl {xs : List PyData} : gLen [.d (.list xs)] μ = .ok (.d (.int xs.length)) μ := rfl
@[simp] theorem v_tupl {xs : List PyData} : gTuple [.d (.list xs)] μ = .ok (.d (.tuple xs)) μ := rfl
@[simp] theorem v_tupt {xs : List PyData} : gTuple [.d (.tuple xs)] μ = .ok (.d (.tuple xs)) μ := rfl
theorem v_tupr {k : Nat} {c : Cell} (h : μ[k]? = some (some c)) : gTuple [.r k] μ = .ok (.d (.tuple c)) μ := by
  show (match dataOf μ (.r k) with
    | some (.list xs) => Out.ok (wT xs) μ
    | some (.tuple xs) => Out.ok (wT xs) μ
    | _ => Out.bad) = _
  rw [x_dr h]
@[simp] theorem v_listt {xs : List PyData} : gList [.d (.tuple xs)] μ = .ok xs μ := rfl
@[simp] theorem v_listl {xs : List PyData} : gList [.d (.list xs)] μ = .ok xs μ := rfl
theorem at_n {β : Type} {xs : List β} {x : β} {n : Nat} (h : xs[n]? = some x) : atI xs (n : Int) = some x := by
  unfold atI ixN
  rw [if_pos (by omega), if_pos (by have := (List.getElem?_eq_some_iff.mp h).1; omega)]
  exact h
@[simp] theorem at_0 {β : Type} {x : β} {xs : List β} : atI (x :: xs) 0 = some x := at_n (n := 0) rfl
@[simp] theorem at_1 {β : Type} {x y : β} {xs : List β} : atI (x :: y :: xs) 1 = some y := at_n (n := 1) rfl
@[simp] theorem at_2 {β : Type} {x y z : β} {xs : List β} : atI (x :: y :: z :: xs) 2 = some z := at_n (n := 2) rfl
@[simp] theorem ix_0 {n : Nat} : ixN (n + 1) 0 = some 0 := by
  unfold ixN
  rw [if_pos (by omega), if_pos (by omega)]
  rfl
@[simp] theorem ix_1 {n : Nat} : ixN (n + 1 + 1) 1 = some 1 := by
  unfold ixN
  rw [if_pos (by omega), if_pos (by omega)]
  rfl
@[simp] theorem ix_2 {n : Nat} : ixN (n + 1 + 1 + 1) 2 = some 2 := by
  unfold ixN
  rw [if_pos (by omega), if_pos (by omega)]
  rfl
@[simp] theorem ix_03 : ixN 3 0 = some 0 := ix_0
@[simp] theorem ix_13 : ixN 3 1 = some 1 := ix_1
@[simp] theorem ix_23 : ixN 3 2 = some 2 := ix_2
theorem at_last {x : PyData} {xs : List PyData} : atI (x :: xs) (-1) = some ((x :: xs).getLast (List.cons_ne_nil _ _)) := by
  have h : ((x :: xs) : List PyData) = (x :: xs).dropLast ++ [(x :: xs).getLast (List.cons_ne_nil _ _)] := (List.dropLast_concat_getLast _).symm
  generalize (x :: xs).getLast (List.cons_ne_nil _ _) = y at h ⊢
  rw [h]
  exact atI_last _ _
theorem at_nat {xs : List PyData} {i : Int} (h1 : 0 ≤ i) (h2 : i < xs.length) : ∃ x, atI xs i = some x ∧ x ∈ xs := by
  unfold atI ixN
  rw [if_pos h1, if_pos h2]
  have hl : i.toNat < xs.length := by omega
  exact ⟨xs[i.toNat], by simp [hl], List.getElem_mem hl⟩
/-- behind a def -/
@[simp] theorem leave_d {n : Nat} {x : PyData} : leave n (.d x) μ = .ok (.d x) (μ.take n) := rfl
@[simp] theorem take_self : μ.take μ.length = μ := List.take_length
@[simp] theorem take_set {k : Nat} {c : Option Cell} : (μ.set k c).take μ.length = μ.set k c := List.take_of_length_le (by rw [List.length_set]; exact Nat.le_refl _)
@[simp] theorem take_app {l : Mu} : (μ ++ l).take μ.length = μ := by simp
theorem lt_of_get {k : Nat} {c : Option Cell} (h : μ[k]? = some c) : k < μ.length := (List.getElem?_eq_some_iff.mp h).1
/-- data are told; of the cells only the k-th may change -/
def Tl (μ : Mu) (k : Nat) (o : Out Wv) (P : PyData → Cell → Prop) : Prop := match o with
  | .ok (.d x) μ' => ∃ c', μ' = μ.set k (some c') ∧ P x c'
  | _ => False
theorem Tl.ok {k : Nat} {o : Out Wv} {P : PyData → Cell → Prop} (h : Tl μ k o P) : ∃ x c', o = .ok (.d x) (μ.set k (some c')) ∧ P x c' := by
  unfold Tl at h
  split at h
  · obtain ⟨c', rfl, p⟩ := h
    exact ⟨_, c', rfl, p⟩
  · exact h.elim
end
end TL
/-! TLQ: loops over data. -/
namespace TL
open PySem PySem.Spec L2
@[simp] theorem tied_nil {xs : Cell} {μ : Mu} : tied ⟨xs, []⟩ μ := fun p h => (nomatch h)
theorem loopC_run {Iv : Nat → Mu → Prop} {R : PyData → PyData → Prop} {xs0 : Cell} {i : Nat} {e : Ev} {ρ : Rho} : ∀ (xs acc : Cell) (n : Nat) (μ : Mu), Iv n μ → acc.length + xs.length ≤ 16777216 →
    (∀ x ∈ xs, ∀ n μ, Iv n μ → ∃ y μ', e (ρ.set i (some (.d x))) μ = .ok (.d y) μ' ∧ Iv (n + 1) μ' ∧ R x y) →
    ∃ ys μ', loopC ⟨xs0, []⟩ (gNm i) bYes e ρ xs acc μ = .ok (acc ++ ys) μ' ∧ Iv (n + xs.length) μ' ∧ ys.length = xs.length ∧ ∀ (k : Nat) x y, xs[k]? = some x → ys[k]? = some y → R x y
  | [], acc, n, μ, h, _, _ => by
    refine ⟨[], μ, ?_, h, rfl, fun k x y h1 => by simp at h1⟩
    unfold loopC
    rw [if_pos tied_nil, List.append_nil]
  | x :: xs, acc, n, μ, h, hl, he => by
    obtain ⟨y, μ1, e1, h1, r1⟩ := he x List.mem_cons_self n μ h
    rw [List.length_cons] at hl
    obtain ⟨ys, μ2, e2, h2, l2, r2⟩ := loopC_run (xs0 := xs0) xs (acc ++ [y]) (n + 1) μ1 h1 (by rw [List.length_append, List.length_singleton]; omega) fun z hz => he z (List.mem_cons_of_mem _ hz)
    refine ⟨y :: ys, μ2, ?_, by rw [List.length_cons]; rw [show n + (xs.length + 1) = n + 1 + xs.length by omega]; exact h2, by rw [List.length_cons, List.length_cons, l2], fun k a b h3 h4 => ?_⟩
    · unfold loopC
      rw [if_pos tied_nil]
      simp only [x_nm, x_calm, Out.bind_ok, x_yes, if_true, e1]
      unfold lcPut
      simp only [Out.bind_ok]
      rw [if_pos (by omega)]
      simp only [Out.bind_ok, e2, List.append_assoc, List.singleton_append]
    · cases k with
      | zero =>
        simp at h3 h4
        subst h3 h4
        exact r1
      | succ k => exact r2 k a b (by simpa using h3) (by simpa using h4)
theorem lc_run {Iv : Nat → Mu → Prop} {R : PyData → PyData → Prop} {it : TL.Iv} {xs : Cell} {i : Nat} {e : Ev} {ρ : Rho} {μ μ1 : Mu} (hit : it ρ μ = .ok ⟨xs, []⟩ μ1) (h0 : Iv 0 μ1) (hl : xs.length ≤ 16777216)
    (he : ∀ x ∈ xs, ∀ n μ, Iv n μ → ∃ y μ', e ((ρ.set i none).set i (some (.d x))) μ = .ok (.d y) μ' ∧ Iv (n + 1) μ' ∧ R x y) :
    ∃ ys μ', lLc it (gNm i) bYes e [i] ρ μ = .ok ys μ' ∧ Iv xs.length μ' ∧ ys.length = xs.length ∧ ∀ (k : Nat) x y, xs[k]? = some x → ys[k]? = some y → R x y := by
  obtain ⟨ys, μ', e1, h1, l1, r1⟩ := loopC_run (Iv := Iv) (R := R) (xs0 := xs) (i := i) (e := e) (ρ := ρ.set i none) xs [] 0 μ1 h0 (by simpa using hl) he
  rw [Nat.zero_add] at h1
  refine ⟨ys, μ', ?_, h1, l1, r1⟩
  show (it ρ μ).bind (fun i1 μ1 => loopC i1 (gNm i) bYes e (wipeR ρ [i]) i1.xs [] μ1) = _
  rw [hit]
  exact e1
/-- each item's value by itself -/
theorem lc_map {g : PyData → PyData} {it : TL.Iv} {xs : Cell} {i : Nat} {e : Ev} {ρ : Rho} {μ μ1 : Mu} (hit : it ρ μ = .ok ⟨xs, []⟩ μ1) (hl : xs.length ≤ 16777216)
    (he : ∀ x ∈ xs, e ((ρ.set i none).set i (some (.d x))) μ1 = .ok (.d (g x)) μ1) : lLc it (gNm i) bYes e [i] ρ μ = .ok (xs.map g) μ1 := by
  obtain ⟨ys, μ', e1, rfl, l1, r1⟩ := lc_run (Iv := fun _ μ => μ = μ1) (R := fun x y => y = g x) hit rfl hl fun x hx n μ h => by
    subst h
    exact ⟨g x, μ, he x hx, rfl, rfl⟩
  rw [e1]
  congr 1
  apply List.ext_getElem?
  intro k
  rw [List.getElem?_map]
  by_cases hk : k < xs.length
  · have hk' : k < ys.length := by omega
    rw [List.getElem?_eq_getElem hk, List.getElem?_eq_getElem hk', r1 k _ _ (List.getElem?_eq_getElem hk) (List.getElem?_eq_getElem hk')]
    rfl
  · rw [List.getElem?_eq_none (by omega), List.getElem?_eq_none (by omega)]
    rfl
/-- the same with any target -/
theorem loopCT_run {Iv : Nat → Mu → Prop} {R : PyData → PyData → Prop} {xs0 : Cell} {t : Gv} {e : Ev} {ρ : Rho} : ∀ (xs acc : Cell) (n : Nat) (μ : Mu), Iv n μ → acc.length + xs.length ≤ 16777216 →
    (∀ x ∈ xs, ∀ n μ, Iv n μ → ∃ ρ1 μ1 y μ', t (.d x) ρ μ = .ok ρ1 μ1 ∧ e ρ1 μ1 = .ok (.d y) μ' ∧ Iv (n + 1) μ' ∧ R x y) →
    ∃ ys μ', loopC ⟨xs0, []⟩ t bYes e ρ xs acc μ = .ok (acc ++ ys) μ' ∧ Iv (n + xs.length) μ' ∧ ys.length = xs.length ∧ ∀ (k : Nat) x y, xs[k]? = some x → ys[k]? = some y → R x y
  | [], acc, n, μ, h, _, _ => by
    refine ⟨[], μ, ?_, h, rfl, fun k x y h1 => by simp at h1⟩
    unfold loopC
    rw [if_pos tied_nil, List.append_nil]
  | x :: xs, acc, n, μ, h, hl, he => by
    obtain ⟨ρ1, μ0, y, μ1, e0, e1, h1, r1⟩ := he x List.mem_cons_self n μ h
    rw [List.length_cons] at hl
    obtain ⟨ys, μ2, e2, h2, l2, r2⟩ := loopCT_run (xs0 := xs0) xs (acc ++ [y]) (n + 1) μ1 h1 (by rw [List.length_append, List.length_singleton]; omega) fun z hz => he z (List.mem_cons_of_mem _ hz)
    refine ⟨y :: ys, μ2, ?_, by rw [List.length_cons]; rw [show n + (xs.length + 1) = n + 1 + xs.length by omega]; exact h2, by rw [List.length_cons, List.length_cons, l2], fun k a b h3 h4 => ?_⟩
    · unfold loopC
      rw [if_pos tied_nil, e0]
      simp only [x_calm, Out.bind_ok, x_yes, if_true, e1]
      unfold lcPut
      simp only [Out.bind_ok]
      rw [if_pos (by omega)]
      simp only [Out.bind_ok, e2, List.append_assoc, List.singleton_append]
    · cases k with
      | zero =>
        simp at h3 h4
        subst h3 h4
        exact r1
      | succ k => exact r2 k a b (by simpa using h3) (by simpa using h4)
theorem lcT_run {Iv : Nat → Mu → Prop} {R : PyData → PyData → Prop} {it : TL.Iv} {xs : Cell} {t : Gv} {os : List Nat} {e : Ev} {ρ : Rho} {μ μ1 : Mu} (hit : it ρ μ = .ok ⟨xs, []⟩ μ1) (h0 : Iv 0 μ1) (hl : xs.length ≤ 16777216)
    (he : ∀ x ∈ xs, ∀ n μ, Iv n μ → ∃ ρ1 μ1 y μ', t (.d x) (wipeR ρ os) μ = .ok ρ1 μ1 ∧ e ρ1 μ1 = .ok (.d y) μ' ∧ Iv (n + 1) μ' ∧ R x y) :
    ∃ ys μ', lLc it t bYes e os ρ μ = .ok ys μ' ∧ Iv xs.length μ' ∧ ys.length = xs.length ∧ ∀ (k : Nat) x y, xs[k]? = some x → ys[k]? = some y → R x y := by
  obtain ⟨ys, μ', e1, h1, l1, r1⟩ := loopCT_run (Iv := Iv) (R := R) (xs0 := xs) (t := t) (e := e) (ρ := wipeR ρ os) xs [] 0 μ1 h0 (by simpa using hl) he
  rw [Nat.zero_add] at h1
  refine ⟨ys, μ', ?_, h1, l1, r1⟩
  show (it ρ μ).bind (fun i1 μ1 => loopC i1 t bYes e (wipeR ρ os) i1.xs [] μ1) = _
  rw [hit]
  exact e1
/-- each item's value by itself, known by place -/
theorem lcT_eq {zs : Cell} {it : TL.Iv} {xs : Cell} {t : Gv} {os : List Nat} {e : Ev} {ρ : Rho} {μ μ1 : Mu} (hit : it ρ μ = .ok ⟨xs, []⟩ μ1) (hl : xs.length ≤ 16777216) (hz : zs.length = xs.length)
    (he : ∀ (k : Nat) x z, xs[k]? = some x → zs[k]? = some z → ∃ ρ1, t (.d x) (wipeR ρ os) μ1 = .ok ρ1 μ1 ∧ e ρ1 μ1 = .ok (.d z) μ1) : lLc it t bYes e os ρ μ = .ok zs μ1 := by
  have gen : ∀ (ys ws acc : Cell), acc.length + ys.length ≤ 16777216 → ws.length = ys.length → (∀ (k : Nat) x z, ys[k]? = some x → ws[k]? = some z → ∃ ρ1, t (.d x) (wipeR ρ os) μ1 = .ok ρ1 μ1 ∧ e ρ1 μ1 = .ok (.d z) μ1) →
      loopC ⟨xs, []⟩ t bYes e (wipeR ρ os) ys acc μ1 = .ok (acc ++ ws) μ1 := by
    intro ys
    induction ys with
    | nil =>
      intro ws acc _ hw _
      cases ws with
      | nil =>
        unfold loopC
        rw [if_pos tied_nil, List.append_nil]
      | cons w ws => cases hw
    | cons y ys ih =>
      intro ws acc hl hw hk
      cases ws with
      | nil => cases hw
      | cons w ws =>
        obtain ⟨ρ1, e0, e1⟩ := hk 0 y w rfl rfl
        rw [List.length_cons] at hl
        have := ih ws (acc ++ [w]) (by rw [List.length_append, List.length_singleton]; omega) (by simpa using hw) fun k x z h1 h2 => hk (k + 1) x z (by simpa using h1) (by simpa using h2)
        unfold loopC
        rw [if_pos tied_nil, e0]
        simp only [x_calm, Out.bind_ok, x_yes, if_true, e1]
        unfold lcPut
        simp only [Out.bind_ok]
        rw [if_pos (by omega)]
        simp only [Out.bind_ok, this, List.append_assoc, List.singleton_append]
  show (it ρ μ).bind (fun i1 μ1 => loopC i1 t bYes e (wipeR ρ os) i1.xs [] μ1) = _
  rw [hit]
  exact gen xs zs [] (by simpa using hl) hz he
theorem v_allm {β : Type} {xs : List β} {p : β → Bool} {μ : Mu} : gAll [.d (.list (xs.map fun x => .bool (p x)))] μ = .ok (.d (.bool (xs.all p))) μ := by
  have e : (xs.map fun x => PyData.bool (p x)) = (xs.map p).map PyData.bool := by rw [List.map_map]; rfl
  unfold gAll
  simp only [x_dd, e, boolsOf_bools]
  show Out.ok (Wv.d (.bool _)) μ = _
  congr 3
  rw [List.all_map]
  rfl
theorem v_anym {β : Type} {xs : List β} {p : β → Bool} {μ : Mu} : gAny [.d (.list (xs.map fun x => .bool (p x)))] μ = .ok (.d (.bool (xs.any p))) μ := by
  have e : (xs.map fun x => PyData.bool (p x)) = (xs.map p).map PyData.bool := by rw [List.map_map]; rfl
  unfold gAny
  simp only [x_dd, e, boolsOf_bools]
  show Out.ok (Wv.d (.bool _)) μ = _
  congr 3
  rw [List.any_map]
  rfl
theorem loopF_run {P : Nat → Rho → Mu → Prop} {xs0 : Cell} {t : Gv} {b : Sv} : ∀ (xs : Cell) (n : Nat) (ρ : Rho) (μ : Mu), P n ρ μ →
    (∀ (k : Nat) x ρ μ, xs[k]? = some x → P (n + k) ρ μ → ∃ ρ1 μ1 ρ' μ', t (.d x) ρ μ = .ok ρ1 μ1 ∧ b ρ1 μ1 = .ok (.nx ρ') μ' ∧ P (n + k + 1) ρ' μ') →
    ∃ ρ' μ', loopF ⟨xs0, []⟩ t b xs ρ μ = .ok (.nx ρ') μ' ∧ P (n + xs.length) ρ' μ'
  | [], n, ρ, μ, h, _ => by
    refine ⟨ρ, μ, ?_, h⟩
    unfold loopF
    rw [if_pos tied_nil]
  | x :: xs, n, ρ, μ, h, hb => by
    obtain ⟨ρ1, μ1, ρ2, μ2, e1, e2, h2⟩ := hb 0 x ρ μ rfl h
    obtain ⟨ρ3, μ3, e3, h3⟩ := loopF_run (P := P) (xs0 := xs0) (t := t) (b := b) xs (n + 1) ρ2 μ2 h2 fun k y ρ μ hk hp => by
      have := hb (k + 1) y ρ μ (by simpa using hk) (by rw [show n + (k + 1) = n + 1 + k by omega]; exact hp)
      rw [show n + (k + 1) + 1 = n + 1 + k + 1 by omega] at this
      exact this
    refine ⟨ρ3, μ3, ?_, by rw [List.length_cons, show n + (xs.length + 1) = n + 1 + xs.length by omega]; exact h3⟩
    unfold loopF
    rw [if_pos tied_nil, e1]
    simp only [x_calm, Out.bind_ok, e2]
    exact e3
theorem for_run (P : Nat → Rho → Mu → Prop) {it : TL.Iv} {xs : Cell} {t : Gv} {b : Sv} {ρ : Rho} {μ μ1 : Mu} (hit : it ρ μ = .ok ⟨xs, []⟩ μ1) (h0 : P 0 ρ μ1)
    (hb : ∀ (k : Nat) x ρ μ, xs[k]? = some x → P k ρ μ → ∃ ρ1 μ1 ρ' μ', t (.d x) ρ μ = .ok ρ1 μ1 ∧ b ρ1 μ1 = .ok (.nx ρ') μ' ∧ P (k + 1) ρ' μ') :
    ∃ ρ' μ', sFor it t b ρ μ = .ok (.nx ρ') μ' ∧ P xs.length ρ' μ' := by
  obtain ⟨ρ', μ', e, h⟩ := loopF_run (P := P) (xs0 := xs) (t := t) (b := b) xs 0 ρ μ1 h0 (by simpa using hb)
  rw [Nat.zero_add] at h
  refine ⟨ρ', μ', ?_, h⟩
  unfold sFor
  rw [hit]
  exact e
theorem loopW_run {P : Nat → Rho → Mu → Prop} {Q : Rho → Mu → Prop} {c : Bv} {b : Sv} (step : ∀ n ρ μ, P n ρ μ → ∃ t μ1, c ρ μ = .ok t μ1 ∧ ((t = false ∧ Q ρ μ1) ∨ (t = true ∧ ∃ ρ' μ' n', n' < n ∧ b ρ μ1 = .ok (.nx ρ') μ' ∧ P n' ρ' μ'))) :
    ∀ (n : Nat) (ρ : Rho) (μ : Mu), P n ρ μ → ∃ k ρ' μ', loopW c b k ρ μ = .ok (.nx ρ') μ' ∧ Q ρ' μ' := by
  intro n
  induction n using Nat.strongRecOn with
  | _ n ih =>
    intro ρ μ h
    obtain ⟨t, μ1, e, z⟩ := step n ρ μ h
    rcases z with ⟨rfl, q⟩ | ⟨rfl, ρ', μ', n', hn, e2, h2⟩
    · refine ⟨1, ρ, μ1, ?_, q⟩
      unfold loopW
      rw [e]
      rfl
    · obtain ⟨k, ρ3, μ3, e3, q⟩ := ih n' hn ρ' μ' h2
      refine ⟨k + 1, ρ3, μ3, ?_, q⟩
      unfold loopW
      rw [e]
      simp only [liftO_ok, if_true, e2, x_calm, Out.bind_ok]
      exact e3
theorem wh_run (P : Nat → Rho → Mu → Prop) (Q : Rho → Mu → Prop) {c : Bv} {b : Sv} (n : Nat) {ρ : Rho} {μ : Mu} (h : P n ρ μ)
    (step : ∀ n ρ μ, P n ρ μ → ∃ t μ1, c ρ μ = .ok t μ1 ∧ ((t = false ∧ Q ρ μ1) ∨ (t = true ∧ ∃ ρ' μ' n', n' < n ∧ b ρ μ1 = .ok (.nx ρ') μ' ∧ P n' ρ' μ'))) :
    ∃ ρ' μ', sWhile c b ρ μ = .ok (.nx ρ') μ' ∧ Q ρ' μ' := by
  obtain ⟨k, ρ', μ', e, q⟩ := loopW_run step n ρ μ h
  exact ⟨ρ', μ', sWhile_at k e (by simp), q⟩
section
variable {μ : Mu}
theorem v_eq {neg : Bool} {a b : Wv} {x y : PyData} {c : Bool} (ha : dataOf μ a = some x) (hb : dataOf μ b = some y) (h : eqP x y = some c) : gEq neg a b μ = .ok (.d (.bool (if neg then !c else c))) μ := by
  unfold gEq
  simp only [ha, hb, h]
@[simp] theorem v_eqd {neg : Bool} {x y : PyData} : gEq neg (.d x) (.d y) μ = match eqP x y with
    | some c => .ok (.d (.bool (if neg then !c else c))) μ
    | none => .bad := rfl
@[simp] theorem v_pow {i j : Int} : gPow (.d (.int i)) (.d (.int j)) μ = if 0 ≤ j ∧ j ≤ 1000000 ∧ i.natAbs < 2 ^ 64 then .ok (.d (.int (i ^ j.toNat))) μ else .bad := rfl
@[simp] theorem eq_tt {xs : List PyData} : eqP (.tuple xs) (.tuple []) = some xs.isEmpty := by cases xs <;> rfl
@[simp] theorem eq_ll {xs : List PyData} : eqP (.list xs) (.list []) = some xs.isEmpty := by cases xs <;> rfl
@[simp] theorem eq_ss {x y : Str} : eqP (.str x) (.str y) = some (decide (x = y)) := rfl
@[simp] theorem sh_int {i : Int} : SeqAt.shaped (.int i) = true := rfl
@[simp] theorem sh_bool {b : Bool} : SeqAt.shaped (.bool b) = true := rfl
@[simp] theorem sh_none : SeqAt.shaped .none = true := rfl
@[simp] theorem sh_t0 : SeqAt.shaped (.tuple []) = true := rfl
theorem eq_sh {x y : PyData} (hx : SeqAt.shaped x = true) (hy : SeqAt.shaped y = true) (h1 : ∀ a, x ≠ .str a) (h2 : ∀ a, x ≠ .tuple a) (h3 : ∀ a, x ≠ .list a) : eqP x y = some (PyData.eqv x y) := by
  unfold eqP
  split
  · exact (h1 _ rfl).elim
  · exact (h2 _ rfl).elim
  · exact (h2 _ rfl).elim
  · exact (h3 _ rfl).elim
  · exact (h3 _ rfl).elim
  · rw [if_pos ⟨hx, hy⟩]
@[simp] theorem eq_ii {i j : Int} : eqP (.int i) (.int j) = some (i == j) := by
  rw [eq_sh rfl rfl (fun _ h => by cases h) (fun _ h => by cases h) (fun _ h => by cases h)]
  simp [PyData.eqv]
@[simp] theorem eq_it {i : Int} : eqP (.int i) (.tuple []) = some false := by
  rw [eq_sh rfl rfl (fun _ h => by cases h) (fun _ h => by cases h) (fun _ h => by cases h)]
  simp [PyData.eqv]
@[simp] theorem eq_bi {b : Bool} {j : Int} : eqP (.bool b) (.int j) = some ((if b then 1 else 0) == j) := by
  rw [eq_sh rfl rfl (fun _ h => by cases h) (fun _ h => by cases h) (fun _ h => by cases h)]
  simp [PyData.eqv]
theorem eq_ti {xs : List PyData} {j : Int} (h : SeqAt.shaped (.tuple xs) = true) : eqP (.tuple xs) (.int j) = some false := by
  have : eqP (.tuple xs) (.int j) = if SeqAt.shaped (.tuple xs) = true ∧ SeqAt.shaped (.int j) = true then some (PyData.eqv (.tuple xs) (.int j)) else none := by
    cases xs <;> rfl
  rw [this, if_pos ⟨h, rfl⟩]
  simp [PyData.eqv]
theorem sh_ints {xs : List PyData} (h : ∀ x ∈ xs, ∃ i, x = .int i) : SeqAt.shaped (.tuple xs) = true := by
  have h1 : PyData.canLayAll0 xs = true ∧ PyData.depthAll xs = 0 := by
    induction xs with
    | nil => exact ⟨rfl, rfl⟩
    | cons x xs ih =>
      obtain ⟨i, rfl⟩ := h x List.mem_cons_self
      obtain ⟨a, b⟩ := ih fun y hy => h y (List.mem_cons_of_mem _ hy)
      exact ⟨by simp [PyData.canLayAll0, PyData.canLay0, a], by simp [PyData.depthAll, PyData.depth, b]⟩
  unfold SeqAt.shaped
  simp [PyData.canLay0, PyData.depth, h1.1, h1.2]
end
section
variable {μ : Mu}
theorem app_set {k : Nat} {a : Option Cell} {l : Mu} (h : k < μ.length) : (μ ++ l).set k a = μ.set k a ++ l := List.set_append_left _ _ h
theorem app_get {k : Nat} {a : Option Cell} {l : Mu} (h : μ[k]? = some a) : (μ ++ l)[k]? = some a := by
  rw [List.getElem?_append_left (lt_of_get h)]
  exact h
@[simp] theorem take_setapp {k : Nat} {c : Option Cell} {l : Mu} : (μ.set k c ++ l).take μ.length = μ.set k c := by
  rw [List.take_append_of_le_length (by rw [List.length_set]; exact Nat.le_refl _)]
  exact take_set
@[simp] theorem get_last {k : Nat} {c a : Option Cell} : (μ.set k c ++ [a])[μ.length]? = some a := by
  rw [List.getElem?_append_right (by rw [List.length_set]; exact Nat.le_refl _), List.length_set, Nat.sub_self]
  rfl
@[simp] theorem set_last {k : Nat} {c a b : Option Cell} : (μ.set k c ++ [a]).set μ.length b = μ.set k c ++ [b] := by
  rw [List.set_append_right _ _ (by rw [List.length_set]; exact Nat.le_refl _), List.length_set, Nat.sub_self]
  rfl
theorem v_app {k : Nat} {c : Cell} {x : PyData} (h : μ[k]? = some (some c)) (hl : c.length < 16777216) : gApp (.r k) [.d x] μ = .ok (.d .none) (μ.set k (some (c ++ [x]))) := by
  unfold gApp
  simp only [h, if_pos hl]
theorem x_meth {ρ : Rho} {g : Wv → List Wv → Mu → Out Wv} {o : Ev} {as : Av} : eMeth1 g o as ρ μ = (o ρ μ).bind fun w μ1 => if live w μ1 = true then (as ρ μ1).bind fun ws μ2 => calm (g w ws μ2) else .bad := rfl
theorem live_r {k : Nat} {c : Cell} (h : μ[k]? = some (some c)) : live (.r k) μ = true := by
  unfold live
  simp only [h]
theorem it_r1 {ρ : Rho} {as : Av} {j : Int} {μ1 : Mu} (h : as ρ μ = .ok [.d (.int j)] μ1) (h1 : -4611686018427387904 ≤ j) (h2 : j < 4611686018427387904) : iR1 as ρ μ = .ok ⟨intL 0 j.toNat 1, []⟩ μ1 := by
  show (as ρ μ).bind _ = _
  rw [h]
  show (if smallI j = true then _ else _) = _
  rw [if_pos (smallI_is h1 h2)]
end
end TL
/-! TLR: what repr can show. -/
namespace TL
open PySem PySem.Spec L2
/-- may be shown: W its weight, D its depth -/
structure Shw (W D : Nat) (x : PyData) : Prop where
  sh : x.showable = true
  ls : x.leavesShort 1921 = true
  w : x.weight ≤ W
  d : x.depth ≤ D
  nd : x.hasDict = false
structure ShwAll (W D : Nat) (xs : List PyData) : Prop where
  sh : PyData.showableAll xs = true
  ls : PyData.leavesShortAll 1921 xs = true
  w : PyData.weightAll xs ≤ W
  d : PyData.depthAll xs ≤ D
  nd : PyData.hasDictAll xs = false
theorem Shw.ok {W D : Nat} {x : PyData} (h : Shw W D x) (hW : W ≤ 8000) (hD : D ≤ 60) : reprOk x = true := by
  have h1 := PyData.shown_le 1921 (by omega) x h.ls
  have h2 : (1921 + 2) * x.weight ≤ 1923 * 8000 := Nat.mul_le_mul_left _ (Nat.le_trans h.w hW)
  unfold reprOk
  rw [h.sh, h.nd, decide_eq_true (show x.shown.length ≤ 16777216 by omega), decide_eq_true (show x.depth ≤ 60 from Nat.le_trans h.d hD)]
  rfl
theorem Shw.repr {W D : Nat} {x : PyData} {μ : Mu} (h : Shw W D x) (hW : W ≤ 8000) (hD : D ≤ 60) : gRepr [.d x] μ = .ok (.d (.str x.shown)) μ := by
  show (if reprOk x = true then Out.ok (wS x.shown) μ else Out.bad) = _
  rw [if_pos (h.ok hW hD)]
theorem ShwAll.nil : ShwAll 0 0 [] := ⟨rfl, rfl, Nat.le_refl _, Nat.le_refl _, rfl⟩
theorem ShwAll.cons {W D W2 D2 : Nat} {x : PyData} {xs : List PyData} (h : Shw W D x) (t : ShwAll W2 D2 xs) : ShwAll (W + 1 + W2) (max D D2) (x :: xs) := by
  refine ⟨?_, ?_, ?_, ?_, ?_⟩
  · simp [PyData.showableAll, h.sh, t.sh]
  · simp [PyData.leavesShortAll, h.ls, t.ls]
  · have := h.w
    have := t.w
    simp only [PyData.weightAll]
    omega
  · have := h.d
    have := t.d
    simp only [PyData.depthAll]
    omega
  · simp [PyData.hasDictAll, h.nd, t.nd]
theorem Shw.list {W D : Nat} {xs : List PyData} (t : ShwAll W D xs) : Shw W (D + 1) (.list xs) := by
  refine ⟨t.sh, t.ls, ?_, ?_, t.nd⟩
  · simp only [PyData.weight]
    exact t.w
  · have := t.d
    simp only [PyData.depth]
    omega
theorem Shw.tuple {W D : Nat} {xs : List PyData} (t : ShwAll W D xs) : Shw W (D + 1) (.tuple xs) := by
  refine ⟨t.sh, t.ls, ?_, ?_, t.nd⟩
  · simp only [PyData.weight]
    exact t.w
  · have := t.d
    simp only [PyData.depth]
    omega
theorem Shw.up {W D W2 D2 : Nat} {x : PyData} (h : Shw W D x) (hW : W ≤ W2) (hD : D ≤ D2) : Shw W2 D2 x := ⟨h.sh, h.ls, Nat.le_trans h.w hW, Nat.le_trans h.d hD, h.nd⟩
theorem Shw.bool {b : Bool} : Shw 0 0 (.bool b) := ⟨rfl, rfl, Nat.le_refl _, Nat.le_refl _, rfl⟩
theorem Shw.int {i : Int} {n : Nat} (h0 : 0 < n) (hn : n ≤ 1920) (h : i.natAbs < 2 ^ n) : Shw n 0 (.int i) := by
  have hl : i.natAbs.log2 < n := by
    by_cases hz : i.natAbs = 0
    · rw [hz]
      exact h0
    · exact (Nat.log2_lt hz).mpr h
  have hl2 : i.natAbs.log2 < 1920 := Nat.lt_of_lt_of_le hl hn
  refine ⟨by simp [PyData.showable, hl2], ?_, ?_, Nat.le_refl _, rfl⟩
  · simp only [PyData.leavesShort, decide_eq_true_eq]
    exact PyProof.Rows.int_text_len_1921 hl2
  · simp only [PyData.weight]
    split <;> omega
end TL
/-! TL15: defs with defaults; three targets at once. -/
namespace TL
open PySem PySem.Spec L2 PyProof.Rows RZ
theorem fng_ofD {P : Program} {w : World} {K : PySem.W.Frag} {mg : Str → Option Value} {base : Heap} {k : Nat} {f : Addr} {x qual : Str} {st : Stmt} {fd : FuncData} {N ps : List Str} {sp : Sp}
    {dvs : List V} {kws : List (Str × V)} (F : FunD K x qual (defArgs st) (defBody st) (defScope st) dvs kws f fd) (S : FnScope N ps (defScope st)) (len : ∀ vs H Q E, sp vs H Q E → vs.length = ps.length)
    (body : ∀ (cdv : Value) (A : Around) (outer : List Env) (s : Shared) (H : Hp) (vs : List V) (Q : VK) (E : XK), Room k (A.deeper (envOfC qual (defScope st) s.heap.objs.size f cdv)) → A.guards = some [] → sp vs H Q E →
      ∃ t, PSs (cxOf (L2.CX P w) P w K mg base N qual (defScope st) f cdv A outer s H E) (defBody st) t ∧ t { nx := fun _ H' => Q .non H', rt := Q } (L2.start N vs) H) :
    FnG P w K mg base (k + 1) f fd ps sp := by
  obtain ⟨oc, od, dV, kV, doc, pm, an, cdv, ct, osl, efd, lk, cd, _, _⟩ := F.ex
  subst efd
  refine ⟨len, fun A outer s0 H args us vs Q E room gd env bd rel want => ?_⟩
  have count := len _ _ _ _ want
  have inK : K.In s0.heap := env.mod.kin.keeps fun b o z => (env.bs b o z).1
  have nolim : s0.heap.NoLimit := env.mod.nolimit.keeps fun b o z => (env.bs b o z).1
  have kinds : ∀ y ∈ ps.zip us, (defScope st).names.lookup y.1 = some .local ∨ ((defScope st).names.lookup y.1 = some .cell ∧ ((cellsFrom (s0.heap.objs.size + 1) (defScope st).names []).lookup y.1).isSome = true) := by
    rintro ⟨m, v⟩ hm
    cases S.par m (List.of_mem_zip hm).1 with
    | inl q => exact .inl q
    | inr q => exact .inr ⟨q, PySem.W.cellsFrom_some _ _ _ (.inl q)⟩
  refine codeAny_call_function room.depth (inK _ _ lk) rfl S.co S.gen rfl (PySem.W.codeRec_of inK cd) (bd _ _ _ _ ?_)
  refine wpAny_newFunctionEnv_cells S.kind kinds fun e2 he s1 ic => ?_
  subst he
  obtain ⟨t, ht, ready⟩ := body cdv A outer s0 H vs Q E (room.deeper _) gd want
  have I0 : Inv (cxOf (L2.CX P w) P w K mg base N qual (defScope st) f cdv A outer s0 H E) [] (L2.start N vs) H s1 := inv_start S room.hd env count rel ic
  refine ⟨nolim.keeps ic.toInCall.keep, codeAny_func (wpAny_mono (ht.run [] s1 (L2.start N vs) H _ I0 ready) (fun fl s2 hs => ?_) fun e s2 hs => hs)⟩
  cases fl with
  | ret u =>
    obtain ⟨v, σ', H', J, rv, q⟩ := hs
    exact ⟨v, H', J.os, J.bare, J.base, J.hok, rv, q⟩
  | next =>
    obtain ⟨σ', H', J, q⟩ := hs
    exact ⟨V.non, H', J.os, J.bare, J.base, J.hok, rfl, q⟩
  | brk => exact (hs.elim fun _ z => z.elim fun _ z => z.2).elim
  | cont => exact (hs.elim fun _ z => z.elim fun _ z => z.2).elim

theorem fng_semD {P : Program} {w : World} {K : PySem.W.Frag} {mg : Str → Option Value} {base : Heap} {k : Nat} {f : Addr} {x qual : Str} {st : Stmt} {fd : FuncData} {N ps : List Str} {b : Sv}
    {dvs : List V} {kws : List (Str × V)} (F : FunD K x qual (defArgs st) (defBody st) (defScope st) dvs kws f fd) (S : FnScope N ps (defScope st))
    (body : ∀ (cdv : Value) (A : Around) (outer : List Env) (s : Shared) (H : Hp) (E : XK), Room k (A.deeper (envOfC qual (defScope st) s.heap.objs.size f cdv)) → A.guards = some [] →
      SSs (cxOf (L2.CX P w) P w K mg base N qual (defScope st) f cdv A outer s H E) (fun cls d _ H => E cls d H) (defBody st) b) :
    FnG P w K mg base (k + 1) f fd ps (spG K mg ps.length (runD N.length b)) := by
  refine fng_ofD F S (fun vs H Q E h => h.len) fun cdv A outer s H vs Q E hr hg h => ⟨_, body cdv A outer s H E hr hg, ?_⟩
  obtain ⟨ws, μ, α, F0, r, rv, q⟩ := h
  refine ⟨initR N.length ws, μ, α, F0, r, repE_start rv, ?_⟩
  unfold arity at q
  split at q
  · unfold runD at q
    show gp K mg α F0 H (b (initR N.length ws) μ) (GS K mg _ _) _
    cases z : b (initR N.length ws) μ with
    | bad =>
      rw [z] at q
      exact q
    | err x us μ' =>
      rw [z] at q
      exact q.elim
    | ok fl μ' =>
      rw [z] at q
      intro α' F' H' e r'
      cases fl with
      | rt w1 => exact fun v hv => gp_leave q r e r' hv
      | nx ρ' => exact fun σ' _ => gp_leave (w := .d .none) q r e r' .non
      | bk ρ' => exact q.elim
      | ct ρ' => exact q.elim
      | er y us ρ' =>
        intro σ' C d fs _ h1 h2 h3
        have q : gp K mg α F0 H (match allD us with
          | some c => .err y (c.map Wv.d) (μ'.take μ.length)
          | none => .bad) (Gw K Q) E := q
        cases hc : allD us with
        | none =>
          rw [hc] at q
          exact q.elim
        | some c =>
          rw [hc] at q
          obtain ⟨r2, e2⟩ := r'.drop e r.len
          rw [allD_map hc] at h3
          exact q α F' H' C d fs e2 r2 h1 h2 h3.data
  · exact q.elim
theorem fund_mk {K : PySem.W.Frag} {x qual : Str} {st : Stmt} {f T : Addr} {oc : Value} {od an oT : Option Addr} {osl sT : Array (Option Value)} {kV doc pm cdv ct : Value} {its : List Value} {nT : Nat} {dvs : List V} (l : K.lookup f = some ⟨oc, od, .func (PySem.W.fnOf x qual (defArgs st) (defBody st) (defScope st) (.ref T) kV doc pm an cdv ct), osl⟩)
    (lT : K.lookup T = some ⟨.type "tuple", oT, .seq its.toArray nT, sT⟩) (hd : dvs ≠ []) (r : Vals dvs its) (c : PySem.W.codeIn K cdv qual = true) (k : PySem.W.keepIn K (.ref f) = true) : FunD K x qual (defArgs st) (defBody st) (defScope st) dvs [] f (PySem.W.fnOf x qual (defArgs st) (defBody st) (defScope st) (.ref T) kV doc pm an cdv ct) :=
  ⟨⟨oc, od, .ref T, kV, doc, pm, an, cdv, ct, osl, rfl, l, c, .inr ⟨hd, T, _, its, nT, rfl, lT, rfl, r⟩, .inl rfl⟩, k⟩
/-- a def with defaults, its place and its promise; ws0: the defaults as values -/
structure HasD (P : Program) (w : World) (K : PySem.W.Frag) (mg : Str → Option Value) (base : Heap) (j : Nat) (x : Str) (ps : List Str) (n : Nat) (g : GF) (ws0 : List Wv) (f : Addr) (fd : FuncData) : Prop where
  m : mg x = some (.ref f)
  kp : PySem.W.keepIn K (.ref f) = true
  bA : Binds K fd ps []
  bD : ∃ dv ds, Vals dv ds ∧ Binds K fd ps ds ∧ ∀ α F, Rws K α F dv ws0
  G : FnG P w K mg base j f fd ps (spG K mg n g)
def cFD (ws0 : List Wv) (n : Nat) (g : GF) (as : Av) : Ev := fun ρ μ => (as ρ μ).bind fun ws μ1 => if (ws ++ ws0).length = n then g (ws ++ ws0) μ1 else .bad
@[simp] theorem x_cFD {ws0 : List Wv} {n : Nat} {g : GF} {as : Av} {ρ : Rho} {μ : Mu} : cFD ws0 n g as ρ μ = (as ρ μ).bind fun ws μ1 => if (ws ++ ws0).length = n then g (ws ++ ws0) μ1 else .bad := rfl
section
variable {X : Cx} {W : WX} {x : Str} {p pos : Pos} {e : Expr} {es : List Expr} {as : Av} {j k n : Nat} {ps : List Str} {g : GF} {f : Addr} {fd : FuncData} {ws0 : List Wv}
theorem xCallA (h : HasD X.prog X.w X.K X.mg X.base j x ps n g ws0 f fd) (hj : j ≤ k) (hr : Room k X.A) (hg : X.A.guards = some []) (tk : Takes X W) (gl : Gl X x) (ha : SA X W (e :: es) as)
    (hdb : (x == ("__debug__" : Str)) = false := by decide) (he : starEach (e :: es) X.env = (false, eval e X.env) :: starEach es X.env := by rfl) (hpl : (backTo pos (starEach es X.env)).any (·.1) = false := by rfl) :
    SE X W (.Call (.Name x p) (e :: es) [] pos) (cF n g as) := by
  have z := se_call (p := p) (pos := pos) (dv := []) (ds := []) (ws0 := []) (h.G.up hj) hr hg gl h.m h.kp h.bA .nil (fun _ _ => .nil) tk ha hdb he hpl
  have e : eCall (fun ws μ => arity n g (ws ++ []) μ) as = cF n g as := by
    unfold eCall cF arity
    simp only [List.append_nil]
  rw [e] at z
  exact z
theorem xCallD (h : HasD X.prog X.w X.K X.mg X.base j x ps n g ws0 f fd) (hj : j ≤ k) (hr : Room k X.A) (hg : X.A.guards = some []) (tk : Takes X W) (gl : Gl X x) (ha : SA X W (e :: es) as)
    (hdb : (x == ("__debug__" : Str)) = false := by decide) (he : starEach (e :: es) X.env = (false, eval e X.env) :: starEach es X.env := by rfl) (hpl : (backTo pos (starEach es X.env)).any (·.1) = false := by rfl) :
    SE X W (.Call (.Name x p) (e :: es) [] pos) (cFD ws0 n g as) := by
  obtain ⟨dv, ds, hv, hb, hw⟩ := h.bD
  exact se_call (p := p) (pos := pos) (dv := dv) (ds := ds) (ws0 := ws0) (h.G.up hj) hr hg gl h.m h.kp hb hv hw tk ha hdb he hpl
/-- a block within a block -/
theorem lookup_relabel {p : Str → NameKind → Bool} : ∀ {names : List (Str × NameKind)} {x : Str}, (names.lookup x = some .cell ∨ names.lookup x = some .free) →
    ((names.map fun (n, k) => if (k == .free && p n k) then (n, NameKind.cell) else (n, k)).lookup x = some .cell ∨ (names.map fun (n, k) => if (k == .free && p n k) then (n, NameKind.cell) else (n, k)).lookup x = some .free)
  | [], x, h => by simp at h
  | (n, k) :: r, x, h => by
    have ih := lookup_relabel (p := p) (names := r) (x := x)
    simp only [List.map_cons]
    by_cases hx : (x == n) = true
    · simp only [List.lookup_cons, hx, if_true] at h
      by_cases hc : (k == .free && p n k) = true
      · rw [if_pos hc]
        left
        simp [List.lookup_cons, hx]
      · rw [if_neg hc]
        simp only [List.lookup_cons, hx]
        exact h
    · have hx : (x == n) = false := by simpa using hx
      simp only [List.lookup_cons, hx] at h
      have ih := ih h
      by_cases hc : (k == .free && p n k) = true
      · rw [if_pos hc]
        simp only [List.lookup_cons, hx]
        exact ih
      · rw [if_neg hc]
        simp only [List.lookup_cons, hx]
        exact ih
theorem blkOk_bk {scope sc2 : Scope} {own : List (Str × Nat)} {s : Shared} {H : Hp} {C : Addr} {cl : List (Str × Addr)} {fp : List Addr} (h : blkC X.N scope sc2 own = true) : BlkOk (Bk X scope s H C cl fp).N (Bk X scope s H C cl fp).env.scope sc2 own := by
  have b := blkOk_by h
  refine ⟨b.kind, b.uniq, b.ix, fun y hy e => ?_, b.own⟩
  have q := lookup_relabel (p := fun n _ => X.env.scope.kind == .function && X.env.kindOf n == some .cell) (b.free y hy e)
  simp only [← Bool.and_assoc] at q
  exact q
/-- three targets at once -/
def sPar3 (i j l : Nat) (as : Av) : Sv := fun ρ μ => liftO ρ (as ρ μ) fun ws μ1 => match ws with
  | [w1, w2, w3] => .ok (.nx (((ρ.set i (some w1)).set j (some w2)).set l (some w3))) μ1
  | _ => .bad
theorem rws3 {K : PySem.W.Frag} {α : List Addr} {F : Hp} {vs : List V} {w1 w2 w3 : Wv} (h : Rws K α F vs [w1, w2, w3]) : ∃ v1 v2 v3, vs = [v1, v2, v3] ∧ Rw K α F v1 w1 ∧ Rw K α F v2 w2 ∧ Rw K α F v3 w3 := by
  cases h with
  | cons p q =>
    cases q with
    | cons p' q' =>
      cases q' with
      | cons p'' q'' =>
        cases q''
        exact ⟨_, _, _, rfl, p, p', p''⟩
theorem xPar3 (i j l : Nat) {y z : Str} {a b c : Expr} {px py pz pt : Pos} {kt k2 : Nat} {pt2 : Pos} (hc : X.calm = true) (hN : X.N.Nodup) (ha : SA X W [a, b, c] as) (hi : X.N[i]? = some x := by rfl) (hj : X.N[j]? = some y := by rfl) (hl : X.N[l]? = some z := by rfl) (hij : i ≠ j := by decide) (hil : i ≠ l := by decide) (hjl : j ≠ l := by decide)
    (hx : X.env.scope.names.lookup x = some .local := by rfl) (hy : X.env.scope.names.lookup y = some .local := by rfl) (hz : X.env.scope.names.lookup z = some .local := by rfl)
    (hw : swappedStores [.Tuple [.Name x px, .Name y py, .Name z pz] kt pt] (.Tuple [a, b, c] k2 pt2) X.env = pure (some [x, y, z]) := by rfl) (hs : swapsWithSole [.Tuple [.Name x px, .Name y py, .Name z pz] kt pt] (.Tuple [a, b, c] k2 pt2) pos.line X.env = pure false := by rfl) :
    SS X W (.Assign [.Tuple [.Name x px, .Name y py, .Name z pz] kt pt] (.Tuple [a, b, c] k2 pt2) pos) (sPar3 i j l as) := by
  refine (ps_par3 hc hN hi hj hl hij hil hjl hx hy hz ha hw hs).imp fun D σ H ⟨ρ, μ, α, F, r, re, q⟩ => ?_
  refine ⟨ρ, μ, α, F, r, re, (gp_lift re q).mono fun ws μ1 α1 F1 H1 x1 r1 q1 vs rv => ?_⟩
  split at q1
  · obtain ⟨v1, v2, v3, rfl, d1, d2, d3⟩ := rws3 rv
    exact ⟨v1, v2, v3, rfl, q1.now r1 _ ((((re.ext x1).set i d1).set j d2).set l d3)⟩
  · exact q1.elim
@[simp] theorem x_par3 {i j l : Nat} {ρ : Rho} {μ : Mu} : sPar3 i j l as ρ μ = liftO ρ (as ρ μ) fun ws μ1 => match ws with
  | [w1, w2, w3] => .ok (.nx (((ρ.set i (some w1)).set j (some w2)).set l (some w3))) μ1
  | _ => .bad := rfl
@[simp] theorem x_par {i j : Nat} {ρ : Rho} {μ : Mu} : sPar i j as ρ μ = liftO ρ (as ρ μ) fun ws μ1 => match ws with
  | [w1, w2] => .ok (.nx ((ρ.set i (some w1)).set j (some w2))) μ1
  | _ => .bad := rfl
end
end TL
/-! TL16: chains of comparisons; tables of the module; methods of texts. -/
namespace TL
open PySem PySem.Spec L2 PyProof.Rows RZ
section
variable {X : Cx} {W : WX} {x : Str} {p pos : Pos} {e : Expr} {es : List Expr} {as : Av}
/-- a op b op' c -/
def eChain (g g' : Wv → Wv → Mu → Out Wv) (a b c : Ev) : Ev := fun ρ μ => (a ρ μ).bind fun w μ1 => (b ρ μ1).bind fun u μ2 => (calm (g w u μ2)).bind fun z μ3 => (wB z μ3).bind fun k μ4 =>
  if k = true then (c ρ μ4).bind fun v μ5 => calm (g' u v μ5) else .ok (.d (.bool false)) μ4
@[simp] theorem x_chain {g g' : Wv → Wv → Mu → Out Wv} {a b c : Ev} {ρ : Rho} {μ : Mu} : eChain g g' a b c ρ μ = (a ρ μ).bind fun w μ1 => (b ρ μ1).bind fun u μ2 => (calm (g w u μ2)).bind fun z μ3 => (wB z μ3).bind fun k μ4 =>
  if k = true then (c ρ μ4).bind fun v μ5 => calm (g' u v μ5) else .ok (.d (.bool false)) μ4 := rfl
theorem chain_read {a b c : Expr} {g g' : Wv → Wv → Mu → Out Wv} {fa fb fc : Ev} {σ : St} {H : Hp} {Q : VK} (h : tE X.K X.mg W (eChain g g' fa fb fc) σ H Q) : tChain (r2G X.K X.mg g) (r2G X.K X.mg g') (tE X.K X.mg W fa) (tE X.K X.mg W fb) (tE X.K X.mg W fc) σ H Q := by
  obtain ⟨ρ, μ, α, F, r, re, q⟩ := h
  refine ⟨ρ, μ, α, F, r, re, q.bind.mono fun w μ1 α1 F1 H1 x1 r1 q1 v rv => ?_⟩
  refine ⟨ρ, μ1, α1, F1, r1, re.ext x1, q1.bind.mono fun u μ2 α2 F2 H2 x2 r2 q2 v' rv' => ?_⟩
  refine ⟨μ2, α2, F2, w, u, r2, rv.ext x2, rv', q2.bind.none.calm.mono fun z μ3 α3 F3 H3 x3 r3 q3 v3 rv3 => ?_⟩
  obtain ⟨k, rfl, rfl, q4⟩ := wB_ok q3.bind rv3
  refine ⟨k, rfl, ?_⟩
  have q5 := q4.now r3
  cases k with
  | false => exact q5.now r3 _ (.bl _)
  | true =>
    show tE X.K X.mg W fc σ H3 _
    refine ⟨ρ, μ3, α3, F3, r3, ((re.ext x1).ext x2).ext x3, (show gp X.K X.mg α3 F3 H3 ((fc ρ μ3).bind _) _ _ from q5).bind.mono fun v4 μ5 α5 F5 H5 x5 r5 q6 v5 rv5 => ?_⟩
    exact ⟨μ5, α5, F5, u, v4, r5, (rv'.ext x3).ext x5, rv5, q6.calm⟩
theorem xChain {a b c : Expr} {op op' : CmpOp} {g g' : Wv → Wv → Mu → Out Wv} {fa fb fc : Ev} (ho : OpR X (compareOp op) (r2G X.K X.mg g)) (ho' : OpR X (compareOp op') (r2G X.K X.mg g')) (ha : SE X W a fa) (hb : SE X W b fb) (hc : SE X W c fc)
    (hm : lastMarks [op, op'] [b, c] = false := by with_unfolding_all rfl) : SE X W (.Compare a [op, op'] [b, c] pos) (eChain g g' fa fb fc) :=
  (pe_chain ho ho' ha hb hc hm).imp fun σ H Q h => chain_read (a := a) (b := b) (c := c) h
theorem xtChain {a b c : Expr} {op op' : CmpOp} {g g' : Wv → Wv → Mu → Out Wv} {fa fb fc : Ev} (ho : OpR X (compareOp op) (r2G X.K X.mg g)) (ho' : OpR X (compareOp op') (r2G X.K X.mg g')) (ha : SE X W a fa) (hb : SE X W b fb) (hc : SE X W c fc)
    (hm : lastMarks [op, op'] [b, c] = false := by with_unfolding_all rfl) : ST X W (.Compare a [op, op'] [b, c] pos) (tB' (eChain g g' fa fb fc)) := by
  refine (pt_chain ho ho' ha hb hc hm).imp fun σ H Q ⟨ρ, μ, α, F, r, re, q⟩ => ?_
  refine chain_read (a := a) (b := b) (c := c) (W := W) ⟨ρ, μ, α, F, r, re, (show gp X.K X.mg α F H ((eChain g g' fa fb fc ρ μ).bind wB) _ _ from q).bind.mono fun z μ1 α1 F1 H1 x1 r1 q1 v rv => ?_⟩
  obtain ⟨k, rfl, rfl, q2⟩ := wB_ok q1 rv
  exact ⟨k, rfl, q2.now r1⟩

/-! ### tables of the module: texts to data -/
structure ConD (K : PySem.W.Frag) (mg : Str → Option Value) (w : World) (x : Str) (tbl : List (Str × PyData)) : Prop where
  ex : ∃ a es n, mg x = some (.ref a) ∧ KDict K w a es n ∧ ∀ z, (∃ c u v, tbl.lookup z = some c ∧ PySem.W.nsIn K a z = some (some u) ∧ RelV v u ∧ ∀ F, Dq K F v c) ∨ (tbl.lookup z = none ∧ PySem.W.nsIn K a z = some none)
theorem kdict_none {K : PySem.W.Frag} {w : World} {a : Addr} {es : Array DictEntry} {n : Nat} {ks : List Str} (D : KDict K w a es n) (hk : He.dicW K a = some (He.keysIn w.params ks)) {z : Str} (h : z ∉ ks) : PySem.W.nsIn K a z = some none := by
  have hk2 : es.toList.map He.keyOf = He.keysIn w.params ks := by
    unfold He.dicW at hk
    rw [D.at_] at hk
    simp only at hk
    split at hk
    · exact Option.some.inj hk
    · cases hk
  have key : ∀ (l : List DictEntry) (ks : List Str), l.map He.keyOf = He.keysIn w.params ks → z ∉ ks → l.find? (·.key.isStr z) = none ∧ l.any (·.refKey) = false := by
    intro l
    induction l with
    | nil => intro ks _ _; exact ⟨rfl, rfl⟩
    | cons d l ih =>
      intro ks e hz
      cases ks with
      | nil => cases e
      | cons k ks =>
        have e : He.keyOf d :: l.map He.keyOf = some (k, PyData.keyHash w.params k) :: He.keysIn w.params ks := e
        injection e with e1 e2
        obtain ⟨i1, i2⟩ := ih ks e2 fun m => hz (List.mem_cons_of_mem _ m)
        have hne : k ≠ z := fun e => hz (by rw [e]; exact List.mem_cons_self)
        unfold He.keyOf at e1
        split at e1
        · rename_i y t q
          have e3 := Option.some.inj e1
          obtain ⟨e4, _⟩ := Prod.mk.inj e3
          subst e4
          have s1 : d.key.isStr z = false := by
            rw [q]
            show (y == z) = false
            simpa using hne
          have s2 : d.refKey = false := by
            unfold DictEntry.refKey
            rw [q]
          exact ⟨by rw [List.find?_cons, s1]; exact i1, by rw [List.any_cons, s2]; exact i2⟩
        · cases e1
  obtain ⟨k1, k2⟩ := key _ _ hk2 h
  unfold PySem.W.nsIn
  rw [D.at_]
  simp only
  rw [k1, k2]
  rfl
theorem conD_mk {K : PySem.W.Frag} {mg : Str → Option Value} {w : World} {a : Addr} {tbl : List (Str × PyData)} (hm : mg x = some (.ref a)) (hk : He.dicW K a = some (He.keysIn w.params (tbl.map (·.1))))
    (hv : ∀ q ∈ tbl, ∃ u v, PySem.W.nsIn K a q.1 = some (some u) ∧ RelV v u ∧ ∀ F, Dq K F v q.2) : ConD K mg w x tbl := by
  obtain ⟨es, n, D⟩ := He.dicW_ok hk
  refine ⟨a, es, n, hm, D, fun z => ?_⟩
  have lk : ∀ (t : List (Str × PyData)) (c : PyData), t.lookup z = some c → (z, c) ∈ t := by
    intro t
    induction t with
    | nil => intro c h; cases h
    | cons q t ih =>
      intro c h
      rw [List.lookup_cons] at h
      by_cases hz : (z == q.1) = true
      · rw [hz] at h
        have : z = q.1 := by simpa using hz
        cases h
        rw [this]
        exact List.mem_cons_self
      · have hz : (z == q.1) = false := by simpa using hz
        rw [hz] at h
        exact List.mem_cons_of_mem _ (ih c h)
  have ln : ∀ (t : List (Str × PyData)), t.lookup z = none → z ∉ t.map (·.1) := by
    intro t
    induction t with
    | nil => intro _ h; cases h
    | cons q t ih =>
      intro h hm
      rw [List.lookup_cons] at h
      by_cases hz : (z == q.1) = true
      · rw [hz] at h; cases h
      · have hz : (z == q.1) = false := by simpa using hz
        rw [hz] at h
        rw [List.map_cons] at hm
        rcases List.mem_cons.mp hm with e | hm
        · rw [e] at hz; simp at hz
        · exact ih h hm
  cases hl : tbl.lookup z with
  | some c =>
    obtain ⟨u, v, h1, h2, h3⟩ := hv _ (lk _ _ hl)
    exact .inl ⟨c, u, v, rfl, h1, h2, h3⟩
  | none => exact .inr ⟨rfl, kdict_none D hk (ln _ hl)⟩
theorem dicW_lk {K : PySem.W.Frag} {P : Params} {a : Addr} {es : Array DictEntry} {n : Nat} {ks : List Str} (hl : K.lookup a = some ⟨.type "dict", none, .dict es n, #[]⟩) (hk : es.toList.map He.keyOf = He.keysIn P ks) (hs : (a == sysModules) = false) : He.dicW K a = some (He.keysIn P ks) := by
  unfold He.dicW
  rw [hl]
  simp [hs, hk]
theorem conD_mk2 {K : PySem.W.Frag} {mg : Str → Option Value} {w : World} {a : Addr} {es : Array DictEntry} {n : Nat} {tbl : List (Str × PyData)} (hm : mg x = some (.ref a)) (hl : K.lookup a = some ⟨.type "dict", none, .dict es n, #[]⟩) (hk : es.toList.map He.keyOf = He.keysIn w.params (tbl.map (·.1))) (hs : (a == sysModules) = false)
    (hv : ∀ q ∈ tbl, ∃ u v, PySem.W.nsIn K a q.1 = some (some u) ∧ RelV v u ∧ ∀ F, Dq K F v q.2) : ConD K mg w x tbl := conD_mk hm (dicW_lk hl hk hs) hv
def gInD (neg : Bool) (tbl : List (Str × PyData)) (w : Wv) (μ : Mu) : Out Wv := match w with
  | .d (.str z) => .ok (.d (.bool (if neg then !(tbl.lookup z).isSome else (tbl.lookup z).isSome))) μ
  | _ => .bad
def gItD (tbl : List (Str × PyData)) (w : Wv) (μ : Mu) : Out Wv := match w with
  | .d (.str z) => match tbl.lookup z with
    | some c => .ok (.d c) μ
    | none => .bad
  | _ => .bad
@[simp] theorem x_inD {neg : Bool} {tbl : List (Str × PyData)} {z : Str} {μ : Mu} : gInD neg tbl (.d (.str z)) μ = .ok (.d (.bool (if neg then !(tbl.lookup z).isSome else (tbl.lookup z).isSome))) μ := rfl
theorem x_itD {tbl : List (Str × PyData)} {z : Str} {c : PyData} {μ : Mu} (h : tbl.lookup z = some c) : gItD tbl (.d (.str z)) μ = .ok (.d c) μ := by
  unfold gItD
  simp only [h]
theorem dq_str {K : PySem.W.Frag} {F : Hp} {v : V} {z : Str} (h : Dq K F v (.str z)) : v = .str z := by
  cases h
  rfl
theorem xInD {tbl : List (Str × PyData)} {a : Expr} {px : Pos} {fa : Ev} (h : ConD X.K X.mg X.w x tbl) (hg : Gl X x) (ha : SE X W a fa) (hd : (x == ("__debug__" : Str)) = false := by decide) (hm : behindInMarks .In (.Name x px) = false := by first | rfl | exact nomark _) :
    SE X W (.Compare a [.In] [.Name x px] pos) (e1 (gInD false tbl) fa) := by
  obtain ⟨ad, es, n, hmg, D, hz⟩ := h.ex
  refine (pe_cmpR (op_in_kd D) ha (pe_glob (v := .ref ad) hg hmg rfl hd) hm).imp fun σ H Q ⟨ρ, μ, α, F, r, re, q⟩ => ?_
  refine ⟨ρ, μ, α, F, r, re, q.bind.mono fun w μ1 α1 F1 H1 x1 r1 q1 v rv => ?_⟩
  have q2 := q1.calm (X' := fun _ _ _ => False)
  unfold gInD at q2
  split at q2
  · rename_i z
    have e := dq_str rv
    subst e
    rcases hz z with ⟨c, u, v0, h1, h2, _, _⟩ | ⟨h1, h2⟩
    · exact ⟨z, _, rfl, rfl, h2, q2.now r1 _ (by rw [h1]; exact .bl _)⟩
    · exact ⟨z, _, rfl, rfl, h2, q2.now r1 _ (by rw [h1]; exact .bl _)⟩
  · exact q2.elim
theorem xNotInD {tbl : List (Str × PyData)} {a : Expr} {px : Pos} {fa : Ev} (h : ConD X.K X.mg X.w x tbl) (hg : Gl X x) (ha : SE X W a fa) (hd : (x == ("__debug__" : Str)) = false := by decide) (hm : behindInMarks .NotIn (.Name x px) = false := by first | rfl | exact nomark _) :
    SE X W (.Compare a [.NotIn] [.Name x px] pos) (e1 (gInD true tbl) fa) := by
  obtain ⟨ad, es, n, hmg, D, hz⟩ := h.ex
  refine (pe_cmpR (op_notIn_kd D) ha (pe_glob (v := .ref ad) hg hmg rfl hd) hm).imp fun σ H Q ⟨ρ, μ, α, F, r, re, q⟩ => ?_
  refine ⟨ρ, μ, α, F, r, re, q.bind.mono fun w μ1 α1 F1 H1 x1 r1 q1 v rv => ?_⟩
  have q2 := q1.calm (X' := fun _ _ _ => False)
  unfold gInD at q2
  split at q2
  · rename_i z
    have e := dq_str rv
    subst e
    rcases hz z with ⟨c, u, v0, h1, h2, _, _⟩ | ⟨h1, h2⟩
    · exact ⟨z, _, rfl, rfl, h2, q2.now r1 _ (by rw [h1]; exact .bl _)⟩
    · exact ⟨z, _, rfl, rfl, h2, q2.now r1 _ (by rw [h1]; exact .bl _)⟩
  · exact q2.elim
theorem xtInD {tbl : List (Str × PyData)} {a : Expr} {px : Pos} {fa : Ev} (h : ConD X.K X.mg X.w x tbl) (hg : Gl X x) (ha : SE X W a fa) (hd : (x == ("__debug__" : Str)) = false := by decide) (hm : behindInMarks .In (.Name x px) = false := by first | rfl | exact nomark _) :
    ST X W (.Compare a [.In] [.Name x px] pos) (tB' (e1 (gInD false tbl) fa)) := by
  obtain ⟨ad, es, n, hmg, D, hz⟩ := h.ex
  refine (pt_cmpR (op_in_kd D) ha (pe_glob (v := .ref ad) hg hmg rfl hd) hm).imp fun σ H Q ⟨ρ, μ, α, F, r, re, q⟩ => ?_
  refine ⟨ρ, μ, α, F, r, re, q.bind.bind.mono fun w μ1 α1 F1 H1 x1 r1 q1 v rv => ?_⟩
  have q2 := q1.calm (X' := fun _ _ _ => False)
  cases w with
  | r k => exact q2.elim
  | t ds => exact q2.elim
  | d y =>
    cases y with
    | str z =>
      have e := dq_str rv
      subst e
      rw [x_inD] at q2
      have q3 := q2.now r1
      rw [x_wB] at q3
      have q4 := q3.now r1
      rcases hz z with ⟨c, u, v0, h1, h2, _, _⟩ | ⟨h1, h2⟩
      · exact ⟨z, _, rfl, rfl, h2, _, rfl, by rw [h1] at q4; exact q4⟩
      · exact ⟨z, _, rfl, rfl, h2, _, rfl, by rw [h1] at q4; exact q4⟩
    | _ => exact q2.elim
theorem xtNotInD {tbl : List (Str × PyData)} {a : Expr} {px : Pos} {fa : Ev} (h : ConD X.K X.mg X.w x tbl) (hg : Gl X x) (ha : SE X W a fa) (hd : (x == ("__debug__" : Str)) = false := by decide) (hm : behindInMarks .NotIn (.Name x px) = false := by first | rfl | exact nomark _) :
    ST X W (.Compare a [.NotIn] [.Name x px] pos) (tB' (e1 (gInD true tbl) fa)) := by
  obtain ⟨ad, es, n, hmg, D, hz⟩ := h.ex
  refine (pt_cmpR (op_notIn_kd D) ha (pe_glob (v := .ref ad) hg hmg rfl hd) hm).imp fun σ H Q ⟨ρ, μ, α, F, r, re, q⟩ => ?_
  refine ⟨ρ, μ, α, F, r, re, q.bind.bind.mono fun w μ1 α1 F1 H1 x1 r1 q1 v rv => ?_⟩
  have q2 := q1.calm (X' := fun _ _ _ => False)
  cases w with
  | r k => exact q2.elim
  | t ds => exact q2.elim
  | d y =>
    cases y with
    | str z =>
      have e := dq_str rv
      subst e
      rw [x_inD] at q2
      have q3 := q2.now r1
      rw [x_wB] at q3
      have q4 := q3.now r1
      rcases hz z with ⟨c, u, v0, h1, h2, _, _⟩ | ⟨h1, h2⟩
      · exact ⟨z, _, rfl, rfl, h2, _, rfl, by rw [h1] at q4; exact q4⟩
      · exact ⟨z, _, rfl, rfl, h2, _, rfl, by rw [h1] at q4; exact q4⟩
    | _ => exact q2.elim
theorem xItD {tbl : List (Str × PyData)} {b : Expr} {px : Pos} {fb : Ev} (h : ConD X.K X.mg X.w x tbl) (hg : Gl X x) (hb : SE X W b fb) (hd : (x == ("__debug__" : Str)) = false := by decide) (hs : PlainIx b := by intro _ _; rfl) :
    SE X W (.Subscript (.Name x px) b pos) (e1 (gItD tbl) fb) := by
  obtain ⟨ad, es, n, hmg, D, hz⟩ := h.ex
  refine (pe_ix ix_kdict (pe_glob (v := .ref ad) hg hmg rfl hd) hb hs).imp fun σ H Q ⟨ρ, μ, α, F, r, re, q⟩ => ?_
  refine ⟨ρ, μ, α, F, r, re, q.bind.mono fun w μ1 α1 F1 H1 x1 r1 q1 v rv => ?_⟩
  have q2 := q1.calm (X' := fun _ _ _ => False)
  unfold gItD at q2
  split at q2
  · rename_i z
    have e := dq_str rv
    subst e
    split at q2
    · rename_i c hc
      rcases hz z with ⟨c', u, v0, h1, h2, h3, h4⟩ | ⟨h1, h2⟩
      · rw [hc] at h1
        cases h1
        exact ⟨ad, z, v0, rfl, rfl, ⟨es, n, u, D.at_, D.lit, h2, h3⟩, q2.now r1 _ (h4 _)⟩
      · rw [hc] at h1; cases h1
    · exact q2.elim
  · exact q2.elim
def gGetD (tbl : List (Str × PyData)) (w u : Wv) (μ : Mu) : Out Wv := match w with
  | .d (.str z) => match tbl.lookup z with
    | some c => .ok (.d c) μ
    | none => .ok u μ
  | _ => .bad
theorem xGetD {tbl : List (Str × PyData)} {f : Expr} {px apos cpos : Pos} {fe ff : Ev} (h : ConD X.K X.mg X.w x tbl) (hg : Gl X x) (he : SE X W e fe) (hf : SE X W f ff) (hd : (x == ("__debug__" : Str)) = false := by decide) (m : M2 X (.Name x px) "get" apos e f cpos := by exact ⟨rfl, rfl, rfl, rfl⟩) :
    SE X W (.Call (.Attribute (.Name x px) "get" apos) [e, f] [] cpos) (e2 (gGetD tbl) fe ff) := by
  obtain ⟨ad, es, n, hmg, D, hz⟩ := h.ex
  refine ⟨fun pins s σ H Q I h => ?_⟩
  obtain ⟨ρ, μ, α, F, r, re, q⟩ := h
  refine wpAny_Call_method m.base m.few m.line PySem.F.plainAttrs_dict PySem.F.slot_dict_get PySem.F.type_dict_get (thn ((pe_glob (v := .ref ad) hg hmg rfl hd).run pins s σ H (fun v H1 => v = .ref ad ∧ H1 = H) I ⟨rfl, rfl⟩) fun u s1 ⟨x, H1, I1, rx, ex, eh⟩ => ?_)
  subst ex eh
  obtain rfl : u = Value.ref ad := rx
  refine ⟨kd_type D I1, fun b hb => ?_, ?_⟩
  · cases hb
    exact ⟨_, I1.kIn _ _ D.at_, rfl⟩
  · rw [m.trees]
    refine Calls.callWith_builtin rfl (Calls.evalArgs_plain (Calls.spliced_cons (thn (he.run pins s1 σ H1 (fun v H2 => tE X.K X.mg W ff σ H2 fun v2 H3 => ∃ μ α F w1 w2, Rep X.K α F μ H3 ∧ Rw X.K α F v w1 ∧ Rw X.K α F v2 w2 ∧ gp X.K X.mg α F H3 (gGetD tbl w1 w2 μ) (Gw X.K Q) (fun _ _ _ => False)) I1 ?_) fun iv s2 ⟨y, H2, I2, ry, q2⟩ =>
      Calls.spliced_cons (thn (hf.run pins s2 σ H2 _ I2 q2) fun fv s3 ⟨z, H3, I3, rz, q3⟩ => Calls.spliced_nil ?_))))
    · refine ⟨ρ, μ, α, F, r, re, q.bind.mono fun w μ1 α1 F1 H1 x1 r1 q1 v rv => ?_⟩
      refine ⟨ρ, μ1, α1, F1, r1, re.ext x1, q1.bind.mono fun u μ2 α2 F2 H2 x2 r2 q2 v' rv' => ?_⟩
      exact ⟨μ2, α2, F2, w, u, r2, rv.ext x2, rv', q2.calm⟩
    · obtain ⟨μ3, α3, F3, w1, w2, r3, k1, k2, q4⟩ := q3
      unfold gGetD at q4
      split at q4
      · rename_i zz
        have e := dq_str k1
        subst e
        obtain ⟨t, rfl⟩ := ry
        have hmap := PySem.W.mapOf_K (prog := X.prog) (w := X.w) I3.kIn D.at_ D.lit
        rcases hz zz with ⟨c, u0, v0, h1, h2, h3, h4⟩ | ⟨h1, h2⟩
        · rw [h1] at q4
          refine call_meetsIn PySem.F.slot_dict_get hmap.typeIs PySem.F.entry_dict_get (PySem.F.args_dict_get_3 _ _ _) (meets_dict_get_default (strKind X.prog X.w) ad (strKind_is X.prog X.w zz t) D.low fv) ⟨_, hmap, ?_⟩
          rw [PySem.W.find_K D.at_ h2]
          exact ⟨v0, H3, I3.tok _, h3, q4.now r3 _ (h4 _)⟩
        · rw [h1] at q4
          refine call_meetsIn PySem.F.slot_dict_get hmap.typeIs PySem.F.entry_dict_get (PySem.F.args_dict_get_3 _ _ _) (meets_dict_get_default (strKind X.prog X.w) ad (strKind_is X.prog X.w zz t) D.low fv) ⟨_, hmap, ?_⟩
          rw [PySem.W.find_K D.at_ h2]
          exact ⟨z, H3, I3.tok _, rz, q4.now r3 _ k2⟩
      · exact q4.elim
/-! ### methods of texts, of one text -/
def gStr1 (g : Str → Str → PyData) (w u : Wv) (μ : Mu) : Out Wv := match w, u with
  | .d (.str a), .d (.str b) => .ok (.d (g a b)) μ
  | _, _ => .bad
/-- o.m(e), where o is known to be a text -/
def eStr1 (g : Str → Str → PyData) (o a : Ev) : Ev := fun ρ μ => (o ρ μ).bind fun w μ1 => match w with
  | .d (.str x) => (a ρ μ1).bind fun u μ2 => calm (gStr1 g (.d (.str x)) u μ2)
  | _ => .bad
theorem se_str1 {id : String} {name : Str} {gv : Str → Str → V} {gd : Str → Str → PyData} {o : Expr} {apos cpos : Pos} {fo fe : Ev} (pa : PlainAttrs "str") (slot : Slot "str" name id) (hty : typeOf (.builtin id) = pure (.type "method_descriptor"))
    (hm : MtR X id (fun x xs H Q => ∃ a b, x = .str a ∧ xs = [.str b] ∧ Q (gv a b) H)) (hd : ∀ F a b, Dq X.K F (gv a b) (gd a b)) (ho : SE X W o fo) (he : SE X W e fe)
    (hbase : attributeBase o name X.env (eval o X.env) = eval o X.env := by rfl)
    (hfew : ((backTo cpos (starEach [e] X.env)).all (fun x => !x.1) && (backToKw cpos (keywordEach [] X.env)).all (fun x => x.1.isSome) && decide ([e].length + ([] : List Keyword).length + (if ([] : List Keyword).isEmpty then 0 else 1) < 30)) = true := by rfl)
    (hline : (apos.endLine == cpos.line) = true := by rfl) (hs : starEach [e] X.env = (false, eval e X.env) :: starEach [] X.env := by rfl) (hplain : (backTo cpos (starEach [] X.env)).any (·.1) = false := by rfl) :
    SE X W (.Call (.Attribute o name apos) [e] [] cpos) (eStr1 gd fo fe) := by
  refine (pe_bm pa slot hty hm ho (sa_cons he sa_nil hs) hbase hfew hline hs hplain).imp fun σ H Q ⟨ρ, μ, α, F, r, re, q⟩ => ?_
  refine ⟨ρ, μ, α, F, r, re, q.bind.mono fun w μ1 α1 F1 H1 x1 r1 q1 v rv => ?_⟩
  split at q1
  · rename_i z
    have ev := dq_str rv
    subst ev
    refine ⟨rfl, ρ, μ1, α1, F1, r1, re.ext x1, ?_⟩
    show gp X.K X.mg α1 F1 H1 ((fe ρ μ1).bind fun w μ1 => (aNil ρ μ1).bind fun ws μ2 => .ok (w :: ws) μ2) _ _
    have q2 := q1.bind
    cases hfe : fe ρ μ1 with
    | bad => rw [hfe] at q2; exact q2
    | err y ws μ' => rw [hfe] at q2; exact q2
    | ok u μ2 =>
      rw [hfe] at q2
      intro α2 F2 H2 x2 r2 us rus
      cases rus with
      | cons ru t =>
        cases t
        have q3 := (q2.at x2 r2).calm (X' := fun _ _ _ => False)
        cases u with
        | r k => exact q3.elim
        | t ds => exact q3.elim
        | d y =>
          cases y with
          | str b =>
            have eu := dq_str ru
            subst eu
            have q4 : gp X.K X.mg α2 F2 H2 (Out.ok (Wv.d (gd z b)) μ2) (Gw X.K Q) (fun _ _ _ => False) := q3
            exact ⟨z, b, rfl, rfl, q4.now r2 _ (hd _ _ _)⟩
          | _ => exact q3.elim
  · exact q1.elim
theorem xStarts {o : Expr} {apos cpos : Pos} {fo fe : Ev} (ho : SE X W o fo) (he : SE X W e fe)
    (hbase : attributeBase o "startswith" X.env (eval o X.env) = eval o X.env := by rfl)
    (hfew : ((backTo cpos (starEach [e] X.env)).all (fun x => !x.1) && (backToKw cpos (keywordEach [] X.env)).all (fun x => x.1.isSome) && decide ([e].length + ([] : List Keyword).length + (if ([] : List Keyword).isEmpty then 0 else 1) < 30)) = true := by rfl)
    (hline : (apos.endLine == cpos.line) = true := by rfl) (hs : starEach [e] X.env = (false, eval e X.env) :: starEach [] X.env := by rfl) (hplain : (backTo cpos (starEach [] X.env)).any (·.1) = false := by rfl) :
    SE X W (.Call (.Attribute o "startswith" apos) [e] [] cpos) (eStr1 (fun a b => .bool (Txt.startswith a b)) fo fe) :=
  se_str1 PySem.F.plainAttrs_str PySem.F.slot_str_startswith PySem.F.type_str_startswith mt_startswith (fun _ _ _ => .bl _) ho he hbase hfew hline hs hplain
end
end TL
/-! TL17: tuples that a display has made, known to their objects; t.index(text). -/
namespace TL
open PySem PySem.Spec L2 PyProof.Rows RZ
section
variable {X : Cx} {W : WX} {x : Str} {p pos : Pos} {e : Expr} {es : List Expr} {as : Av}
def tTupX (t : TA) : TE := fun σ H Q => t σ H fun xs H1 => xs.length ≤ sizeLine ∧ ∀ p o, H1 p = none → o.cls = .type "tuple" → o.dict = none → Q (.ref p) (upd H1 p (.frz o (.tup xs)))
theorem pe_tupX {x1} {t : TA} (h : PA X es t) : PE X (.Tuple es x1 pos) (tTupX t) := by
  refine ⟨fun pins s σ H Q I hq => ?_⟩
  refine wpAny_Tuple_spliced (thn (h.run pos pins s σ H _ I hq) fun us s1 ⟨xs, H1, I1, r, z, q⟩ => ⟨by rw [← r.length]; exact z, ?_⟩)
  have hf : H1 s1.heap.objs.size = none := I1.hok.fresh (Nat.le_refl _)
  refine ⟨.ref s1.heap.objs.size, upd H1 s1.heap.objs.size (.frz { cls := .type "tuple", data := .seq us.toArray } (.tup xs)), I1.laid (t' := s1.toks) (fun b u e => Heap.get?_push_of_some _ e) (Nat.le_refl _) ?_, rfl, q _ _ hf rfl rfl⟩
  exact ⟨Heap.get?_push_size _ rfl, z, us, r, ⟨_, Heap.get?_push_size _ rfl, rfl, _, rfl⟩⟩
def eTupX (as : Av) : Ev := fun ρ μ => (lDisp as ρ μ).bind fun c μ1 => .ok (.t c) μ1
@[simp] theorem x_tupX {as : Av} {ρ : Rho} {μ : Mu} : eTupX as ρ μ = (lDisp as ρ μ).bind fun c μ1 => .ok (.t c) μ1 := rfl
theorem xTupX {x1} (h : SA X W es as) : SE X W (.Tuple es x1 pos) (eTupX as) := by
  refine (pe_tupX h).imp fun σ H Q ⟨ρ, μ, α, F, r, re, q⟩ => ?_
  refine ⟨ρ, μ, α, F, r, re, q.bind.bind.mono fun ws μ1 α1 F1 H1 x1 r1 q1 vs rvs => ?_⟩
  cases e : allD ws with
  | none =>
    rw [e] at q1
    exact q1.elim
  | some c =>
    rw [e] at q1
    have dq := allD_ok e rvs
    by_cases hl : c.length ≤ 16777216
    · have q2 : gp X.K X.mg α1 F1 H1 ((if c.length ≤ 16777216 then Out.ok c μ1 else .bad).bind fun c μ1 => .ok (.t c) μ1) (Gw X.K Q) (fun c d H' => W c d σ H') := by
        cases z : (if c.length ≤ 16777216 then Out.ok c μ1 else .bad) with
        | ok c' μ' =>
          have : gp X.K X.mg α1 F1 H1 (if c.length ≤ 16777216 then Out.ok c μ1 else .bad) _ _ := q1
          rw [z] at this
          exact fun α' F' H' e r => gp.now (this α' F' H' e r) r
        | err x ws μ' =>
          rw [if_pos hl] at z
          cases z
        | bad =>
          rw [if_pos hl] at z
          cases z
      rw [if_pos hl] at q2
      refine ⟨by rw [dq.length]; exact le_line hl, fun p o hp hc hd => ?_⟩
      obtain ⟨r2, x2⟩ := r1.new (o := .frz o (.tup vs)) hp
      exact q2.at x2 r2 _ ⟨p, o, vs, rfl, upd_same, hc, hd, dq.mono x2.fro⟩
    · have : gp X.K X.mg α1 F1 H1 (if c.length ≤ 16777216 then Out.ok c μ1 else .bad) _ _ := q1
      rw [if_neg hl] at this
      exact this.elim
/-- such a tuple, read as data -/
def eUn (f : Ev) : Ev := fun ρ μ => (f ρ μ).bind fun w μ1 => match w with
  | .t xs => .ok (.d (.tuple xs)) μ1
  | _ => .bad
@[simp] theorem x_un {f : Ev} {ρ : Rho} {μ : Mu} : eUn f ρ μ = (f ρ μ).bind fun w μ1 => match w with
  | .t xs => .ok (.d (.tuple xs)) μ1
  | _ => .bad := rfl
theorem xUn {f : Ev} (h : SE X W e f) : SE X W e (eUn f) := by
  refine PE.imp h fun σ H Q ⟨ρ, μ, α, F, r, re, q⟩ => ?_
  refine ⟨ρ, μ, α, F, r, re, q.bind.mono fun w μ1 α1 F1 H1 x1 r1 q1 v rv => ?_⟩
  split at q1
  · obtain ⟨a, o, vs, rfl, h1, h2, h3, h4⟩ := rv
    exact q1.now r1 _ (.tup (.inl (.inr ⟨o, h1⟩)) h4)
  · exact q1.elim
def txts : List PyData → Option (List Str)
  | [] => some []
  | .str x :: r => (txts r).map (x :: ·)
  | _ => none
def ixO (z : Str) : List Str → Option Nat
  | [] => none
  | y :: r => if y = z then some 0 else (ixO z r).map (· + 1)
theorem ixO_ok {z : Str} : ∀ {ys : List Str} {j : Nat}, ixO z ys = some j → ys[j]? = some z ∧ ∀ m, m < j → ys[m]? ≠ some z
  | [], j, h => by cases h
  | y :: r, j, h => by
    unfold ixO at h
    by_cases e : y = z
    · rw [if_pos e] at h
      cases h
      exact ⟨by rw [e]; rfl, fun m hm => by omega⟩
    · rw [if_neg e] at h
      obtain ⟨i, hi, rfl⟩ := Option.map_eq_some_iff.mp h
      obtain ⟨h1, h2⟩ := ixO_ok hi
      refine ⟨by simpa using h1, fun m hm => ?_⟩
      cases m with
      | zero =>
        intro q
        exact e (by simpa using q)
      | succ m =>
        have := h2 m (by omega)
        simpa using this
theorem txts_ok {K : PySem.W.Frag} {F : Hp} : ∀ {xs : List PyData} {ys : List Str} {vs : List V}, txts xs = some ys → DqAll K F vs xs → vs = ys.map V.str
  | [], ys, vs, h, d => by
    cases h
    cases d
    rfl
  | .str x :: r, ys, vs, h, d => by
    unfold txts at h
    obtain ⟨zs, hz, rfl⟩ := Option.map_eq_some_iff.mp h
    cases d with
    | cons a b =>
      rw [dq_str a, txts_ok hz b]
      rfl
  | .none :: r, ys, vs, h, d => by cases h
  | .bool _ :: r, ys, vs, h, d => by cases h
  | .int _ :: r, ys, vs, h, d => by cases h
  | .list _ :: r, ys, vs, h, d => by cases h
  | .tuple _ :: r, ys, vs, h, d => by cases h
  | .dict _ :: r, ys, vs, h, d => by cases h
def gIdx (xs : List PyData) (u : Wv) (μ : Mu) : Out Wv := match u, txts xs with
  | .d (.str z), some ys => match ixO z ys with
    | some j => .ok (.d (.int (j : Int))) μ
    | none => .bad
  | _, _ => .bad
/-- o.index(e) -/
def eIdx (o a : Ev) : Ev := fun ρ μ => (o ρ μ).bind fun w μ1 => match w with
  | .t xs => (a ρ μ1).bind fun u μ2 => calm (gIdx xs u μ2)
  | _ => .bad
@[simp] theorem x_idx {o a : Ev} {ρ : Rho} {μ : Mu} : eIdx o a ρ μ = (o ρ μ).bind fun w μ1 => match w with
  | .t xs => (a ρ μ1).bind fun u μ2 => calm (gIdx xs u μ2)
  | _ => .bad := rfl
theorem xIdx {o : Expr} {apos cpos : Pos} {fo fe : Ev} (ho : SE X W o fo) (he : SE X W e fe)
    (hbase : attributeBase o "index" X.env (eval o X.env) = eval o X.env := by rfl)
    (hfew : ((backTo cpos (starEach [e] X.env)).all (fun x => !x.1) && (backToKw cpos (keywordEach [] X.env)).all (fun x => x.1.isSome) && decide ([e].length + ([] : List Keyword).length + (if ([] : List Keyword).isEmpty then 0 else 1) < 30)) = true := by rfl)
    (hline : (apos.endLine == cpos.line) = true := by rfl) (hs : starEach [e] X.env = (false, eval e X.env) :: starEach [] X.env := by rfl) (hplain : (backTo cpos (starEach [] X.env)).any (·.1) = false := by rfl) :
    SE X W (.Call (.Attribute o "index" apos) [e] [] cpos) (eIdx fo fe) := by
  refine ⟨fun pins s σ H Q I ⟨ρ, μ, α, F, r, re, q⟩ => ?_⟩
  refine wpAny_Call_method_late hbase hfew hline rfl (thn (ho.run pins s σ H (fun v H1 => ∃ a o vs xs μ1 α1 F1, v = .ref a ∧ F1 a = some (.frz o (.tup vs)) ∧ o.cls = .type "tuple" ∧ o.dict = none ∧ DqAll X.K F1 vs xs ∧ Rep X.K α1 F1 μ1 H1 ∧ RepE X.K α1 F1 ρ σ ∧ gp X.K X.mg α1 F1 H1 ((fe ρ μ1).bind fun u μ2 => calm (gIdx xs u μ2)) (Gw X.K Q) (fun c d H' => W c d σ H')) I ?_) fun v s1 ⟨y, H1, I1, ry, a, ob, vs, xs, μ1, α1, F1, ey, h1, h2, h3, h4, r1, re1, q1⟩ => ?_)
  · refine ⟨ρ, μ, α, F, r, re, q.bind.mono fun w μ1 α1 F1 H1 x1 r1 q1 v rv => ?_⟩
    split at q1
    · obtain ⟨a, o, vs, rfl, h1, h2, h3, h4⟩ := rv
      exact ⟨a, o, vs, _, μ1, α1, F1, rfl, h1, h2, h3, h4, r1, re.ext x1, q1⟩
    · exact q1.elim
  · subst ey
    cases ry
    obtain ⟨eg, _⟩ := I1.hok _ _ (r1.sub _ _ h1)
    refine ⟨"tuple", "tuple.index", PySem.F.plainAttrs_tuple, PySem.F.slot_tuple_index, PySem.F.type_tuple_index, ⟨ob, eg, h2⟩, fun b eb => by cases eb; exact ⟨ob, eg, h3⟩, ?_⟩
    have hA := (pa_cons he pa_nil hs).run cpos pins s1 σ H1 (fun us H2 => ∃ u, us = [u] ∧ ∃ μ2 α2 F2 w, Rep X.K α2 F2 μ2 H2 ∧ Ext α1 F1 H1 α2 F2 H2 ∧ Rw X.K α2 F2 u w ∧ gp X.K X.mg α2 F2 H2 (calm (gIdx xs w μ2)) (Gw X.K Q) (fun c d H' => W c d σ H')) I1 ⟨ρ, μ1, α1, F1, r1, re1, q1.bind.mono fun w μ2 α2 F2 H2 x2 r2 q2 v rv => ⟨v, rfl, μ2, α2, F2, w, r2, x2, rv, q2⟩⟩
    rw [hs] at hA ⊢
    refine Calls.callWith_builtin (by show (false || (backTo cpos (starEach [] X.env)).any (·.1)) = false; rw [hplain] <;> rfl) (Calls.evalArgs_plain ?_)
    refine thn hA fun us s2 ⟨vs2, H2, I2, r3, u, eu, μ2, α2, F2, w, r2, x2, rw_, q2⟩ => ?_
    subst eu
    have q3 := q2.calm (X' := fun _ _ _ => False)
    unfold gIdx at q3
    split at q3
    · rename_i z ys ez
      have e := dq_str rw_
      subst e
      split at q3
      · rename_i j ej
        have ev := txts_ok ez h4
        subst ev
        obtain ⟨k1, k2⟩ := ixO_ok ej
        exact mt_tup_index pins s2 σ H2 (.ref a) [.str z] (.ref a) us Q I2 rfl r3 ⟨a, ys, z, j, rfl, rfl, .inl (.inr ⟨ob, r2.sub _ _ (x2.fro _ _ h1)⟩), k1, k2, q3.now r2 _ (.int _)⟩
      · exact q3.elim
    · exact q3.elim
end
end TL
/-! TL18: a, b = x, y by the tuple that the display lays (names that comprehensions read, places of cells). -/
namespace TL
open PySem PySem.Spec L2 PyProof.Rows RZ
section
variable {X : Cx} {W : WX} {x : Str} {p pos : Pos} {e : Expr} {es : List Expr} {as : Av}
/-- the items one after another into the targets -/
def sAsgT (as : Av) (ts : List Gv) : Sv := fun ρ μ => liftO ρ (as ρ μ) fun ws μ1 => if ws.length ≤ 1000 ∧ ws.length = ts.length then (calm (gSeq ts ws ρ μ1)).bind fun ρ' μ2 => .ok (.nx ρ') μ2 else .bad
@[simp] theorem x_asgT {as : Av} {ts : List Gv} {ρ : Rho} {μ : Mu} : sAsgT as ts ρ μ = liftO ρ (as ρ μ) fun ws μ1 => if ws.length ≤ 1000 ∧ ws.length = ts.length then (calm (gSeq ts ws ρ μ1)).bind fun ρ' μ2 => .ok (.nx ρ') μ2 else .bad := rfl
theorem xAsgT {tes : List Expr} {k k2 : Nat} {tpos epos : Pos} {ts : List Gv} (ha : SA X W es as) (hc : X.calm = true) (h : SGs X tes ts) (hn : (assignEach tes X.env).length = ts.length := by rfl) (hst : (assignEach tes X.env).findIdx? (·.1) = none := by rfl)
    (hs : swapsWithSole [.Tuple tes k tpos] (.Tuple es k2 epos) pos.line X.env = pure false := by rfl) (hw : swappedStores [.Tuple tes k tpos] (.Tuple es k2 epos) X.env = pure none := by rfl)
    (h1 : (assignEach [.Tuple tes k tpos] X.env).map (·.2) = [assign (.Tuple tes k tpos) X.env] := by rfl) : SS X W (.Assign [.Tuple tes k tpos] (.Tuple es k2 epos) pos) (sAsgT as ts) := by
  refine (ps_asg (pe_tup ha) (pg_tup hc h hn hst) hs hw h1).imp fun D σ H ⟨ρ, μ, α, F, r, re, q⟩ => ?_
  refine ⟨ρ, μ, α, F, r, re, (gp_lift re q).mono fun ws μ1 α1 F1 H1 x1 r1 q1 vs rvs => ?_⟩
  have hlen : vs.length = ws.length := rvs.length
  split at q1
  · rename_i hl
    refine ⟨by rw [hlen, sizeLine_eq]; omega, fun p hp => ?_⟩
    obtain ⟨r2, x2⟩ := r1.side (o := .tup vs) hp
    refine ⟨p, vs, rfl, .inl (.inl upd_same), by rw [hlen, hl.2], ρ, μ1, α1, F1, ws, r2, (re.ext x1).ext x2, rvs.ext x2, ?_⟩
    have q2 := q1.keep x2
    exact q2.calm.mono fun ρ' μ2 α2 F2 H2 x3 r3 q3 σ' re' => q3.at (x2.trans x3) r3 σ' re'
  · exact q1.elim
end
end TL
/-! MD: determinants of whole numbers, from nothing: expansion by the first column, rows, Schur's step, exact elimination. -/
namespace LW
def sg (i : Nat) : Int := if i % 2 = 0 then 1 else -1
theorem sg_succ (i : Nat) : sg (i + 1) = - sg i := by
  unfold sg
  by_cases h : i % 2 = 0
  · rw [if_pos h, if_neg (by omega)]
  · rw [if_neg h, if_pos (by omega)]
    rfl
def sumN : Nat → (Nat → Int) → Int
  | 0, _ => 0
  | n + 1, f => sumN n f + f n
theorem sumN_congr {f g : Nat → Int} : ∀ {n : Nat}, (∀ i, i < n → f i = g i) → sumN n f = sumN n g
  | 0, _ => rfl
  | n + 1, h => by
    show sumN n f + f n = sumN n g + g n
    rw [sumN_congr fun i hi => h i (by omega), h n (by omega)]
theorem sumN_lin {f g : Nat → Int} {x y : Int} : ∀ n : Nat, sumN n (fun i => x * f i + y * g i) = x * sumN n f + y * sumN n g
  | 0 => by simp [sumN]
  | n + 1 => by
    show sumN n (fun i => x * f i + y * g i) + (x * f n + y * g n) = x * (sumN n f + f n) + y * (sumN n g + g n)
    rw [sumN_lin n]
    grind
theorem sumN_mul {f : Nat → Int} {x : Int} : ∀ n : Nat, sumN n (fun i => x * f i) = x * sumN n f
  | 0 => by simp [sumN]
  | n + 1 => by
    show sumN n (fun i => x * f i) + x * f n = x * (sumN n f + f n)
    rw [sumN_mul n]
    grind
theorem sumN_neg {f : Nat → Int} : ∀ n : Nat, sumN n (fun i => - f i) = - sumN n f
  | 0 => rfl
  | n + 1 => by
    show sumN n (fun i => - f i) + - f n = - (sumN n f + f n)
    rw [sumN_neg n]
    omega
theorem sumN_zero {f : Nat → Int} : ∀ {n : Nat}, (∀ i, i < n → f i = 0) → sumN n f = 0
  | 0, _ => rfl
  | n + 1, h => by
    show sumN n f + f n = 0
    rw [sumN_zero fun i hi => h i (by omega), h n (by omega)]
    rfl
theorem sumN_head {f : Nat → Int} : ∀ n : Nat, sumN (n + 1) f = f 0 + sumN n fun i => f (i + 1)
  | 0 => by
    show 0 + f 0 = f 0 + 0
    omega
  | n + 1 => by
    show sumN (n + 1) f + f (n + 1) = f 0 + (sumN n (fun i => f (i + 1)) + f (n + 1))
    rw [sumN_head n]
    omega
/-- two neighbours exchanged -/
def tau (k i : Nat) : Nat := if i = k then k + 1 else if i = k + 1 then k else i
theorem sumN_tau {f : Nat → Int} {k : Nat} : ∀ {n : Nat}, k + 1 < n → sumN n (fun i => f (tau k i)) = sumN n f
  | 0, h => by omega
  | n + 1, h => by
    by_cases hn : k + 1 < n
    · show sumN n (fun i => f (tau k i)) + f (tau k n) = sumN n f + f n
      rw [sumN_tau hn]
      unfold tau
      rw [if_neg (by omega), if_neg (by omega)]
    · have hk : n = k + 1 := by omega
      subst hk
      show sumN k (fun i => f (tau k i)) + f (tau k k) + f (tau k (k + 1)) = sumN k f + f k + f (k + 1)
      have e1 : tau k k = k + 1 := by unfold tau; rw [if_pos rfl]
      have e2 : tau k (k + 1) = k := by unfold tau; rw [if_neg (by omega), if_pos rfl]
      rw [e1, e2, sumN_congr (g := f) fun i hi => by
        have : tau k i = i := by unfold tau; rw [if_neg (by omega), if_neg (by omega)]
        rw [this]]
      omega
def skip (i r : Nat) : Nat := if r < i then r else r + 1
def det : Nat → (Nat → Nat → Int) → Int
  | 0, _ => 1
  | n + 1, A => sumN (n + 1) fun i => sg i * A i 0 * det n fun r c => A (skip i r) (c + 1)
theorem skip_lt {i r n : Nat} (h : r < n) : skip i r < n + 1 := by
  unfold skip
  split <;> omega
theorem det_congr : ∀ {n : Nat} {A B : Nat → Nat → Int}, (∀ r c, r < n → c < n → A r c = B r c) → det n A = det n B
  | 0, _, _, _ => rfl
  | n + 1, A, B, h => by
    show sumN (n + 1) _ = sumN (n + 1) _
    refine sumN_congr fun i hi => ?_
    rw [h i 0 hi (by omega), det_congr fun r c hr hc => h (skip i r) (c + 1) (skip_lt hr) (by omega)]
/-- linear in each row -/
theorem det_lin {x y : Int} : ∀ {n : Nat} {A B C : Nat → Nat → Int} {k : Nat}, k < n → (∀ c, c < n → A k c = x * B k c + y * C k c) → (∀ r c, r < n → c < n → r ≠ k → A r c = B r c ∧ A r c = C r c) → det n A = x * det n B + y * det n C
  | 0, _, _, _, k, h, _, _ => by omega
  | n + 1, A, B, C, k, hk, h1, h2 => by
    show sumN (n + 1) _ = x * sumN (n + 1) _ + y * sumN (n + 1) _
    rw [← sumN_lin]
    refine sumN_congr fun i hi => ?_
    by_cases hik : i = k
    · subst hik
      have e1 : det n (fun r c => A (skip i r) (c + 1)) = det n (fun r c => B (skip i r) (c + 1)) := det_congr fun r c hr hc => (h2 (skip i r) (c + 1) (skip_lt hr) (by omega) (by unfold skip; split <;> omega)).1
      have e2 : det n (fun r c => A (skip i r) (c + 1)) = det n (fun r c => C (skip i r) (c + 1)) := det_congr fun r c hr hc => (h2 (skip i r) (c + 1) (skip_lt hr) (by omega) (by unfold skip; split <;> omega)).2
      rw [← e1, ← e2, h1 0 (by omega)]
      grind
    · obtain ⟨a1, a2⟩ := h2 i 0 hi (by omega) hik
      have ih := det_lin (x := x) (y := y) (A := fun r c => A (skip i r) (c + 1)) (B := fun r c => B (skip i r) (c + 1)) (C := fun r c => C (skip i r) (c + 1)) (n := n) (k := if k < i then k else k - 1) (by split <;> omega)
        (fun c hc => by
          have e : skip i (if k < i then k else k - 1) = k := by
            unfold skip
            by_cases hki : k < i
            · rw [if_pos hki, if_pos hki]
            · rw [if_neg hki, if_neg (by omega)]
              omega
          show A (skip i _) (c + 1) = x * B (skip i _) (c + 1) + y * C (skip i _) (c + 1)
          rw [e]
          exact h1 (c + 1) (by omega))
        (fun r c hr hc hne => h2 (skip i r) (c + 1) (skip_lt hr) (by omega) (by
          unfold skip
          split at hne <;> split <;> omega))
      rw [ih, ← a1, ← a2]
      grind
/-- neighbouring rows exchanged -/
theorem det_swap : ∀ {n : Nat} {A : Nat → Nat → Int} {k : Nat}, k + 1 < n → det n (fun r c => A (tau k r) c) = - det n A
  | 0, _, k, h => by omega
  | n + 1, A, k, h => by
    show sumN (n + 1) _ = - sumN (n + 1) _
    rw [← sumN_neg, ← sumN_tau (f := fun i => -(sg i * A i 0 * det n fun r c => A (skip i r) (c + 1))) h]
    refine sumN_congr fun i hi => ?_
    show sg i * A (tau k i) 0 * det n (fun r c => A (tau k (skip i r)) (c + 1)) = -(sg (tau k i) * A (tau k i) 0 * det n fun r c => A (skip (tau k i) r) (c + 1))
    by_cases h1 : i = k
    · subst h1
      have e : tau i i = i + 1 := by unfold tau; rw [if_pos rfl]
      rw [e, sg_succ]
      have ed : det n (fun r c => A (tau i (skip i r)) (c + 1)) = det n fun r c => A (skip (i + 1) r) (c + 1) := det_congr fun r c hr hc => by
        have : tau i (skip i r) = skip (i + 1) r := by
          unfold tau skip
          repeat' split
          all_goals omega
        rw [this]
      rw [ed]
      grind
    · by_cases h2 : i = k + 1
      · subst h2
        have e : tau k (k + 1) = k := by unfold tau; rw [if_neg (by omega), if_pos rfl]
        rw [e, sg_succ]
        have ed : det n (fun r c => A (tau k (skip (k + 1) r)) (c + 1)) = det n fun r c => A (skip k r) (c + 1) := det_congr fun r c hr hc => by
          have : tau k (skip (k + 1) r) = skip k r := by
            unfold tau skip
            repeat' split
            all_goals omega
          rw [this]
        rw [ed]
        grind
      · have e : tau k i = i := by unfold tau; rw [if_neg h1, if_neg h2]
        rw [e]
        have ih := det_swap (n := n) (A := fun r c => A (skip i r) (c + 1)) (k := if k < i then k else k - 1) (by split <;> omega)
        have ed : det n (fun r c => A (tau k (skip i r)) (c + 1)) = det n (fun r c => A (skip i (tau (if k < i then k else k - 1) r)) (c + 1)) := det_congr fun r c hr hc => by
          have : tau k (skip i r) = skip i (tau (if k < i then k else k - 1) r) := by
            by_cases hki : k < i
            · rw [if_pos hki]
              unfold tau skip
              repeat' split
              all_goals omega
            · rw [if_neg hki]
              unfold tau skip
              repeat' split
              all_goals omega
          rw [this]
        rw [ed, ih]
        grind
theorem det_eq_adj {n : Nat} {A : Nat → Nat → Int} {k : Nat} (h : k + 1 < n) (he : ∀ c, c < n → A k c = A (k + 1) c) : det n A = 0 := by
  have s := det_swap (A := A) h
  have e : det n (fun r c => A (tau k r) c) = det n A := det_congr fun r c hr hc => by
    unfold tau
    split
    · rename_i q; rw [q, he c hc]
    · split
      · rename_i q; rw [q, he c hc]
      · rfl
  omega
theorem det_eq : ∀ (d : Nat) {n : Nat} {A : Nat → Nat → Int} {i : Nat}, i + d + 1 < n → (∀ c, c < n → A i c = A (i + d + 1) c) → det n A = 0
  | 0, n, A, i, h, he => det_eq_adj h he
  | d + 1, n, A, i, h, he => by
    have s := det_swap (A := A) (k := i + d + 1) (n := n) (by omega)
    have z := det_eq d (n := n) (A := fun r c => A (tau (i + d + 1) r) c) (i := i) (by omega) fun c hc => by
      show A (tau (i + d + 1) i) c = A (tau (i + d + 1) (i + d + 1)) c
      have e1 : tau (i + d + 1) i = i := by unfold tau; rw [if_neg (by omega), if_neg (by omega)]
      have e2 : tau (i + d + 1) (i + d + 1) = i + (d + 1) + 1 := by unfold tau; rw [if_pos rfl]; omega
      rw [e1, e2]
      exact he c hc
    omega
/-- q times a row less a multiple of the first one -/
theorem det_elim {n : Nat} {A : Nat → Nat → Int} {q : Int} {v : Nat → Int} : ∀ k, k ≤ n → det (n + 1) (fun r c => if r = 0 ∨ k < r then A r c else q * A r c - v r * A 0 c) = q ^ k * det (n + 1) A
  | 0, _ => by
    rw [Int.pow_zero, Int.one_mul]
    exact det_congr fun r c _ _ => by rw [if_pos (by omega)]
  | k + 1, h => by
    have ih := det_elim (n := n) (A := A) (q := q) (v := v) k (by omega)
    have z : det (n + 1) (fun r c => if r = k + 1 then A 0 c else if r = 0 ∨ k < r then A r c else q * A r c - v r * A 0 c) = 0 := det_eq k (n := n + 1) (i := 0) (by omega) fun c hc => by
      show (if 0 = k + 1 then _ else if 0 = 0 ∨ k < 0 then A 0 c else _) = if 0 + k + 1 = k + 1 then A 0 c else _
      rw [if_neg (by omega), if_pos (.inl rfl), if_pos (by omega)]
    have l := det_lin (x := q) (y := - v (k + 1)) (n := n + 1) (k := k + 1) (A := fun r c => if r = 0 ∨ k + 1 < r then A r c else q * A r c - v r * A 0 c) (B := fun r c => if r = 0 ∨ k < r then A r c else q * A r c - v r * A 0 c) (C := fun r c => if r = k + 1 then A 0 c else if r = 0 ∨ k < r then A r c else q * A r c - v r * A 0 c) (by omega)
      (fun c hc => by
        show (if k + 1 = 0 ∨ k + 1 < k + 1 then A (k + 1) c else q * A (k + 1) c - v (k + 1) * A 0 c) = q * (if k + 1 = 0 ∨ k < k + 1 then A (k + 1) c else q * A (k + 1) c - v (k + 1) * A 0 c) + - v (k + 1) * (if k + 1 = k + 1 then A 0 c else if k + 1 = 0 ∨ k < k + 1 then A (k + 1) c else q * A (k + 1) c - v (k + 1) * A 0 c)
        rw [if_neg (show ¬ (k + 1 = 0 ∨ k + 1 < k + 1) by omega), if_pos (show k + 1 = 0 ∨ k < k + 1 from .inr (Nat.lt_succ_self k)), if_pos rfl]
        grind)
      (fun r c hr hc hne => by
        constructor
        · show (if r = 0 ∨ k + 1 < r then _ else _) = if r = 0 ∨ k < r then _ else _
          by_cases hr2 : r = 0 ∨ k + 1 < r
          · rw [if_pos hr2, if_pos (by omega)]
          · rw [if_neg hr2, if_neg (by omega)]
        · show (if r = 0 ∨ k + 1 < r then _ else _) = if r = k + 1 then _ else if r = 0 ∨ k < r then _ else _
          rw [if_neg hne]
          by_cases hr2 : r = 0 ∨ k + 1 < r
          · rw [if_pos hr2, if_pos (by omega)]
          · rw [if_neg hr2, if_neg (by omega)])
    rw [l, ih, z, Int.pow_succ]
    grind
/-- Schur's step, without fractions -/
theorem schur {n : Nat} {A : Nat → Nat → Int} : A 0 0 ^ n * det (n + 1) A = A 0 0 * det n fun r c => A 0 0 * A (r + 1) (c + 1) - A (r + 1) 0 * A 0 (c + 1) := by
  rw [← det_elim (A := A) (q := A 0 0) (v := fun r => A r 0) n (Nat.le_refl _)]
  show sumN (n + 1) _ = _
  rw [sumN_head, sumN_zero (n := n)]
  · show sg 0 * (if 0 = 0 ∨ n < 0 then A 0 0 else _) * det n (fun r c => _) + 0 = _
    rw [if_pos (.inl rfl)]
    have e : det n (fun r c => if skip 0 r = 0 ∨ n < skip 0 r then A (skip 0 r) (c + 1) else A 0 0 * A (skip 0 r) (c + 1) - A (skip 0 r) 0 * A 0 (c + 1)) = det n fun r c => A 0 0 * A (r + 1) (c + 1) - A (r + 1) 0 * A 0 (c + 1) := det_congr fun r c hr hc => by
      have : skip 0 r = r + 1 := by unfold skip; rw [if_neg (by omega)]
      rw [this, if_neg (by omega)]
    rw [e]
    simp [sg]
  · intro i hi
    show sg (i + 1) * (if i + 1 = 0 ∨ n < i + 1 then _ else A 0 0 * A (i + 1) 0 - A (i + 1) 0 * A 0 0) * _ = 0
    rw [if_neg (by omega), Int.mul_comm (A 0 0), Int.sub_self, Int.mul_zero, Int.zero_mul]
/-- all minors of r rows have p in them r - 1 times -/
def Fair (m : Nat) (p : Int) (B : Nat → Nat → Int) : Prop := ∀ (r : Nat) (f g : Nat → Nat), (∀ i, i < r + 1 → f i < m ∧ g i < m) → p ^ r ∣ det (r + 1) fun i j => B (f i) (g j)
theorem det_scale {p : Int} {B C : Nat → Nat → Int} : ∀ {n : Nat}, (∀ r c, r < n → c < n → C r c = p * B r c) → det n C = p ^ n * det n B
  | 0, _ => by simp [det]
  | n + 1, h => by
    show sumN (n + 1) _ = p ^ (n + 1) * sumN (n + 1) _
    rw [← sumN_mul]
    refine sumN_congr fun i hi => ?_
    rw [h i 0 hi (by omega), det_scale (B := fun r c => B (skip i r) (c + 1)) (C := fun r c => C (skip i r) (c + 1)) fun r c hr hc => h (skip i r) (c + 1) (skip_lt hr) (by omega), Int.pow_succ]
    grind
/-- one step of the exact elimination: the next table is fair, and its determinant is known -/
theorem fair_step {m : Nat} {p : Int} {B B' : Nat → Nat → Int} (hp : p ≠ 0) (hq : B 0 0 ≠ 0) (h : Fair (m + 1) p B) (hB : ∀ r c, r < m → c < m → p * B' r c = B 0 0 * B (r + 1) (c + 1) - B (r + 1) 0 * B 0 (c + 1)) : Fair m (B 0 0) B' := by
  intro r f g hfg
  have hd := h (r + 1) (fun i => if i = 0 then 0 else f (i - 1) + 1) (fun i => if i = 0 then 0 else g (i - 1) + 1) fun i hi => by
    by_cases h0 : i = 0
    · subst h0
      exact ⟨by simp, by simp⟩
    · have := hfg (i - 1) (by omega)
      rw [if_neg h0, if_neg h0]
      omega
  obtain ⟨t, ht⟩ := hd
  have s := schur (n := r + 1) (A := fun i j => B (if i = 0 then 0 else f (i - 1) + 1) (if j = 0 then 0 else g (j - 1) + 1))
  have e : det (r + 1) (fun i j => B 0 0 * B (f i + 1) (g j + 1) - B (f i + 1) 0 * B 0 (g j + 1)) = p ^ (r + 1) * det (r + 1) fun i j => B' (f i) (g j) := det_scale fun i j hi hj => (hB _ _ (hfg i hi).1 (hfg j hj).2).symm
  have s' : B 0 0 ^ (r + 1) * det (r + 1 + 1) (fun i j => B (if i = 0 then 0 else f (i - 1) + 1) (if j = 0 then 0 else g (j - 1) + 1)) = B 0 0 * det (r + 1) (fun i j => B 0 0 * B (f i + 1) (g j + 1) - B (f i + 1) 0 * B 0 (g j + 1)) := s
  rw [ht, e] at s'
  refine ⟨t, ?_⟩
  have hpr : p ^ (r + 1) ≠ 0 := Int.pow_ne_zero hp
  have k : (B 0 0 * p ^ (r + 1)) * (B 0 0 ^ r * t) = (B 0 0 * p ^ (r + 1)) * det (r + 1) fun i j => B' (f i) (g j) := by
    rw [Int.pow_succ] at s'
    grind
  exact (Int.eq_of_mul_eq_mul_left (Int.mul_ne_zero hq hpr) k).symm
/-- what is divided is divided without rest -/
theorem fair_div {m : Nat} {p : Int} {B : Nat → Nat → Int} (h : Fair (m + 1) p B) {r c : Nat} (hr : r < m) (hc : c < m) : p ∣ B 0 0 * B (r + 1) (c + 1) - B (r + 1) 0 * B 0 (c + 1) := by
  have := h 1 (fun i => if i = 0 then 0 else r + 1) (fun i => if i = 0 then 0 else c + 1) fun i hi => by
    by_cases h0 : i = 0
    · subst h0
      exact ⟨by simp, by simp⟩
    · rw [if_neg h0, if_neg h0]
      omega
  rw [Int.pow_succ, Int.pow_zero, Int.one_mul] at this
  have e : det 2 (fun i j => B (if i = 0 then 0 else r + 1) (if j = 0 then 0 else c + 1)) = B 0 0 * B (r + 1) (c + 1) - B (r + 1) 0 * B 0 (c + 1) := by
    simp [det, sumN, sg, skip]
    grind
  rwa [e] at this
theorem det_step {m : Nat} {p : Int} {B B' : Nat → Nat → Int} (hB : ∀ r c, r < m → c < m → p * B' r c = B 0 0 * B (r + 1) (c + 1) - B (r + 1) 0 * B 0 (c + 1)) : B 0 0 ^ m * det (m + 1) B = B 0 0 * (p ^ m * det m B') := by
  rw [schur, det_scale (p := p) (B := B') fun r c hr hc => (hB r c hr hc).symm]
end LW
/-! ME: rows exchanged, the whole elimination, polynomial functions, the row through values. -/
namespace LW
/-- any two rows exchanged -/
def swp (i j r : Nat) : Nat := if r = i then j else if r = j then i else r
theorem det_two {n : Nat} {A : Nat → Nat → Int} {i j : Nat} (hij : i < j) (hj : j < n) (he : ∀ c, c < n → A i c = A j c) : det n A = 0 := by
  refine det_eq (j - i - 1) (i := i) (by omega) fun c hc => ?_
  rw [he c hc, show i + (j - i - 1) + 1 = j by omega]
theorem det_swp {n : Nat} {A : Nat → Nat → Int} {i j : Nat} (hij : i < j) (hj : j < n) : det n (fun r c => A (swp i j r) c) = - det n A := by
  -- rows i and j put to any rows u and v of A
  have z : ∀ u : Nat → Int, det n (fun r c => if r = i then u c else if r = j then u c else A r c) = 0 := fun u => det_two hij hj fun c hc => by
    rw [if_pos rfl, if_neg (by omega), if_pos rfl]
  have l1 := det_lin (x := 1) (y := 1) (n := n) (k := i) (A := fun r c => if r = i then A i c + A j c else if r = j then A i c + A j c else A r c) (B := fun r c => if r = i then A i c else if r = j then A i c + A j c else A r c) (C := fun r c => if r = i then A j c else if r = j then A i c + A j c else A r c) (by omega)
    (fun c hc => by simp only [if_pos]; omega) (fun r c hr hc hne => by exact ⟨by rw [if_neg hne, if_neg hne], by rw [if_neg hne, if_neg hne]⟩)
  have l2 := det_lin (x := 1) (y := 1) (n := n) (k := j) (A := fun r c => if r = i then A i c else if r = j then A i c + A j c else A r c) (B := fun r c => if r = i then A i c else if r = j then A i c else A r c) (C := fun r c => if r = i then A i c else if r = j then A j c else A r c) hj
    (fun c hc => by simp only [if_neg (show ¬ j = i by omega), if_pos]; omega) (fun r c hr hc hne => by simp only [if_neg hne, and_self])
  have l3 := det_lin (x := 1) (y := 1) (n := n) (k := j) (A := fun r c => if r = i then A j c else if r = j then A i c + A j c else A r c) (B := fun r c => if r = i then A j c else if r = j then A i c else A r c) (C := fun r c => if r = i then A j c else if r = j then A j c else A r c) hj
    (fun c hc => by simp only [if_neg (show ¬ j = i by omega), if_pos]; omega) (fun r c hr hc hne => by simp only [if_neg hne, and_self])
  have z0 := z fun c => A i c + A j c
  have z1 := z fun c => A i c
  have z2 := z fun c => A j c
  have e1 : det n (fun r c => if r = i then A i c else if r = j then A j c else A r c) = det n A := det_congr fun r c _ _ => by
    split
    · rename_i q; rw [q]
    · split
      · rename_i q; rw [q]
      · rfl
  have e2 : det n (fun r c => if r = i then A j c else if r = j then A i c else A r c) = det n (fun r c => A (swp i j r) c) := det_congr fun r c _ _ => by
    unfold swp
    split
    · rfl
    · split <;> rfl
  rw [e1] at l2
  rw [e2] at l3
  omega
/-- the first place from lo on, before lo + n, at which the first column is not 0 -/
def pivN (B : Nat → Nat → Int) : Nat → Nat → Option Nat
  | _, 0 => none
  | lo, n + 1 => if B lo 0 ≠ 0 then some lo else pivN B (lo + 1) n
theorem pivN_some {B : Nat → Nat → Int} : ∀ {n lo j : Nat}, pivN B lo n = some j → lo ≤ j ∧ j < lo + n ∧ B j 0 ≠ 0 ∧ ∀ i, lo ≤ i → i < j → B i 0 = 0
  | 0, lo, j, h => by cases h
  | n + 1, lo, j, h => by
    unfold pivN at h
    by_cases h0 : B lo 0 ≠ 0
    · rw [if_pos h0] at h
      cases h
      exact ⟨Nat.le_refl _, by omega, h0, fun i h1 h2 => by omega⟩
    · rw [if_neg h0] at h
      obtain ⟨a, b, c, d⟩ := pivN_some h
      refine ⟨by omega, by omega, c, fun i h1 h2 => ?_⟩
      by_cases hi : i = lo
      · subst hi
        omega
      · exact d i (by omega) h2
theorem pivN_none {B : Nat → Nat → Int} : ∀ {n lo : Nat}, pivN B lo n = none → ∀ i, lo ≤ i → i < lo + n → B i 0 = 0
  | 0, lo, h, i, h1, h2 => by omega
  | n + 1, lo, h, i, h1, h2 => by
    unfold pivN at h
    by_cases h0 : B lo 0 ≠ 0
    · rw [if_pos h0] at h
      cases h
    · rw [if_neg h0] at h
      by_cases hi : i = lo
      · subst hi
        omega
      · exact pivN_none h i (by omega) (by omega)
/-- the next table -/
def nextB (p : Int) (C : Nat → Nat → Int) : Nat → Nat → Int := fun r c => (C 0 0 * C (r + 1) (c + 1) - C (r + 1) 0 * C 0 (c + 1)) / p
/-- the row j put first -/
def fore (j : Nat) (B : Nat → Nat → Int) : Nat → Nat → Int := if j = 0 then B else fun r c => B (swp 0 j r) c
/-- the whole elimination: s the sign so far -/
def bare : Nat → Int → Int → (Nat → Nat → Int) → Int
  | 0, s, p, _ => s * p
  | m + 1, s, p, B => match pivN B 0 (m + 1) with
    | none => 0
    | some j => bare m (if j = 0 then s else -s) (fore j B 0 0) (nextB p (fore j B))
theorem fair_fore {m j : Nat} {p : Int} {B : Nat → Nat → Int} (h : Fair m p B) (hj : j < m) : Fair m p (fore j B) := by
  unfold fore
  split
  · exact h
  · intro r f g hfg
    exact h r (fun i => swp 0 j (f i)) g fun i hi => by
      refine ⟨?_, (hfg i hi).2⟩
      have := (hfg i hi).1
      show swp 0 j (f i) < m
      unfold swp
      repeat' split
      all_goals omega
theorem fair_one {m : Nat} {B : Nat → Nat → Int} : Fair m 1 B := fun r f g _ => by
  rw [Int.one_pow]
  exact Int.one_dvd _
theorem bare_det : ∀ {m : Nat} {s p : Int} {B : Nat → Nat → Int}, p ≠ 0 → Fair m p B → p ^ m * bare m s p B = s * (p * det m B)
  | 0, s, p, B, _, _ => by simp [bare, det]
  | m + 1, s, p, B, hp, h => by
    unfold bare
    cases hpv : pivN B 0 (m + 1) with
    | none =>
      have z : det (m + 1) B = 0 := by
        show sumN (m + 1) _ = 0
        refine sumN_zero fun i hi => ?_
        rw [pivN_none hpv i (Nat.zero_le _) (by omega)]
        simp
      rw [z]
      simp
    | some j =>
      obtain ⟨_, hj, hne, _⟩ := pivN_some hpv
      have hj : j < m + 1 := by omega
      have e0 : fore j B 0 0 = B j 0 := by
        unfold fore
        split
        · rename_i q; rw [q]
        · show B (swp 0 j 0) 0 = _
          unfold swp
          rw [if_pos rfl]
      have hq : fore j B 0 0 ≠ 0 := by rw [e0]; exact hne
      have hf := fair_fore h hj
      have hB : ∀ r c, r < m → c < m → p * nextB p (fore j B) r c = fore j B 0 0 * fore j B (r + 1) (c + 1) - fore j B (r + 1) 0 * fore j B 0 (c + 1) := fun r c hr hc => Int.mul_ediv_cancel' (fair_div hf hr hc)
      have hF := fair_step hp hq hf hB
      have ih := bare_det (m := m) (s := if j = 0 then s else -s) hq hF
      have ds := det_step hB
      have hd : (if j = 0 then s else -s) * det (m + 1) (fore j B) = s * det (m + 1) B := by
        unfold fore
        by_cases h0 : j = 0
        · rw [if_pos h0, if_pos h0]
        · rw [if_neg h0, if_neg h0, det_swp (by omega) hj]
          grind
      show p ^ (m + 1) * bare m (if j = 0 then s else -s) (fore j B 0 0) (nextB p (fore j B)) = s * (p * det (m + 1) B)
      generalize bare m (if j = 0 then s else -s) (fore j B 0 0) (nextB p (fore j B)) = b at *
      generalize det m (nextB p (fore j B)) = d' at *
      generalize det (m + 1) (fore j B) = d at *
      generalize fore j B 0 0 = q at *
      generalize (if j = 0 then s else -s) = s' at *
      have hqm : q ^ m ≠ 0 := Int.pow_ne_zero hq
      refine Int.eq_of_mul_eq_mul_left hqm ?_
      rw [Int.pow_succ]
      have e1 : q ^ m * (p ^ m * p * b) = p ^ m * p * (q ^ m * b) := by grind
      have e2 : q ^ m * (s * (p * det (m + 1) B)) = p * (q ^ m * (s * det (m + 1) B)) := by grind
      rw [e1, ih, e2, ← hd]
      have e3 : p * (q ^ m * (s' * d)) = p * s' * (q ^ m * d) := by grind
      rw [e3, ds]
      grind
theorem bare_one {m : Nat} {B : Nat → Nat → Int} : bare m 1 1 B = det m B := by
  have := bare_det (m := m) (s := 1) (p := 1) (B := B) (by decide) fair_one
  rw [Int.one_pow] at this
  simpa using this
end LW
/-! ML: what holds at each step of the exact elimination, by places of the whole table. -/
namespace LW
theorem pivN_is_none {B : Nat → Nat → Int} : ∀ {n lo : Nat}, (∀ i, lo ≤ i → i < lo + n → B i 0 = 0) → pivN B lo n = none
  | 0, _, _ => rfl
  | n + 1, lo, h => by
    unfold pivN
    rw [if_neg (by rw [h lo (Nat.le_refl _) (by omega)]; omega)]
    exact pivN_is_none fun i h1 h2 => h i (by omega) (by omega)
theorem pivN_is_some {B : Nat → Nat → Int} {j : Nat} (hj : B j 0 ≠ 0) : ∀ {n lo : Nat}, lo ≤ j → j < lo + n → (∀ i, lo ≤ i → i < j → B i 0 = 0) → pivN B lo n = some j
  | 0, lo, h1, h2, _ => by omega
  | n + 1, lo, h1, h2, h => by
    unfold pivN
    by_cases hl : lo = j
    · subst hl
      rw [if_pos hj]
    · rw [if_neg (by rw [h lo (Nat.le_refl _) (by omega)]; omega)]
      exact pivN_is_some hj (by omega) (by omega) fun i h3 h4 => h i (by omega) h4
theorem pivN_congr {B C : Nat → Nat → Int} : ∀ {n lo : Nat}, (∀ i, lo ≤ i → i < lo + n → B i 0 = C i 0) → pivN B lo n = pivN C lo n
  | 0, _, _ => rfl
  | n + 1, lo, h => by
    unfold pivN
    rw [h lo (Nat.le_refl _) (by omega), pivN_congr fun i h1 h2 => h i (by omega) (by omega)]
theorem swp_lt {i j r m : Nat} (hi : i < m) (hj : j < m) (hr : r < m) : swp i j r < m := by
  unfold swp
  repeat' split
  all_goals omega
theorem fore_congr {m j : Nat} {B C : Nat → Nat → Int} (hj : j < m) (h : ∀ r c, r < m → c < m → B r c = C r c) : ∀ r c, r < m → c < m → fore j B r c = fore j C r c := by
  intro r c hr hc
  unfold fore
  split
  · exact h r c hr hc
  · exact h _ c (swp_lt (by omega) hj hr) hc
theorem bare_congr : ∀ {m : Nat} {s p : Int} {B C : Nat → Nat → Int}, (∀ r c, r < m → c < m → B r c = C r c) → bare m s p B = bare m s p C
  | 0, _, _, _, _, _ => rfl
  | m + 1, s, p, B, C, h => by
    unfold bare
    rw [← pivN_congr (B := B) (C := C) fun i h1 h2 => h i 0 (by omega) (by omega)]
    cases hp : pivN B 0 (m + 1) with
    | none => rfl
    | some j =>
      have hj := pivN_some hp
      have hf := fore_congr (j := j) (by omega) h
      show bare m _ (fore j B 0 0) (nextB p (fore j B)) = bare m _ (fore j C 0 0) (nextB p (fore j C))
      rw [hf 0 0 (by omega) (by omega)]
      refine bare_congr fun r c hr hc => ?_
      unfold nextB
      rw [hf 0 0 (by omega) (by omega), hf (r + 1) (c + 1) (by omega) (by omega), hf (r + 1) 0 (by omega) (by omega), hf 0 (c + 1) (by omega) (by omega)]
theorem fair_congr {m : Nat} {p : Int} {B C : Nat → Nat → Int} (h : ∀ r c, r < m → c < m → B r c = C r c) (hf : Fair m p B) : Fair m p C := by
  intro r f g hfg
  have := hf r f g hfg
  rwa [det_congr (B := fun i j => C (f i) (g j)) fun i j hi hj => h _ _ (hfg i hi).1 (hfg j hj).2] at this
/-- how many bits may be needed -/
def bdk (b : Nat) : Nat → Nat
  | 0 => b
  | k + 1 => 2 * bdk b k + 1
theorem bdk_step {b k : Nat} : bdk b k ≤ bdk b (k + 1) := by
  show _ ≤ 2 * bdk b k + 1
  omega
theorem bdk_mono {b k : Nat} : ∀ {n : Nat}, k ≤ n → bdk b k ≤ bdk b n
  | 0, h => by
    have : k = 0 := by omega
    subst this
    exact Nat.le_refl _
  | n + 1, h => by
    by_cases hk : k = n + 1
    · subst hk
      exact Nat.le_refl _
    · exact Nat.le_trans (bdk_mono (n := n) (by omega)) bdk_step
theorem bdk_six {b k : Nat} (hb : b ≤ 110) (hk : k ≤ 6) : bdk b k ≤ 7103 := by
  have h := bdk_mono (b := b) hk
  have : bdk b 6 = 64 * b + 63 := by
    simp only [bdk]
    omega
  omega
def sh (k : Nat) (E : Nat → Nat → Int) : Nat → Nat → Int := fun r c => E (k + r) (k + c)
/-- the state ahead of step k -/
structure Elim (N b : Nat) (E0 : Nat → Nat → Int) (k : Nat) (s p : Int) (E : Nat → Nat → Int) : Prop where
  le : k ≤ N
  sgn : s = 1 ∨ s = -1
  hp : p ≠ 0
  fair : Fair (N - k) p (sh k E)
  val : bare (N - k) s p (sh k E) = det N E0
  bd : ∀ r c, r < N → c < N → (E r c).natAbs ≤ 2 ^ bdk b k
  pb : p.natAbs ≤ 2 ^ bdk b k
theorem Elim.start {N b : Nat} {E : Nat → Nat → Int} (h : ∀ r c, r < N → c < N → (E r c).natAbs ≤ 2 ^ b) : Elim N b E 0 1 1 E := by
  have e : sh 0 E = E := by
    funext r c
    unfold sh
    rw [Nat.zero_add, Nat.zero_add]
  refine ⟨Nat.zero_le _, .inl rfl, by decide, ?_, ?_, h, Nat.one_le_two_pow⟩
  · exact fair_one
  · rw [e, Nat.sub_zero]
    exact bare_one
theorem Elim.done {N b : Nat} {E0 E : Nat → Nat → Int} {s p : Int} (h : Elim N b E0 N s p E) : s * p = det N E0 := by
  have := h.val
  rw [Nat.sub_self] at this
  exact this
theorem Elim.none {N b k : Nat} {E0 E : Nat → Nat → Int} {s p : Int} (h : Elim N b E0 k s p E) (hk : k < N) (hz : ∀ i, k ≤ i → i < N → E i k = 0) : det N E0 = 0 := by
  have := h.val
  obtain ⟨m, hm⟩ : ∃ m, N - k = m + 1 := ⟨N - k - 1, by omega⟩
  rw [hm] at this
  unfold bare at this
  rw [pivN_is_none (B := sh k E) fun i h1 h2 => hz (k + i) (by omega) (by omega)] at this
  exact this.symm
theorem fdiv_le {a p : Int} (hp : p ≠ 0) : (a.fdiv p).natAbs ≤ a.natAbs := by
  rcases Int.lt_or_gt_of_ne hp with h | h
  · have h1 := Int.lt_or_le a 0
    have e : a.fdiv p = (-a).fdiv (-p) := by rw [Int.neg_fdiv_neg]
    rw [e, Int.fdiv_eq_ediv_of_nonneg _ (by omega)]
    have h2 := Int.ediv_mul_le (-a) (b := -p) (by omega)
    have h3 := Int.lt_ediv_add_one_mul_self (-a) (b := -p) (by omega)
    generalize (-a) / (-p) = q at *
    rcases h1 with h1 | h1
    · have : 0 ≤ q := by
        rcases Int.lt_or_le q 0 with hq | hq
        · have : (q + 1) * (-p) ≤ 0 := Int.mul_nonpos_of_nonpos_of_nonneg (by omega) (by omega)
          omega
        · exact hq
      have h4 : q * 1 ≤ q * (-p) := Int.mul_le_mul_of_nonneg_left (by omega) this
      omega
    · by_cases hq : q < 0
      · have h4 : q * (-p) ≤ q * 1 := Int.mul_le_mul_of_nonpos_left (by omega) (by omega)
        by_cases hq1 : q = -1
        · subst hq1
          by_cases ha : a = 0
          · subst ha
            omega
          · omega
        · have h5 : (q + 1) * (-p) ≤ (q + 1) * 1 := Int.mul_le_mul_of_nonpos_left (by omega) (by omega)
          omega
      · have h4 : q * 1 ≤ q * (-p) := Int.mul_le_mul_of_nonneg_left (by omega) (by omega)
        omega
  · rw [Int.fdiv_eq_ediv_of_nonneg _ (by omega)]
    have h2 := Int.ediv_mul_le a (b := p) (by omega)
    have h3 := Int.lt_ediv_add_one_mul_self a (b := p) (by omega)
    generalize a / p = q at *
    by_cases hq : q < 0
    · have h5 : (q + 1) * p ≤ (q + 1) * 1 := Int.mul_le_mul_of_nonpos_left (by omega) (by omega)
      by_cases ha : 0 ≤ a
      · omega
      · omega
    · have h4 : q * 1 ≤ q * p := Int.mul_le_mul_of_nonneg_left (by omega) (by omega)
      omega
/-- what is made of four numbers is not too great -/
theorem quot_bd {a d e f p : Int} {n : Nat} (hp : p ≠ 0) (ha : a.natAbs ≤ 2 ^ n) (hd : d.natAbs ≤ 2 ^ n) (he : e.natAbs ≤ 2 ^ n) (hf : f.natAbs ≤ 2 ^ n) : ((a * d - e * f).fdiv p).natAbs ≤ 2 ^ (2 * n + 1) := by
  refine Nat.le_trans (fdiv_le hp) ?_
  have h1 : (a * d).natAbs ≤ 2 ^ (2 * n) := by
    rw [Int.natAbs_mul, Nat.two_mul, Nat.pow_add]
    exact Nat.mul_le_mul ha hd
  have h2 : (e * f).natAbs ≤ 2 ^ (2 * n) := by
    rw [Int.natAbs_mul, Nat.two_mul, Nat.pow_add]
    exact Nat.mul_le_mul he hf
  rw [Nat.pow_succ]
  omega
theorem Elim.step {N b k j : Nat} {E0 E E2 : Nat → Nat → Int} {s p : Int} (h : Elim N b E0 k s p E) (hkj : k ≤ j) (hj : j < N) (hne : E j k ≠ 0) (hz : ∀ i, k ≤ i → i < j → E i k = 0)
    (h2 : ∀ r c, k < r → r < N → k < c → c < N → E2 r c = (E (swp k j r) c * E (swp k j k) k - E (swp k j r) k * E (swp k j k) c).fdiv p)
    (hb : ∀ r c, r < N → c < N → (E2 r c).natAbs ≤ 2 ^ bdk b (k + 1)) : Elim N b E0 (k + 1) (if j = k then s else -s) (E (swp k j k) k) E2 := by
  obtain ⟨m, hm⟩ : ∃ m, N - k = m + 1 := ⟨N - k - 1, by omega⟩
  have hm' : N - (k + 1) = m := by omega
  have hv := h.val
  have hfair := h.fair
  rw [hm] at hv hfair
  have hpv : pivN (sh k E) 0 (m + 1) = some (j - k) := pivN_is_some (j := j - k) (by show E (k + (j - k)) (k + 0) ≠ 0; rw [show k + (j - k) = j by omega]; exact hne) (by omega) (by omega) fun i h1 h2 => hz (k + i) (by omega) (by omega)
  have ef : ∀ r c, fore (j - k) (sh k E) r c = E (swp k j (k + r)) (k + c) := fun r c => by
    unfold fore
    by_cases h0 : j - k = 0
    · rw [if_pos h0]
      have : swp k j (k + r) = k + r := by
        unfold swp
        repeat' split
        all_goals omega
      rw [this]
      rfl
    · rw [if_neg h0]
      have : swp k j (k + r) = k + swp 0 (j - k) r := by
        unfold swp
        repeat' split
        all_goals omega
      rw [this]
      rfl
  have hff := fair_fore (j := j - k) hfair (by omega)
  have e00 : fore (j - k) (sh k E) 0 0 = E (swp k j k) k := by rw [ef]; rfl
  have hq : fore (j - k) (sh k E) 0 0 ≠ 0 := by
    rw [e00]
    have : swp k j k = j := by unfold swp; rw [if_pos rfl]
    rw [this]
    exact hne
  have hB : ∀ r c, r < m → c < m → p * nextB p (fore (j - k) (sh k E)) r c = fore (j - k) (sh k E) 0 0 * fore (j - k) (sh k E) (r + 1) (c + 1) - fore (j - k) (sh k E) (r + 1) 0 * fore (j - k) (sh k E) 0 (c + 1) := fun r c hr hc => Int.mul_ediv_cancel' (fair_div hff hr hc)
  have hF := fair_step h.hp hq hff hB
  have en : ∀ r c, r < m → c < m → nextB p (fore (j - k) (sh k E)) r c = sh (k + 1) E2 r c := fun r c hr hc => by
    show _ / p = E2 (k + 1 + r) (k + 1 + c)
    have hd := fair_div hff hr hc
    rw [h2 (k + 1 + r) (k + 1 + c) (by omega) (by omega) (by omega) (by omega)]
    rw [ef, ef, ef, ef] at hd ⊢
    rw [show k + (r + 1) = k + 1 + r by omega, show k + (c + 1) = k + 1 + c by omega, Nat.add_zero] at hd ⊢
    rw [show E (swp k j (k + 1 + r)) (k + 1 + c) * E (swp k j k) k = E (swp k j k) k * E (swp k j (k + 1 + r)) (k + 1 + c) from Int.mul_comm _ _]
    rw [Int.fdiv_eq_ediv_of_dvd hd]
  refine ⟨by omega, ?_, ?_, ?_, ?_, hb, ?_⟩
  · rcases h.sgn with q | q <;> split <;> omega
  · rw [← e00]
    exact hq
  · rw [hm', ← e00]
    exact fair_congr en hF
  · have e2 : bare (m + 1) s p (sh k E) = bare m (if j - k = 0 then s else -s) (fore (j - k) (sh k E) 0 0) (nextB p (fore (j - k) (sh k E))) := by
      conv => lhs; unfold bare
      rw [hpv]
    have e3 : (if j = k then s else -s) = if j - k = 0 then s else -s := by
      by_cases h0 : j = k
      · rw [if_pos h0, if_pos (by omega)]
      · rw [if_neg h0, if_neg (by omega)]
    rw [hm', ← hv, e2, e00, e3]
    exact (bare_congr en).symm
  · have hs : swp k j k = j := by unfold swp; rw [if_pos rfl]
    rw [hs]
    exact Nat.le_trans (h.bd j k hj (by omega)) (Nat.pow_le_pow_right (by decide) bdk_step)
end LW
/-! MT: tables as lists of rows. -/
namespace LW
/-- what stands in a table -/
def Ent (T : List (List Int)) (r c : Nat) : Int := (T.getD r []).getD c 0
/-- a square table -/
def Tab (N : Nat) (T : List (List Int)) : Prop := T.length = N ∧ ∀ r ∈ T, r.length = N
theorem Tab.set {N : Nat} {T : List (List Int)} {n : Nat} {row : List Int} (h : Tab N T) (hr : row.length = N) : Tab N (T.set n row) :=
  ⟨by rw [List.length_set]; exact h.1, fun r hm => (List.mem_or_eq_of_mem_set hm).elim (h.2 r) fun e => e ▸ hr⟩
theorem Tab.row {N : Nat} {T : List (List Int)} {n : Nat} (h : Tab N T) (hn : n < N) : (T.getD n []).length = N := by
  have hl : n < T.length := by rw [h.1]; exact hn
  rw [List.getD_eq_getElem?_getD, List.getElem?_eq_getElem hl]
  exact h.2 _ (List.getElem_mem hl)
theorem Ent_set {T : List (List Int)} {n r c : Nat} {row : List Int} (hn : n < T.length) : Ent (T.set n row) r c = if r = n then row.getD c 0 else Ent T r c := by
  unfold Ent
  simp only [List.getD_eq_getElem?_getD]
  by_cases h : r = n
  · subst h
    rw [List.getElem?_set_self hn, if_pos rfl]
    rfl
  · rw [List.getElem?_set_ne (Ne.symm h), if_neg h]
theorem filt_cases {A : Type} (p : A → Bool) : ∀ xs : List A, (xs.filter p = [] ∧ ∀ (i : Nat) y, xs[i]? = some y → p y = false) ∨ ∃ (i : Nat) (x : A) (rest : List A), xs[i]? = some x ∧ p x = true ∧ xs.filter p = x :: rest ∧ ∀ (i' : Nat) y, i' < i → xs[i']? = some y → p y = false
  | [] => .inl ⟨rfl, fun i y h => by simp at h⟩
  | x :: xs => by
    rw [List.filter_cons]
    cases hp : p x with
    | true => exact .inr ⟨0, x, xs.filter p, rfl, hp, by rw [if_pos rfl], fun i' y h => by omega⟩
    | false =>
      rw [if_neg (by decide)]
      rcases filt_cases p xs with ⟨h1, h2⟩ | ⟨i, z, rest, h1, h2, h3, h4⟩
      · refine .inl ⟨h1, fun i y h => ?_⟩
        cases i with
        | zero =>
          cases h
          exact hp
        | succ i => exact h2 i y (by simpa using h)
      · refine .inr ⟨i + 1, z, rest, by simpa using h1, h2, h3, fun i' y hi h => ?_⟩
        cases i' with
        | zero =>
          cases h
          exact hp
        | succ i' => exact h4 i' y (by omega) (by simpa using h)
/-- rows exchanged -/
def exT (T : List (List Int)) (k j : Nat) : List (List Int) := (T.set k (T.getD j [])).set j (T.getD k [])
theorem Tab.ex {N : Nat} {T : List (List Int)} {k j : Nat} (h : Tab N T) (hk : k < N) (hj : j < N) : Tab N (exT T k j) := (h.set (h.row hj)).set (h.row hk)
theorem Ent_ex {N : Nat} {T : List (List Int)} {k j r c : Nat} (h : Tab N T) (hk : k < N) (hj : j < N) : Ent (exT T k j) r c = Ent T (swp k j r) c := by
  unfold exT
  rw [Ent_set (by rw [List.length_set, h.1]; exact hj), Ent_set (by rw [h.1]; exact hk)]
  unfold swp
  by_cases h1 : r = k
  · by_cases h2 : r = j
    · rw [if_pos h2, if_pos h1]
      subst h1 h2
      rfl
    · rw [if_neg h2, if_pos h1, if_pos h1]
      rfl
  · by_cases h2 : r = j
    · rw [if_pos h2, if_neg h1, if_pos h2]
      rfl
    · rw [if_neg h2, if_neg h1, if_neg h1, if_neg h2]
theorem Ent_same {T : List (List Int)} {k r c : Nat} : Ent T (swp k k r) c = Ent T r c := by
  have : swp k k r = r := by
    unfold swp
    repeat' split
    all_goals omega
  rw [this]
end LW
/-! ML2: the exact elimination once more: each place is a minor of the table, so none is great. -/
namespace LW
/-- determinants are not too great -/
def db (B : Nat) : Nat → Nat
  | 0 => 1
  | n + 1 => (n + 1) * (B * db B n)
theorem sumN_bd {f : Nat → Int} {M : Nat} : ∀ {n : Nat}, (∀ i, i < n → (f i).natAbs ≤ M) → (sumN n f).natAbs ≤ n * M
  | 0, _ => by simp [sumN]
  | n + 1, h => by
    have h1 := sumN_bd (f := f) (M := M) (n := n) fun i hi => h i (by omega)
    have h2 := h n (by omega)
    have h3 := Int.natAbs_add_le (sumN n f) (f n)
    show (sumN n f + f n).natAbs ≤ _
    rw [Nat.succ_mul]
    omega
theorem sg_abs (i : Nat) : (sg i).natAbs = 1 := by
  unfold sg
  split <;> rfl
theorem det_bd {B : Nat} : ∀ {n : Nat} {A : Nat → Nat → Int}, (∀ r c, r < n → c < n → (A r c).natAbs ≤ B) → (det n A).natAbs ≤ db B n
  | 0, _, _ => Nat.le_refl 1
  | n + 1, A, h => by
    show (sumN (n + 1) fun i => sg i * A i 0 * det n fun r c => A (skip i r) (c + 1)).natAbs ≤ (n + 1) * (B * db B n)
    refine sumN_bd fun i hi => ?_
    rw [Int.natAbs_mul, Int.natAbs_mul, sg_abs, Nat.one_mul]
    exact Nat.mul_le_mul (h i 0 hi (by omega)) (det_bd fun r c hr hc => h (skip i r) (c + 1) (skip_lt hr) (by omega))
theorem db_mono {B : Nat} (hB : 1 ≤ B) : ∀ {n m : Nat}, n ≤ m → db B n ≤ db B m
  | n, 0, h => by
    have : n = 0 := by omega
    subst this
    exact Nat.le_refl _
  | n, m + 1, h => by
    by_cases e : n = m + 1
    · subst e
      exact Nat.le_refl _
    · refine Nat.le_trans (db_mono hB (m := m) (by omega)) ?_
      show db B m ≤ (m + 1) * (B * db B m)
      have h1 : 1 * db B m ≤ B * db B m := Nat.mul_le_mul_right _ hB
      have h2 : 1 * (B * db B m) ≤ (m + 1) * (B * db B m) := Nat.mul_le_mul_right _ (by omega)
      omega
def FairB (m : Nat) (p : Int) (B : Nat → Nat → Int) (β : Nat → Nat) : Prop := ∀ (r : Nat) (f g : Nat → Nat), (∀ i, i < r + 1 → f i < m ∧ g i < m) → ∃ q : Int, det (r + 1) (fun i j => B (f i) (g j)) = p ^ r * q ∧ q.natAbs ≤ β r
theorem FairB.fair {m : Nat} {p : Int} {B : Nat → Nat → Int} {β : Nat → Nat} (h : FairB m p B β) : Fair m p B := fun r f g hfg => let ⟨q, e, _⟩ := h r f g hfg; ⟨q, e⟩
theorem FairB.ent {m : Nat} {p : Int} {B : Nat → Nat → Int} {β : Nat → Nat} (h : FairB m p B β) {r c : Nat} (hr : r < m) (hc : c < m) : (B r c).natAbs ≤ β 0 := by
  obtain ⟨q, e, hq⟩ := h 0 (fun _ => r) (fun _ => c) fun _ _ => ⟨hr, hc⟩
  have : det 1 (fun i j => B r c) = B r c := by
    simp [det, sumN, sg]
  rw [this, Int.pow_zero, Int.one_mul] at e
  rw [e]
  exact hq
theorem fairB_step {m : Nat} {p : Int} {B B' : Nat → Nat → Int} {β : Nat → Nat} (hp : p ≠ 0) (hq : B 0 0 ≠ 0) (h : FairB (m + 1) p B β) (hB : ∀ r c, r < m → c < m → p * B' r c = B 0 0 * B (r + 1) (c + 1) - B (r + 1) 0 * B 0 (c + 1)) : FairB m (B 0 0) B' fun r => β (r + 1) := by
  intro r f g hfg
  obtain ⟨t, ht, hb⟩ := h (r + 1) (fun i => if i = 0 then 0 else f (i - 1) + 1) (fun i => if i = 0 then 0 else g (i - 1) + 1) fun i hi => by
    by_cases h0 : i = 0
    · subst h0
      exact ⟨by simp, by simp⟩
    · have := hfg (i - 1) (by omega)
      rw [if_neg h0, if_neg h0]
      omega
  have s := schur (n := r + 1) (A := fun i j => B (if i = 0 then 0 else f (i - 1) + 1) (if j = 0 then 0 else g (j - 1) + 1))
  have e : det (r + 1) (fun i j => B 0 0 * B (f i + 1) (g j + 1) - B (f i + 1) 0 * B 0 (g j + 1)) = p ^ (r + 1) * det (r + 1) fun i j => B' (f i) (g j) := det_scale fun i j hi hj => (hB _ _ (hfg i hi).1 (hfg j hj).2).symm
  have s' : B 0 0 ^ (r + 1) * det (r + 1 + 1) (fun i j => B (if i = 0 then 0 else f (i - 1) + 1) (if j = 0 then 0 else g (j - 1) + 1)) = B 0 0 * det (r + 1) (fun i j => B 0 0 * B (f i + 1) (g j + 1) - B (f i + 1) 0 * B 0 (g j + 1)) := s
  rw [ht, e] at s'
  refine ⟨t, ?_, hb⟩
  have hpr : p ^ (r + 1) ≠ 0 := Int.pow_ne_zero hp
  have k : (B 0 0 * p ^ (r + 1)) * (B 0 0 ^ r * t) = (B 0 0 * p ^ (r + 1)) * det (r + 1) fun i j => B' (f i) (g j) := by
    rw [Int.pow_succ] at s'
    grind
  exact (Int.eq_of_mul_eq_mul_left (Int.mul_ne_zero hq hpr) k).symm
theorem fairB_congr {m : Nat} {p : Int} {B C : Nat → Nat → Int} {β : Nat → Nat} (h : ∀ r c, r < m → c < m → B r c = C r c) (hf : FairB m p B β) : FairB m p C β := by
  intro r f g hfg
  have := hf r f g hfg
  rwa [det_congr (B := fun i j => C (f i) (g j)) fun i j hi hj => h _ _ (hfg i hi).1 (hfg j hj).2] at this
theorem fairB_fore {m j : Nat} {p : Int} {B : Nat → Nat → Int} {β : Nat → Nat} (h : FairB m p B β) (hj : j < m) : FairB m p (fore j B) β := by
  unfold fore
  split
  · exact h
  · intro r f g hfg
    exact h r (fun i => swp 0 j (f i)) g fun i hi => ⟨swp_lt (by omega) hj (hfg i hi).1, (hfg i hi).2⟩
/-- the state ahead of step k; places at most M -/
structure Elim2 (N B M : Nat) (E0 : Nat → Nat → Int) (k : Nat) (s p : Int) (E : Nat → Nat → Int) : Prop where
  le : k ≤ N
  sgn : s = 1 ∨ s = -1
  hp : p ≠ 0
  fair : FairB (N - k) p (sh k E) fun r => db B (k + r + 1)
  val : bare (N - k) s p (sh k E) = det N E0
  pb : p.natAbs ≤ db B N
theorem Elim2.start {N B : Nat} {E : Nat → Nat → Int} (hB : 1 ≤ B) (h : ∀ r c, r < N → c < N → (E r c).natAbs ≤ B) : Elim2 N B 0 E 0 1 1 E := by
  have e : sh 0 E = E := by
    funext r c
    unfold sh
    rw [Nat.zero_add, Nat.zero_add]
  refine ⟨Nat.zero_le _, .inl rfl, by decide, ?_, ?_, ?_⟩
  · rw [e, Nat.sub_zero]
    intro r f g hfg
    refine ⟨_, by rw [Int.one_pow, Int.one_mul], ?_⟩
    show _ ≤ db B (0 + r + 1)
    rw [Nat.zero_add]
    exact det_bd fun i j hi hj => h _ _ (hfg i hi).1 (hfg j hj).2
  · rw [e, Nat.sub_zero]
    exact bare_one
  · exact db_mono hB (Nat.zero_le N)
theorem Elim2.done {N B M : Nat} {E0 E : Nat → Nat → Int} {s p : Int} (h : Elim2 N B M E0 N s p E) : s * p = det N E0 := by
  have := h.val
  rw [Nat.sub_self] at this
  exact this
theorem Elim2.none {N B M k : Nat} {E0 E : Nat → Nat → Int} {s p : Int} (h : Elim2 N B M E0 k s p E) (hk : k < N) (hz : ∀ i, k ≤ i → i < N → E i k = 0) : det N E0 = 0 := by
  have := h.val
  obtain ⟨m, hm⟩ : ∃ m, N - k = m + 1 := ⟨N - k - 1, by omega⟩
  rw [hm] at this
  unfold bare at this
  rw [pivN_is_none (B := sh k E) fun i h1 h2 => hz (k + i) (by omega) (by omega)] at this
  exact this.symm
theorem Elim2.ent {N B M k : Nat} {E0 E : Nat → Nat → Int} {s p : Int} (h : Elim2 N B M E0 k s p E) (hB : 1 ≤ B) {r c : Nat} (hr : k ≤ r) (hr2 : r < N) (hc : k ≤ c) (hc2 : c < N) : (E r c).natAbs ≤ db B N := by
  have := h.fair.ent (r := r - k) (c := c - k) (by omega) (by omega)
  rw [Nat.add_zero] at this
  have e : sh k E (r - k) (c - k) = E r c := by
    unfold sh
    rw [show k + (r - k) = r by omega, show k + (c - k) = c by omega]
  rw [e] at this
  exact Nat.le_trans this (db_mono hB (by omega))
theorem Elim2.step {N B M k j : Nat} {E0 E E2 : Nat → Nat → Int} {s p : Int} (h : Elim2 N B M E0 k s p E) (hB1 : 1 ≤ B) (hkj : k ≤ j) (hj : j < N) (hne : E j k ≠ 0) (hz : ∀ i, k ≤ i → i < j → E i k = 0)
    (h2 : ∀ r c, k < r → r < N → k < c → c < N → E2 r c = (E (swp k j r) c * E (swp k j k) k - E (swp k j r) k * E (swp k j k) c).fdiv p) : Elim2 N B M E0 (k + 1) (if j = k then s else -s) (E (swp k j k) k) E2 := by
  obtain ⟨m, hm⟩ : ∃ m, N - k = m + 1 := ⟨N - k - 1, by omega⟩
  have hm' : N - (k + 1) = m := by omega
  have hv := h.val
  have hfair := h.fair
  rw [hm] at hv hfair
  have hpv : pivN (sh k E) 0 (m + 1) = some (j - k) := pivN_is_some (j := j - k) (by show E (k + (j - k)) (k + 0) ≠ 0; rw [show k + (j - k) = j by omega]; exact hne) (by omega) (by omega) fun i h1 h2 => hz (k + i) (by omega) (by omega)
  have ef : ∀ r c, fore (j - k) (sh k E) r c = E (swp k j (k + r)) (k + c) := fun r c => by
    unfold fore
    by_cases h0 : j - k = 0
    · rw [if_pos h0]
      have : swp k j (k + r) = k + r := by
        unfold swp
        repeat' split
        all_goals omega
      rw [this]
      rfl
    · rw [if_neg h0]
      have : swp k j (k + r) = k + swp 0 (j - k) r := by
        unfold swp
        repeat' split
        all_goals omega
      rw [this]
      rfl
  have hff := fairB_fore (j := j - k) hfair (by omega)
  have e00 : fore (j - k) (sh k E) 0 0 = E (swp k j k) k := by rw [ef]; rfl
  have hs : swp k j k = j := by unfold swp; rw [if_pos rfl]
  have hq : fore (j - k) (sh k E) 0 0 ≠ 0 := by
    rw [e00, hs]
    exact hne
  have hB : ∀ r c, r < m → c < m → p * nextB p (fore (j - k) (sh k E)) r c = fore (j - k) (sh k E) 0 0 * fore (j - k) (sh k E) (r + 1) (c + 1) - fore (j - k) (sh k E) (r + 1) 0 * fore (j - k) (sh k E) 0 (c + 1) := fun r c hr hc => Int.mul_ediv_cancel' (fair_div hff.fair hr hc)
  have hF := fairB_step h.hp hq hff hB
  have en : ∀ r c, r < m → c < m → nextB p (fore (j - k) (sh k E)) r c = sh (k + 1) E2 r c := fun r c hr hc => by
    show _ / p = E2 (k + 1 + r) (k + 1 + c)
    have hd := fair_div hff.fair hr hc
    rw [h2 (k + 1 + r) (k + 1 + c) (by omega) (by omega) (by omega) (by omega)]
    rw [ef, ef, ef, ef] at hd ⊢
    rw [show k + (r + 1) = k + 1 + r by omega, show k + (c + 1) = k + 1 + c by omega, Nat.add_zero] at hd ⊢
    rw [show E (swp k j (k + 1 + r)) (k + 1 + c) * E (swp k j k) k = E (swp k j k) k * E (swp k j (k + 1 + r)) (k + 1 + c) from Int.mul_comm _ _]
    rw [Int.fdiv_eq_ediv_of_dvd hd]
  refine ⟨by omega, ?_, ?_, ?_, ?_, ?_⟩
  · rcases h.sgn with q | q <;> split <;> omega
  · rw [← e00]
    exact hq
  · rw [hm', ← e00]
    have := fairB_congr en hF
    intro r f g hfg
    obtain ⟨q, q1, q2⟩ := this r f g hfg
    exact ⟨q, q1, by
      show _ ≤ db B (k + 1 + r + 1)
      rw [show k + 1 + r + 1 = k + (r + 1) + 1 by omega]
      exact q2⟩
  · have e2 : bare (m + 1) s p (sh k E) = bare m (if j - k = 0 then s else -s) (fore (j - k) (sh k E) 0 0) (nextB p (fore (j - k) (sh k E))) := by
      conv => lhs; unfold bare
      rw [hpv]
    have e3 : (if j = k then s else -s) = if j - k = 0 then s else -s := by
      by_cases h0 : j = k
      · rw [if_pos h0, if_pos (by omega)]
      · rw [if_neg h0, if_neg (by omega)]
    rw [hm', ← hv, e2, e00, e3]
    exact (bare_congr en).symm
  · rw [hs]
    exact h.ent hB1 hkj hj (Nat.le_refl _) (by omega)
end LW
/-! DT: a table whose rows are lists that change: how it lies; meanings of the layer read over a heap that is taken as it is. -/
namespace DT
open PySem PySem.Spec L2 PyProof.Rows TL LW
section
variable {K : PySem.W.Frag} {mg : Str → Option Value} {W : WX} {H H' : Hp} {α : List Addr} {F : Hp} {μ : Mu}
theorem rep0 : Rep K [] H [] H := ⟨rfl, Same.refl _, fun k c h => by simp at h, fun i j a c c' h => by simp at h, fun a m => by simp at m⟩
theorem re_nil : RepE K α F [] [] := ⟨rfl, fun i w h => by simp at h⟩
theorem re_none {o : Option V} {ρ : Rho} {σ : L2.St} (h : RepE K α F ρ σ) : RepE K α F (none :: ρ) (o :: σ) :=
  ⟨by simp [h.len], fun i w e => by
    cases i with
    | zero => simp at e
    | succ i =>
      obtain ⟨v, h1, h2⟩ := h.at_ i w (by simpa using e)
      exact ⟨v, by simpa using h1, h2⟩⟩
theorem re_some {v : V} {w : Wv} {ρ : Rho} {σ : L2.St} (q : Rw K α F v w) (h : RepE K α F ρ σ) : RepE K α F (some w :: ρ) (some v :: σ) :=
  ⟨by simp [h.len], fun i u e => by
    cases i with
    | zero =>
      simp at e
      subst e
      exact ⟨v, rfl, q⟩
    | succ i =>
      obtain ⟨v, h1, h2⟩ := h.at_ i u (by simpa using e)
      exact ⟨v, by simpa using h1, h2⟩⟩
theorem re_int {i : Int} {ρ : Rho} {σ : L2.St} (h : RepE K α F ρ σ) : RepE K α F (some (.d (.int i)) :: ρ) (some (.int i) :: σ) := re_some (.int i) h
/-- an expression's meaning where all that stands is taken as data -/
theorem tE_use {f : Ev} {σ : L2.St} {Q : VK} {ρ : Rho} {x : PyData} (re : RepE K [] H ρ σ) (h : f ρ [] = .ok (.d x) []) (q : ∀ H' v, Same H H' → Dq K H' v x → Q v H') : tE K mg W f σ H Q :=
  ⟨ρ, [], [], H, rep0, re, by
    rw [h]
    exact fun α' F' H' e r v rv => q H' v (e.fro.trans r.sub) (Dq.mono r.sub rv)⟩
theorem tE_int {f : Ev} {σ : L2.St} {Q : VK} {ρ : Rho} {i : Int} (re : RepE K [] H ρ σ) (h : f ρ [] = .ok (.d (.int i)) []) (q : ∀ H', Same H H' → Q (.int i) H') : tE K mg W f σ H Q :=
  tE_use re h fun H' v s d => by
    cases d
    exact q H' s
theorem tT_use {f : Bv} {σ : L2.St} {Q : Bool → Hp → Prop} {ρ : Rho} {b : Bool} (re : RepE K [] H ρ σ) (h : f ρ [] = .ok b []) (q : ∀ H', Same H H' → Q b H') : tT K mg W f σ H Q :=
  ⟨ρ, [], [], H, rep0, re, by
    rw [h]
    exact fun α' F' H' e r => q H' (e.fro.trans r.sub)⟩
theorem rep_same (r : Rep K α F μ H) (s : Same H H') : Rep K α F μ H' ∧ Ext α F H α F H' := by
  have kp : ∀ a, H a ≠ none → H' a ≠ none := fun a h => by
    cases z : H a with
    | none => exact absurd z h
    | some o =>
      rw [s _ _ z]
      exact fun z => nomatch z
  refine ⟨⟨r.len, r.sub.trans s, fun k c h => ?_, r.inj, fun a m => kp a (r.had a m)⟩, ⟨⟨[], by simp⟩, Same.refl _, fun a o h _ => s _ _ h, kp, fun a h => .inl h, fun a h => .inl h⟩⟩
  obtain ⟨a, vs, h1, h2, h3, h4⟩ := r.cell k c h
  exact ⟨a, vs, h1, s _ _ h2, h3, h4⟩
theorem same_new {p : Addr} {o : HO} (hp : H p = none) : Same H (upd H p o) := fun b u h => by
  rw [upd_ne (ne_of_none h hp)]
  exact h
end
/-- a table at t, its rows at A, none of all this in H0 -/
structure Lay (H0 H : Hp) (t : Addr) (A : List Addr) (M : List (List Int)) : Prop where
  same : Same H0 H
  tn : H0 t = none
  ht : H t = some (.lst (A.map V.ref))
  la : A.length = M.length
  row : ∀ (i : Nat) a, A[i]? = some a → H0 a = none ∧ a ≠ t ∧ ∃ r, M[i]? = some r ∧ H a = some (.lst (r.map V.int))
  inj : ∀ (i j : Nat) a, A[i]? = some a → A[j]? = some a → i = j
section
variable {K : PySem.W.Frag} {H0 H H' : Hp} {t : Addr} {A : List Addr} {M : List (List Int)}
theorem Lay.mono (l : Lay H0 H t A M) (s : Same H H') : Lay H0 H' t A M :=
  ⟨l.same.trans s, l.tn, s _ _ l.ht, l.la, fun i a h => let ⟨h1, h2, r, h3, h4⟩ := l.row i a h; ⟨h1, h2, r, h3, s _ _ h4⟩, l.inj⟩
/-- something else is written -/
theorem Lay.off (l : Lay H0 H t A M) {D : Addr} {o : HO} (h0 : H0 D = none) (ht : D ≠ t) (hA : D ∉ A) : Lay H0 (upd H D o) t A M :=
  ⟨fun b u h => by
      rw [upd_ne (ne_of_none h h0)]
      exact l.same _ _ h, l.tn, by rw [upd_ne (Ne.symm ht)]; exact l.ht, l.la, fun i a h => by
      obtain ⟨h1, h2, r, h3, h4⟩ := l.row i a h
      have ne : a ≠ D := fun e => hA (by rw [← e]; exact List.mem_of_getElem? h)
      exact ⟨h1, h2, r, h3, by rw [upd_ne ne]; exact h4⟩, l.inj⟩
theorem Lay.rowAt (l : Lay H0 H t A M) {i : Nat} (hi : i < M.length) : ∃ a r, A[i]? = some a ∧ M[i]? = some r ∧ H a = some (.lst (r.map V.int)) := by
  have hA : i < A.length := by rw [l.la]; exact hi
  obtain ⟨_, _, r, h3, h4⟩ := l.row i A[i] (List.getElem?_eq_getElem hA)
  exact ⟨A[i], r, List.getElem?_eq_getElem hA, h3, h4⟩
def Lm (M : List (List Int)) : List PyData := M.map fun r => PyData.list (r.map PyData.int)
theorem dqInts {ns : List Int} : DqAll K H (ns.map V.int) (ns.map PyData.int) := DqAll.ofInts ns
theorem Lay.dq (l : Lay H0 H t A M) : Dq K H (.ref t) (.list (Lm M)) := by
  refine .lst (Ls.of l.ht) ?_
  have gen : ∀ (A : List Addr) (M : List (List Int)), A.length = M.length → (∀ (i : Nat) a, A[i]? = some a → ∃ r, M[i]? = some r ∧ H a = some (.lst (r.map V.int))) → DqAll K H (A.map V.ref) (Lm M) := by
    intro A
    induction A with
    | nil =>
      intro M hl _
      cases M with
      | nil => exact .nil
      | cons r M => cases hl
    | cons a A ih =>
      intro M hl h
      cases M with
      | nil => cases hl
      | cons r M =>
        obtain ⟨r', h1, h2⟩ := h 0 a rfl
        cases h1
        exact .cons (.lst (Ls.of h2) dqInts) (ih M (by simpa using hl) fun i b hb => h (i + 1) b (by simpa using hb))
  exact gen A M l.la fun i a h => let ⟨_, _, r, h3, h4⟩ := l.row i a h; ⟨r, h3, h4⟩
/-- a number is put into a row -/
theorem Lay.put (l : Lay H0 H t A M) {i j : Nat} {a : Addr} {r : List Int} {x : Int} (ha : A[i]? = some a) (hr : M[i]? = some r) : Lay H0 (upd H a (.lst ((r.map V.int).set j (.int x)))) t A (M.set i (r.set j x)) := by
  obtain ⟨h1, h2, r', h3, h4⟩ := l.row i a ha
  rw [hr] at h3
  cases h3
  refine ⟨fun b u h => by rw [upd_ne (ne_of_none h h1)]; exact l.same _ _ h, l.tn, by rw [upd_ne (Ne.symm h2)]; exact l.ht, by rw [List.length_set]; exact l.la, fun n b hb => ?_, l.inj⟩
  obtain ⟨q1, q2, s, q3, q4⟩ := l.row n b hb
  refine ⟨q1, q2, ?_⟩
  by_cases hn : n = i
  · subst hn
    rw [ha] at hb
    cases hb
    refine ⟨r.set j x, List.getElem?_set_self (List.getElem?_eq_some_iff.mp hr).1, ?_⟩
    rw [upd_same, List.map_set]
  · refine ⟨s, by rw [List.getElem?_set_ne (Ne.symm hn)]; exact q3, ?_⟩
    have ne : b ≠ a := fun e => hn (l.inj n i a (by rw [← e]; exact hb) ha)
    rw [upd_ne ne]
    exact q4
/-- two rows change their places -/
theorem Lay.swap (l : Lay H0 H t A M) {k j : Nat} {a b : Addr} (hkj : k ≠ j) (ha : A[k]? = some a) (hb : A[j]? = some b) {H2 : Hp} (hs : ∀ c u, c ≠ t → H c = some u → H2 c = some u) :
    Lay H0 (upd H2 t (.lst (((A.map V.ref).set k (.ref b)).set j (.ref a)))) t ((A.set k b).set j a) (exT M k j) := by
  have hkl : k < A.length := (List.getElem?_eq_some_iff.mp ha).1
  have hjl : j < A.length := (List.getElem?_eq_some_iff.mp hb).1
  have key : ∀ (n : Nat) c, ((A.set k b).set j a)[n]? = some c → A[swp k j n]? = some c := fun n c h => by
    unfold swp
    by_cases h1 : n = k
    · subst h1
      rw [if_pos rfl, hb]
      rw [List.getElem?_set_ne (Ne.symm hkj), List.getElem?_set_self hkl] at h
      exact h
    · rw [if_neg h1]
      by_cases h2 : n = j
      · subst h2
        rw [if_pos rfl, ha]
        rw [List.getElem?_set_self (by rw [List.length_set]; exact hjl)] at h
        exact h
      · rw [if_neg h2]
        rw [List.getElem?_set_ne (Ne.symm h2), List.getElem?_set_ne (Ne.symm h1)] at h
        exact h
  have keyM : ∀ (n : Nat) r, M[swp k j n]? = some r → (exT M k j)[n]? = some r := fun n r h => by
    have hkM : k < M.length := by rw [← l.la]; exact hkl
    have hjM : j < M.length := by rw [← l.la]; exact hjl
    unfold exT
    unfold swp at h
    by_cases h1 : n = k
    · subst h1
      rw [if_pos rfl] at h
      rw [List.getElem?_set_ne (Ne.symm hkj), List.getElem?_set_self hkM, List.getD_eq_getElem?_getD, h]
      rfl
    · rw [if_neg h1] at h
      by_cases h2 : n = j
      · subst h2
        rw [if_pos rfl] at h
        rw [List.getElem?_set_self (by rw [List.length_set]; exact hjM), List.getD_eq_getElem?_getD, h]
        rfl
      · rw [if_neg h2] at h
        rw [List.getElem?_set_ne (Ne.symm h2), List.getElem?_set_ne (Ne.symm h1)]
        exact h
  have swi : ∀ n m : Nat, swp k j n = swp k j m → n = m := fun n m h => by
    unfold swp at h
    repeat' split at h
    all_goals omega
  refine ⟨fun c u h => ?_, l.tn, ?_, ?_, fun n c h => ?_, fun n m c h1 h2 => swi n m (l.inj _ _ c (key n c h1) (key m c h2))⟩
  · rw [upd_ne (ne_of_none h l.tn)]
    exact hs _ _ (ne_of_none h l.tn) (l.same _ _ h)
  · rw [upd_same, List.map_set, List.map_set]
  · unfold exT
    rw [List.length_set, List.length_set, List.length_set, List.length_set]
    exact l.la
  · obtain ⟨q1, q2, r, q3, q4⟩ := l.row _ c (key n c h)
    exact ⟨q1, q2, r, keyM n r q3, by rw [upd_ne q2]; exact hs _ _ q2 q4⟩
/-- a row is laid behind -/
theorem Lay.add (l : Lay H0 H t A M) {p : Addr} {r : List Int} (hp : H p = none) : Lay H0 (upd (upd H p (.lst (r.map V.int))) t (.lst (A.map V.ref ++ [.ref p]))) t (A ++ [p]) (M ++ [r]) := by
  have hp0 : H0 p = none := by
    cases z : H0 p with
    | none => rfl
    | some o =>
      rw [l.same _ _ z] at hp
      cases hp
  have hpt : p ≠ t := fun e => by rw [e, l.ht] at hp; cases hp
  have hpA : ∀ (i : Nat) a, A[i]? = some a → a ≠ p := fun i a h e => by
    obtain ⟨_, _, r, _, h4⟩ := l.row i a h
    rw [e, hp] at h4
    cases h4
  refine ⟨fun b u h => ?_, l.tn, by rw [upd_same, List.map_append]; rfl, by simp [l.la], fun i a h => ?_, fun i j a h1 h2 => ?_⟩
  · rw [upd_ne (ne_of_none h l.tn), upd_ne (ne_of_none h hp0)]
    exact l.same _ _ h
  · by_cases hi : i < A.length
    · rw [List.getElem?_append_left hi] at h
      obtain ⟨h1, h2, s, h3, h4⟩ := l.row i a h
      exact ⟨h1, h2, s, by rw [List.getElem?_append_left (by rw [← l.la]; exact hi)]; exact h3, by rw [upd_ne h2, upd_ne (hpA i a h)]; exact h4⟩
    · rw [List.getElem?_append_right (by omega)] at h
      have h0 : i - A.length = 0 := by
        by_cases z : i - A.length = 0
        · exact z
        · rw [List.getElem?_eq_none (by simp; omega)] at h
          cases h
      rw [h0] at h
      cases h
      refine ⟨hp0, hpt, r, ?_, by rw [upd_ne hpt, upd_same]⟩
      rw [List.getElem?_append_right (by rw [← l.la]; omega), ← l.la, h0]
      rfl
  · have key : ∀ i : Nat, (A ++ [p])[i]? = some a → (A[i]? = some a ∧ i < A.length) ∨ (i = A.length ∧ a = p) := fun i h => by
      by_cases hi : i < A.length
      · rw [List.getElem?_append_left hi] at h
        exact .inl ⟨h, hi⟩
      · have hi0 : i = A.length := by
          have := (List.getElem?_eq_some_iff.mp h).1
          rw [List.length_append] at this
          simp at this
          omega
        subst hi0
        rw [List.getElem?_append_right (Nat.le_refl _), Nat.sub_self] at h
        exact .inr ⟨rfl, (Option.some.inj h).symm⟩
    rcases key i h1 with ⟨a1, b1⟩ | ⟨a1, b1⟩ <;> rcases key j h2 with ⟨a2, b2⟩ | ⟨a2, b2⟩
    · exact l.inj i j a a1 a2
    · exact absurd b2 (hpA i a a1)
    · exact absurd b1 (hpA j a a2)
    · omega
end
end DT
/-! DT2: determinant_of: what its body asks, read. -/
namespace DT
open PySem PySem.Spec TL LW
open L2 (upd upd_same upd_ne Same SqL SqT HO V Hp TS TE TI tSeq tAsg tTup tCons tLc iList tVar gName tYes tCB tC tNil gTup gCons gNil iRng1 iRng2 tFor tIfS tRet tNext tOp rIxL rSetL Ends VK atI ixN iteT iteF ite2 lc_list lc_range for_range)
/-! ### entries -/
theorem Lm_len {M : List (List Int)} : (Lm M).length = M.length := List.length_map _
theorem Lm_at {M : List (List Int)} {n : Nat} (hn : n < M.length) : atI (Lm M) (n : Int) = some (.list ((M.getD n []).map PyData.int)) := at_n (by
  unfold Lm
  rw [List.getElem?_map, List.getD_eq_getElem?_getD, List.getElem?_eq_getElem hn]
  rfl)
theorem Lr_at {N : Nat} {M : List (List Int)} {r c : Nat} (h : Tab N M) (hr : r < N) (hc : c < N) : atI ((M.getD r []).map PyData.int) (c : Int) = some (.int (Ent M r c)) := at_n (by
  rw [List.getElem?_map, List.getElem?_eq_getElem (by rw [h.row hr]; exact hc)]
  unfold Ent
  rw [List.getD_eq_getElem?_getD (l := M.getD r []), List.getElem?_eq_getElem (by rw [h.row hr]; exact hc)]
  rfl)
theorem Ent_put {M : List (List Int)} {n c r' c' : Nat} {row : List Int} {x : Int} (hr : M[n]? = some row) (hc : c < row.length) : Ent (M.set n (row.set c x)) r' c' = if r' = n ∧ c' = c then x else Ent M r' c' := by
  rw [Ent_set (List.getElem?_eq_some_iff.mp hr).1]
  by_cases h : r' = n
  · subst h
    rw [if_pos rfl]
    have e : Ent M r' c' = row.getD c' 0 := by
      unfold Ent
      rw [List.getD_eq_getElem?_getD (l := M), hr]
      rfl
    rw [e, List.getD_eq_getElem?_getD, List.getD_eq_getElem?_getD]
    by_cases h2 : c' = c
    · subst h2
      rw [List.getElem?_set_self hc, if_pos ⟨rfl, rfl⟩]
      rfl
    · rw [List.getElem?_set_ne (Ne.symm h2), if_neg fun z => h2 z.2]
  · rw [if_neg h, if_neg fun z => h z.1]
theorem m_ij {ρ : Rho} {M : List (List Int)} {N i j r c : Nat} (h : Tab N M) (hr : r < N) (hc : c < N) (h2 : eVar 2 ρ [] = .ok (.d (.list (Lm M))) []) (hi : eVar i ρ [] = .ok (.d (.int (r : Int))) []) (hj : eVar j ρ [] = .ok (.d (.int (c : Int))) []) :
    e2 gIx (e2 gIx (eVar 2) (eVar i)) (eVar j) ρ [] = .ok (.d (.int (Ent M r c))) [] := by
  have a1 := Lm_at (M := M) (n := r) (by rw [h.1]; exact hr)
  have a2 := Lr_at h hr hc
  generalize M.getD r [] = R at *
  simp [h2, hi, hj, a1, a2]
/-! ### sizes -/
def Sm (x : Int) : Prop := x.natAbs < 2 ^ 8000
theorem Sm.of {x : Int} {k : Nat} (h : x.natAbs ≤ 2 ^ k) (hk : k ≤ 7900) : Sm x := Nat.lt_of_le_of_lt h (Nat.pow_lt_pow_right (by omega) (by omega))
theorem bits_le {i : Int} {n : Nat} (h : i.natAbs < 2 ^ n) : Builtin.Int.intBits i ≤ n + 1 := by
  unfold Builtin.Int.intBits
  split
  · omega
  · by_cases h0 : i.natAbs = 0
    · rw [h0]
      simp
    · have := (Nat.log2_lt h0).mpr h
      omega
theorem d_times {μ : Mu} {i j : Int} (h1 : Sm i) (h2 : Sm j) : gTimes (.d (.int i)) (.d (.int j)) μ = .ok (.d (.int (i * j))) μ := by
  show (if mulOk i j = true then Out.ok (wI (i * j)) μ else Out.bad) = _
  rw [if_pos]
  unfold mulOk
  have a := bits_le h1
  have b := bits_le h2
  exact @decide_eq_true _ (Classical.propDecidable _) (by omega)
theorem d_div {μ : Mu} {i j : Int} (h : j ≠ 0) (h2 : Sm j) : gDiv (.d (.int i)) (.d (.int j)) μ = .ok (.d (.int (i.fdiv j))) μ := by
  show (if j = 0 ∨ Builtin.divisionGoesByPylong i j = true then Out.bad else Out.ok (wI (i.fdiv j)) μ) = _
  have z : Builtin.divisionGoesByPylong i j = false := by
    unfold Builtin.divisionGoesByPylong
    have hj : (j == 0) = false := by
      rw [beq_eq_false_iff_ne]
      omega
    have hl : j.natAbs.log2 < 8000 := (Nat.log2_lt (by omega)).mpr h2
    simp only [hj]
    have : ¬ (j.natAbs.log2 / 30 + 1 > 300) := by omega
    simp [this]
  rw [if_neg]
  rw [z]
  simp
  omega
/-! ### the pieces of the body -/
section
variable (K : PySem.W.Frag) (mg : Str → Option Value)
def tLn : TE := tE K mg W0 (en gLen (aCons (eVar 2) aNil))
def rLst : List V → Hp → VK → Prop := fun xs H Q => ∃ p ys, xs = [V.ref p] ∧ (SqL K H p ys ∨ SqT K H p ys) ∧ ∀ l, H l = none → Q (.ref l) (upd H l (.lst ys))
def dS1 : TS := tAsg (tTup (tCons (tLc (iList K (tVar 0)) (gName 8) tYes (tCB (rLst K) (tCons (tVar 8) tNil)) [8]) (tCons (tC (.int 1)) (tCons (tC (.int 1)) tNil)))) (gTup K 3 (gCons (gName 2) (gCons (gName 3) (gCons (gName 4) gNil))))
def dB1 : TS := tAsg (tLc (iRng2 (tCons (tE K mg W0 (eVar 1)) (tCons (tLn K mg) tNil))) (gName 6) (tT K mg W0 (tB' (e2 (gEq true) (e2 gIx (e2 gIx (eVar 2) (eVar 6)) (eVar 1)) (eK (.int 0))))) (tVar 6) [6]) (gName 5)
def dB2 : TS := tIfS (tT K mg W0 (tB' (e2 (gEq false) (eVar 5) (eFrz (lDisp aNil))))) (tRet (tC (.int 0))) tNext
def tF0 : TE := tE K mg W0 (e2 gIx (eVar 5) (eK (.int 0)))
def dSw : TS := tAsg (tTup (tCons (tOp (rIxL K) (tVar 2) (tF0 K mg)) (tCons (tOp (rIxL K) (tVar 2) (tVar 1)) tNil))) (gTup K 2 (gCons (L2.gSub (tVar 2) (tVar 1) rSetL) (gCons (L2.gSub (tVar 2) (tF0 K mg) rSetL) gNil)))
def dB3 : TS := tIfS (tT K mg W0 (tB' (e2 (gEq true) (e2 gIx (eVar 5) (eK (.int 0))) (eVar 1)))) (tSeq (dSw K mg) (tAsg (tE K mg W0 (e1 gNeg (eVar 3))) (gName 3))) tNext
def iBe : TI := iRng2 (tCons (tE K mg W0 (e2 gPlus (eVar 1) (eK (.int 1)))) (tCons (tLn K mg) tNil))
def dP1 : TS := tAsg (tE K mg W0 (e2 gSub (e2 gTimes (e2 gIx (e2 gIx (eVar 2) (eVar 6)) (eVar 7)) (e2 gIx (e2 gIx (eVar 2) (eVar 1)) (eVar 1))) (e2 gTimes (e2 gIx (e2 gIx (eVar 2) (eVar 6)) (eVar 1)) (e2 gIx (e2 gIx (eVar 2) (eVar 1)) (eVar 7))))) (gName 9)
def dP2 : TS := tAsg (tE K mg W0 (e2 gDiv (eVar 9) (eVar 4))) (L2.gSub (tOp (rIxL K) (tVar 2) (tVar 6)) (tVar 7) rSetL)
def dB4i : TS := tFor (iBe K mg) (gName 7) (tSeq (dP1 K mg) (dP2 K mg))
def dB4 : TS := tFor (iBe K mg) (gName 6) (dB4i K mg)
def dB5 : TS := tAsg (tE K mg W0 (e2 gIx (e2 gIx (eVar 2) (eVar 1)) (eVar 1))) (gName 4)
def dT : TS := tSeq (dB1 K mg) (tSeq (dB2 K mg) (tSeq (dB3 K mg) (tSeq (dB4 K mg) (dB5 K mg))))
def dS2 : TS := tFor (iRng1 (tCons (tLn K mg) tNil)) (gName 1) (dT K mg)
def dS3 : TS := tRet (tE K mg W0 (e2 gTimes (eVar 3) (eVar 4)))
def dAll : TS := tSeq (dS1 K) (tSeq (dS2 K mg) (dS3 K mg))
end
/-- the slots -/
abbrev sl (v0 : V) (t : Addr) (s p : Int) (o1 o5 o6 o7 o8 o9 : Option V) : L2.St := [some v0, o1, some (.ref t), some (.int s), some (.int p), o5, o6, o7, o8, o9]
abbrev sr (M : List (List Int)) (s p : Int) (w1 w5 w6 w7 w9 : Option Wv) : Rho := [none, w1, some (.d (.list (Lm M))), some (.d (.int s)), some (.d (.int p)), w5, w6, w7, none, w9]
section
variable {K : PySem.W.Frag} {mg : Str → Option Value} {H0 H : Hp} {t : Addr} {A : List Addr} {M : List (List Int)} {v0 : V} {s p : Int} {o1 o5 o6 o7 o8 o9 : Option V} {N k : Nat} {D : Ends}
/-- what is known of a slot -/
def Kn (K : PySem.W.Frag) (H : Hp) (o : Option V) (w : Option Wv) : Prop := ∀ u, w = some u → ∃ v, o = some v ∧ Rw K [] H v u
theorem kn0 {o : Option V} : Kn K H o none := fun u e => nomatch e
theorem knI {i : Int} : Kn K H (some (.int i)) (some (.d (.int i))) := fun u e => by
  cases e
  exact ⟨_, rfl, .int i⟩
theorem Kn.mono {H' : Hp} {o : Option V} {w : Option Wv} (h : Kn K H o w) (s : Same H H') (hw : ∀ u, w = some u → ∃ x, u = .d x) : Kn K H' o w := fun u e => by
  obtain ⟨v, h1, h2⟩ := h u e
  obtain ⟨x, rfl⟩ := hw u e
  exact ⟨v, h1, Dq.mono s h2⟩
theorem re_kn {o : Option V} {w : Option Wv} {ρ : Rho} {σ : L2.St} (q : Kn K H o w) (h : RepE K [] H ρ σ) : RepE K [] H (w :: ρ) (o :: σ) := by
  cases w with
  | none => exact re_none h
  | some u =>
    obtain ⟨v, rfl, h2⟩ := q u rfl
    exact re_some h2 h
theorem re_sl {w1 w5 w6 w7 w9 : Option Wv} (l : Lay H0 H t A M) (k1 : Kn K H o1 w1) (k5 : Kn K H o5 w5) (k6 : Kn K H o6 w6) (k7 : Kn K H o7 w7) (k9 : Kn K H o9 w9) : RepE K [] H (sr M s p w1 w5 w6 w7 w9) (sl v0 t s p o1 o5 o6 o7 o8 o9) :=
  re_none (re_kn k1 (re_some (show Dq K H (.ref t) (.list (Lm M)) from l.dq) (re_int (re_int (re_kn k5 (re_kn k6 (re_kn k7 (re_none (re_kn k9 re_nil)))))))))
theorem ln_use {Q : VK} (l : Lay H0 H t A M) (q : ∀ H', Same H H' → Q (.int (M.length : Int)) H') : tLn K mg (sl v0 t s p o1 o5 o6 o7 o8 o9) H Q :=
  tE_int (i := (M.length : Int)) (re_sl (w1 := none) (w5 := none) (w6 := none) (w7 := none) (w9 := none) l kn0 kn0 kn0 kn0 kn0) (by simp [Lm_len]) q
/-- the places from k on at which the column k is not 0 -/
def fl (M : List (List Int)) (k i : Nat) : List Nat := (List.range i).filter fun n => !(Ent M (k + n) k == 0)
theorem fl_succ {i : Nat} : fl M k (i + 1) = fl M k i ++ if (!(Ent M (k + i) k == 0)) = true then [i] else [] := by
  unfold fl
  rw [List.range_succ, List.filter_append]
  congr 1
  rw [List.filter_cons, List.filter_nil]
theorem fl_len {i : Nat} : (fl M k i).length ≤ i := by
  unfold fl
  exact Nat.le_trans (List.length_filter_le _ _) (by rw [List.length_range]; exact Nat.le_refl _)
def flV (M : List (List Int)) (k i : Nat) : List V := (fl M k i).map fun n : Nat => V.int ((k : Int) + (n : Int))
def flD (M : List (List Int)) (k i : Nat) : List PyData := (fl M k i).map fun n : Nat => PyData.int ((k : Int) + (n : Int))
theorem b1_reads (l : Lay H0 H t A M) (hT : Tab N M) (hk : k < N) (hN : N ≤ 1000)
    (q : ∀ H' B, Lay H0 H' t A M → H' B = some (.lst (flV M k (N - k))) → D.nx (sl v0 t s p (some (.int k)) (some (.ref B)) o6 o7 o8 o9) H') : dB1 K mg D (sl v0 t s p (some (.int k)) o5 o6 o7 o8 o9) H := by
  refine tE_int (i := (k : Int)) (re_sl (w1 := some (.d (.int k))) (w5 := none) (w6 := none) (w7 := none) (w9 := none) l knI kn0 kn0 kn0 kn0) (by simp) fun H1 s1 => ?_
  have l1 := l.mono s1
  refine ln_use l1 fun H2 s2 => ?_
  have l2 := l1.mono s2
  refine ⟨(k : Int), (M.length : Int), rfl, ⟨by omega, by omega, by omega, by rw [hT.1]; omega⟩, fun B hB => ?_⟩
  have hBt : B ≠ t := fun e => by rw [e, l2.ht] at hB; cases hB
  have hBA : B ∉ A := fun m => by
    obtain ⟨i, hi⟩ := List.mem_iff_getElem?.mp m
    obtain ⟨_, _, r, _, h4⟩ := l2.row i B hi
    rw [h4] at hB
    cases hB
  have hB0 : H0 B = none := by
    cases z : H0 B with
    | none => rfl
    | some o =>
      rw [l2.same _ _ z] at hB
      cases hB
  have hn : ((M.length : Int) - (k : Int)).toNat = N - k := by rw [hT.1]; omega
  rw [hn]
  refine lc_range (lo := (k : Int)) (n := N - k) (fun i H => Lay H0 H t A M ∧ H B = some (.lst (flV M k i))) ⟨l2.off hB0 hBt hBA, upd_same⟩ (fun i H3 hi ⟨l3, h3⟩ => ?_) (fun H3 ⟨l3, h3⟩ => q H3 B l3 h3)
  refine ⟨rfl, ?_⟩
  have re : RepE K [] H3 (sr M s p (some (.d (.int k))) none (some (.d (.int ((k + i : Nat) : Int)))) none none) (sl v0 t s p (some (.int k)) o5 (some (.int ((k : Int) + (i : Int)))) o7 o8 o9) := by
    rw [show (k : Int) + (i : Int) = ((k + i : Nat) : Int) by omega]
    exact re_sl l3 knI kn0 knI kn0 kn0
  refine tT_use (b := !(Ent M (k + i) k == 0)) re ?_ fun H4 s4 => ?_
  · have m := m_ij (ρ := sr M s p (some (.d (.int k))) none (some (.d (.int ((k + i : Nat) : Int)))) none none) (i := 6) (j := 1) (r := k + i) (c := k) hT (by omega) hk (by simp) (by simp) (by simp)
    rw [x_tB, TL.x_e2, m]
    simp
  · have l4 := l3.mono s4
    have h4 := s4 _ _ h3
    refine ite2 (fun hb => ?_) (fun hb => ?_)
    · refine ⟨_, rfl, flV M k i, h4, ?_, l4.off hB0 hBt hBA, ?_⟩
      · unfold flV
        rw [List.length_map, sizeLine_eq]
        have := fl_len (M := M) (k := k) (i := i)
        omega
      · rw [upd_same]
        unfold flV
        rw [fl_succ, if_pos hb, List.map_append]
        rfl
    · refine ⟨l4, ?_⟩
      rw [h4]
      unfold flV
      rw [fl_succ, if_neg hb, List.append_nil]
def flI (M : List (List Int)) (k i : Nat) : List Int := (fl M k i).map fun n : Nat => (k : Int) + (n : Int)
theorem flV_is {i : Nat} : flV M k i = (flI M k i).map V.int := by
  unfold flV flI
  rw [List.map_map]
  rfl
theorem knL {B : Addr} {ns : List Int} (h : H B = some (.lst (ns.map V.int))) : Kn K H (some (.ref B)) (some (.d (.list (ns.map PyData.int)))) := fun u e => by
  cases e
  exact ⟨_, rfl, .lst (Ls.of h) dqInts⟩
theorem b2_nil {B : Addr} (l : Lay H0 H t A M) (hB : H B = some (.lst [])) (q : ∀ H', Same H H' → D.rt (.int 0) H') : dB2 K mg D (sl v0 t s p o1 (some (.ref B)) o6 o7 o8 o9) H := by
  refine tT_use (b := true) (re_sl (w1 := none) (w5 := some (.d (.list []))) (w6 := none) (w7 := none) (w9 := none) l kn0 (knL (ns := []) hB) kn0 kn0 kn0) (by simp) fun H1 s1 => ?_
  exact iteT (q H1 s1)
theorem b2_cons {B : Addr} {j : Int} {rest : List Int} (l : Lay H0 H t A M) (hB : H B = some (.lst ((j :: rest).map V.int))) (q : ∀ H', Same H H' → D.nx (sl v0 t s p o1 (some (.ref B)) o6 o7 o8 o9) H') : dB2 K mg D (sl v0 t s p o1 (some (.ref B)) o6 o7 o8 o9) H := by
  refine tT_use (b := false) (re_sl (w1 := none) (w5 := some (.d (.list ((j :: rest).map PyData.int)))) (w6 := none) (w7 := none) (w9 := none) l kn0 (knL hB) kn0 kn0 kn0) (by simp) fun H1 s1 => ?_
  exact iteF (q H1 s1)
theorem re_5 {B : Addr} {ns : List Int} (h : H B = some (.lst (ns.map V.int))) : RepE K [] H [none, none, none, none, none, some (.d (.list (ns.map PyData.int))), none, none, none, none] (sl v0 t s p o1 (some (.ref B)) o6 o7 o8 o9) :=
  re_none (re_none (re_none (re_none (re_none (re_kn (knL h) (re_none (re_none (re_none (re_none re_nil)))))))))
theorem f0_use {B : Addr} {j : Int} {rest : List Int} {Q : VK} (hB : H B = some (.lst ((j :: rest).map V.int))) (q : ∀ H', Same H H' → Q (.int j) H') : tF0 K mg (sl v0 t s p o1 (some (.ref B)) o6 o7 o8 o9) H Q :=
  tE_int (i := j) (re_5 hB) (by simp) q
theorem ix_ok {β : Type} {xs : List β} {n : Nat} (h : n < xs.length) : ixN xs.length (n : Int) = some n := by
  unfold ixN
  rw [if_pos (by omega), if_pos (by omega)]
  rfl
theorem b3_reads {B : Addr} {j : Nat} {rest : List Int} (l : Lay H0 H t A M) (hT : Tab N M) (hk : k < N) (hj : j < N) (hB : H B = some (.lst (((j : Int) :: rest).map V.int))) (hBt : B ≠ t)
    (q : ∀ H' A', Lay H0 H' t A' (if j = k then M else exT M k j) → D.nx (sl v0 t (if j = k then s else -s) p (some (.int k)) (some (.ref B)) o6 o7 o8 o9) H') : dB3 K mg D (sl v0 t s p (some (.int k)) (some (.ref B)) o6 o7 o8 o9) H := by
  refine tT_use (b := !((j : Int) == (k : Int))) (re_sl (w1 := some (.d (.int k))) (w5 := some (.d (.list (((j : Int) :: rest).map PyData.int)))) (w6 := none) (w7 := none) (w9 := none) l knI (knL hB) kn0 kn0 kn0) (by simp) fun H1 s1 => ?_
  have l1 := l.mono s1
  have hB1 := s1 _ _ hB
  by_cases h : j = k
  · subst h
    have e : (!((j : Int) == (j : Int))) = false := by simp
    rw [e]
    rw [if_pos rfl, if_pos rfl] at q
    exact iteF (q H1 A l1)
  · have e : (!((j : Int) == (k : Int))) = true := by
      have : ((j : Int) == (k : Int)) = false := by
        rw [beq_eq_false_iff_ne]
        omega
      rw [this]
      rfl
    rw [e]
    rw [if_neg h, if_neg h] at q
    have hkA : k < A.length := by rw [l.la, hT.1]; exact hk
    have hjA : j < A.length := by rw [l.la, hT.1]; exact hj
    have ak : A[k]? = some A[k] := List.getElem?_eq_getElem hkA
    have aj : A[j]? = some A[j] := List.getElem?_eq_getElem hjA
    have atk : atI (A.map V.ref) (k : Int) = some (V.ref A[k]) := at_n (by rw [List.getElem?_map, ak]; rfl)
    have atj : atI (A.map V.ref) (j : Int) = some (V.ref A[j]) := at_n (by rw [List.getElem?_map, aj]; rfl)
    refine iteT ?_
    refine ⟨_, rfl, f0_use hB1 fun H2 s2 => ⟨t, _, (j : Int), V.ref A[j], rfl, rfl, SqL.of (l1.mono s2).ht, atj, ⟨_, rfl, _, rfl, t, _, (k : Int), V.ref A[k], rfl, rfl, SqL.of (l1.mono s2).ht, atk, ⟨by show 2 ≤ sizeLine; rw [sizeLine_eq]; omega, fun pp hp => ?_⟩⟩⟩⟩
    have l2 := l1.mono s2
    have l3 := l2.mono (same_new (o := .tup [V.ref A[j], V.ref A[k]]) hp)
    have hB3 := same_new (o := .tup [V.ref A[j], V.ref A[k]]) hp _ _ (s2 _ _ hB1)
    refine ⟨pp, _, rfl, .inl (.inl upd_same), rfl, _, _, rfl, _, rfl, _, rfl, t, _, (k : Int), k, rfl, rfl, l3.ht, ?_, _, _, rfl, _, rfl, f0_use (rest := rest) (by rw [upd_ne hBt]; exact hB3) fun H4 s4 => ⟨t, _, (j : Int), j, rfl, rfl, s4 _ _ upd_same, ?_, rfl, ?_⟩⟩
    · exact ix_ok (by rw [List.length_map]; exact hkA)
    · exact ix_ok (by rw [List.length_set, List.length_map]; exact hjA)
    · have l4 := l3.swap (k := k) (j := j) (H2 := H4) (Ne.symm h) ak aj fun c u hc hu => s4 _ _ (by rw [upd_ne hc]; exact hu)
      refine tE_int (i := -s) (re_sl (w1 := none) (w5 := none) (w6 := none) (w7 := none) (w9 := none) l4 kn0 kn0 kn0 kn0 kn0) (by simp) fun H5 s5 => ?_
      exact q H5 _ (l4.mono s5)
theorem b5_reads (l : Lay H0 H t A M) (hT : Tab N M) (hk : k < N) (q : ∀ H', Same H H' → D.nx (sl v0 t s (Ent M k k) (some (.int k)) o5 o6 o7 o8 o9) H') : dB5 K mg D (sl v0 t s p (some (.int k)) o5 o6 o7 o8 o9) H :=
  tE_int (i := Ent M k k) (re_sl (w1 := some (.d (.int k))) (w5 := none) (w6 := none) (w7 := none) (w9 := none) l knI kn0 kn0 kn0 kn0) (m_ij hT hk hk (by simp) (by simp) (by simp)) q
theorem be_use {R : L2.It → Hp → Prop} (l : Lay H0 H t A M) (hT : Tab N M) (hk : k < N) (hN : N ≤ 1000) (q : ∀ H', Same H H' → R (L2.Itr ((k + 1 : Nat) : Int) (N - (k + 1))) H') : iBe K mg (sl v0 t s p (some (.int k)) o5 o6 o7 o8 o9) H R := by
  refine tE_int (i := (k : Int) + 1) (re_sl (w1 := some (.d (.int k))) (w5 := none) (w6 := none) (w7 := none) (w9 := none) l knI kn0 kn0 kn0 kn0) (by simp) fun H1 s1 => ?_
  refine ln_use (l.mono s1) fun H2 s2 => ?_
  refine ⟨(k : Int) + 1, (M.length : Int), rfl, ⟨by omega, by omega, by omega, by rw [hT.1]; omega⟩, ?_⟩
  have e : ((M.length : Int) - ((k : Int) + 1)).toNat = N - (k + 1) := by rw [hT.1]; omega
  rw [e]
  exact q H2 (s1.trans s2)
/-- what comes into a place -/
def qt (M : List (List Int)) (k : Nat) (p : Int) (r c : Nat) : Int := (Ent M r c * Ent M k k - Ent M r k * Ent M k c).fdiv p
theorem p_reads {M1 : List (List Int)} {n c : Nat} (l : Lay H0 H t A M1) (hT : Tab N M1) (hk : k < N) (hn : n < N) (hc : c < N) (hp : p ≠ 0) (hps : Sm p)
    (s1 : Sm (Ent M1 n c)) (s2 : Sm (Ent M1 k k)) (s3 : Sm (Ent M1 n k)) (s4 : Sm (Ent M1 k c))
    (q : ∀ H' M2, Lay H0 H' t A M2 → Tab N M2 → (∀ r' c', Ent M2 r' c' = if r' = n ∧ c' = c then (Ent M1 n c * Ent M1 k k - Ent M1 n k * Ent M1 k c).fdiv p else Ent M1 r' c') → ∀ o, D.nx (sl v0 t s p (some (.int k)) o5 (some (.int n)) (some (.int c)) o8 o) H') :
    tSeq (dP1 K mg) (dP2 K mg) D (sl v0 t s p (some (.int k)) o5 (some (.int n)) (some (.int c)) o8 o9) H := by
  have re := re_sl (K := K) (v0 := v0) (s := s) (p := p) (o5 := o5) (o8 := o8) (o9 := o9) (w1 := some (.d (.int k))) (w5 := none) (w6 := some (.d (.int n))) (w7 := some (.d (.int c))) (w9 := none) l knI kn0 knI knI kn0
  have m1 := m_ij (ρ := sr M1 s p (some (.d (.int k))) none (some (.d (.int n))) (some (.d (.int c))) none) (i := 6) (j := 7) (r := n) (c := c) hT hn hc (by simp) (by simp) (by simp)
  have m2 := m_ij (ρ := sr M1 s p (some (.d (.int k))) none (some (.d (.int n))) (some (.d (.int c))) none) (i := 1) (j := 1) (r := k) (c := k) hT hk hk (by simp) (by simp) (by simp)
  have m3 := m_ij (ρ := sr M1 s p (some (.d (.int k))) none (some (.d (.int n))) (some (.d (.int c))) none) (i := 6) (j := 1) (r := n) (c := k) hT hn hk (by simp) (by simp) (by simp)
  have m4 := m_ij (ρ := sr M1 s p (some (.d (.int k))) none (some (.d (.int n))) (some (.d (.int c))) none) (i := 1) (j := 7) (r := k) (c := c) hT hk hc (by simp) (by simp) (by simp)
  have t1 := d_times (μ := []) s1 s2
  have t2 := d_times (μ := []) s3 s4
  refine tE_int (i := Ent M1 n c * Ent M1 k k - Ent M1 n k * Ent M1 k c) re ?_ fun H1 x1 => ?_
  · rw [TL.x_e2, TL.x_e2, m1, Out.bind_ok, m2, Out.bind_ok, t1, x_calm, Out.bind_ok, TL.x_e2, m3, Out.bind_ok, m4, Out.bind_ok, t2, x_calm, Out.bind_ok]
    simp
  have l1 := l.mono x1
  have re2 := re_sl (K := K) (v0 := v0) (s := s) (p := p) (o5 := o5) (o8 := o8) (w1 := some (.d (.int k))) (w5 := none) (w6 := some (.d (.int n))) (w7 := some (.d (.int c))) l1 knI kn0 knI knI (knI (i := Ent M1 n c * Ent M1 k k - Ent M1 n k * Ent M1 k c))
  refine tE_int (i := (Ent M1 n c * Ent M1 k k - Ent M1 n k * Ent M1 k c).fdiv p) re2 ?_ fun H2 x2 => ?_
  · have d := d_div (μ := []) (i := Ent M1 n c * Ent M1 k k - Ent M1 n k * Ent M1 k c) hp hps
    generalize Ent M1 n c * Ent M1 k k - Ent M1 n k * Ent M1 k c = Z at *
    simp [d]
  have l2 := l1.mono x2
  obtain ⟨a, r, ha, hr, hrow⟩ := l2.rowAt (i := n) (by rw [hT.1]; exact hn)
  have hrl : r.length = N := by
    have := hT.row hn
    rw [List.getD_eq_getElem?_getD, hr] at this
    exact this
  have atn : atI (A.map V.ref) (n : Int) = some (V.ref a) := at_n (by rw [List.getElem?_map, ha]; rfl)
  refine ⟨_, rfl, _, rfl, t, _, (n : Int), V.ref a, rfl, rfl, SqL.of l2.ht, atn, _, rfl, a, _, (c : Int), c, rfl, rfl, hrow, ix_ok (by rw [List.length_map, hrl]; exact hc), ?_⟩
  exact q _ _ (l2.put ha hr) (hT.set (by rw [List.length_set]; exact hrl)) (fun r' c' => Ent_put hr (by rw [hrl]; exact hc)) _
theorem b4_reads (l : Lay H0 H t A M) (hT : Tab N M) (hk : k < N) (hN : N ≤ 1000) (hp : p ≠ 0) (hps : Sm p) (hs : ∀ r c, k ≤ r → r < N → k ≤ c → c < N → Sm (Ent M r c))
    (q : ∀ H' M2, Lay H0 H' t A M2 → Tab N M2 → (∀ r c, r < N → c < N → Ent M2 r c = if k < r ∧ k < c then qt M k p r c else Ent M r c) → ∀ o6 o7 o9, D.nx (sl v0 t s p (some (.int k)) o5 o6 o7 o8 o9) H') :
    dB4 K mg D (sl v0 t s p (some (.int k)) o5 o6 o7 o8 o9) H := by
  unfold dB4 tFor
  refine be_use l hT hk hN fun H1 s1 => ?_
  refine for_range (g := gName 6) (tb := dB4i K mg) (D := D) (lo := ((k + 1 : Nat) : Int)) (n := N - (k + 1)) (fun i σ H => ∃ M1 o6 o7 o9, σ = sl v0 t s p (some (.int k)) o5 o6 o7 o8 o9 ∧ Lay H0 H t A M1 ∧ Tab N M1 ∧ ∀ r c, r < N → c < N → Ent M1 r c = if k < r ∧ r < k + 1 + i ∧ k < c then qt M k p r c else Ent M r c)
    ⟨M, o6, o7, o9, rfl, l.mono s1, hT, fun r c hr hc => by rw [if_neg (by omega)]⟩ (fun i σ H2 hi ⟨M1, o6, o7, o9, e, l1, hT1, hE⟩ => ?_) (fun σ H2 ⟨M1, o6, o7, o9, e, l1, hT1, hE⟩ => ?_)
  · subst e
    rw [show ((k + 1 : Nat) : Int) + (i : Int) = ((k + 1 + i : Nat) : Int) by omega]
    unfold gName dB4i tFor
    refine be_use (o6 := some (.int ((k + 1 + i : Nat) : Int))) l1 hT1 hk hN fun H3 s3 => ?_
    refine for_range (g := gName 7) (tb := tSeq (dP1 K mg) (dP2 K mg)) (D := ⟨_, D.rt, D.nx, _⟩) (lo := ((k + 1 : Nat) : Int)) (n := N - (k + 1)) (fun j σ H => ∃ M2 o7 o9, σ = sl v0 t s p (some (.int k)) o5 (some (.int ((k + 1 + i : Nat) : Int))) o7 o8 o9 ∧ Lay H0 H t A M2 ∧ Tab N M2 ∧ ∀ r c, r < N → c < N → Ent M2 r c = if r = k + 1 + i ∧ k < c ∧ c < k + 1 + j then qt M k p r c else Ent M1 r c)
      ⟨M1, o7, o9, rfl, l1.mono s3, hT1, fun r c hr hc => by rw [if_neg (by omega)]⟩ (fun j σ H4 hj ⟨M2, o7, o9, e, l2, hT2, hE2⟩ => ?_) (fun σ H4 ⟨M2, o7, o9, e, l2, hT2, hE2⟩ => ?_)
    · subst e
      rw [show ((k + 1 : Nat) : Int) + (j : Int) = ((k + 1 + j : Nat) : Int) by omega]
      have g : ∀ r c, r < N → c < N → (r = k + 1 + i → k < c → k + 1 + j ≤ c) → (r = k + 1 + i ∨ r = k) → Ent M2 r c = Ent M r c := fun r c hr hc h1 h2 => by
        rw [hE2 r c hr hc, if_neg (by omega), hE r c hr hc, if_neg (by omega)]
      have g1 := g (k + 1 + i) (k + 1 + j) (by omega) (by omega) (by omega) (by omega)
      have g2 := g k k (by omega) (by omega) (by omega) (by omega)
      have g3 := g (k + 1 + i) k (by omega) (by omega) (by omega) (by omega)
      have g4 := g k (k + 1 + j) (by omega) (by omega) (by omega) (by omega)
      refine p_reads (n := k + 1 + i) (c := k + 1 + j) l2 hT2 hk (by omega) (by omega) hp hps (by rw [g1]; exact hs _ _ (by omega) (by omega) (by omega) (by omega)) (by rw [g2]; exact hs _ _ (by omega) hk (by omega) hk) (by rw [g3]; exact hs _ _ (by omega) (by omega) (by omega) hk) (by rw [g4]; exact hs _ _ (by omega) hk (by omega) (by omega)) fun H5 M3 l3 hT3 hE3 o => ?_
      refine ⟨M3, _, o, rfl, l3, hT3, fun r c hr hc => ?_⟩
      rw [hE3]
      by_cases h : r = k + 1 + i ∧ c = k + 1 + j
      · obtain ⟨rfl, rfl⟩ := h
        rw [if_pos ⟨rfl, rfl⟩, if_pos (by omega), g1, g2, g3, g4]
        rfl
      · rw [if_neg h, hE2 r c hr hc]
        by_cases h2 : r = k + 1 + i ∧ k < c ∧ c < k + 1 + j
        · rw [if_pos h2, if_pos (by omega)]
        · rw [if_neg h2, if_neg (by omega)]
    · subst e
      refine ⟨M2, _, o7, o9, rfl, l2, hT2, fun r c hr hc => ?_⟩
      rw [hE2 r c hr hc]
      by_cases h : r = k + 1 + i ∧ k < c ∧ c < k + 1 + (N - (k + 1))
      · rw [if_pos h, if_pos (by omega)]
      · rw [if_neg h, hE r c hr hc]
        by_cases h2 : k < r ∧ r < k + 1 + i ∧ k < c
        · rw [if_pos h2, if_pos (by omega)]
        · rw [if_neg h2, if_neg (by omega)]
  · subst e
    refine q H2 M1 l1 hT1 (fun r c hr hc => ?_) o6 o7 o9
    rw [hE r c hr hc]
    by_cases h : k < r ∧ k < c
    · rw [if_pos h, if_pos (by omega)]
    · rw [if_neg h, if_neg (by omega)]
/-- a table of tuples -/
def Lt (M : List (List Int)) : List PyData := M.map fun r => PyData.tuple (r.map PyData.int)
structure OkT (M : List (List Int)) : Prop where
  tab : Tab M.length M
  le7 : M.length ≤ 7
  bd : ∀ r c, r < M.length → c < M.length → (Ent M r c).natAbs ≤ 2 ^ 140
theorem db_seven : db (2 ^ 140) 7 ≤ 2 ^ 1000 := by
  simp only [db]
  decide +kernel
theorem db_le7 {N : Nat} (h : N ≤ 7) : db (2 ^ 140) N ≤ 2 ^ 1000 := Nat.le_trans (db_mono (by decide) h) db_seven
theorem sameSq {K : PySem.W.Frag} {H H' : Hp} {a : Addr} {xs : List V} (s : Same H H') (h : SqL K H a xs) : SqL K H' a xs := h.elim (fun z => .inl (sameR s z)) .inr
/-- one turn of the outer loop -/
theorem t_reads {M0 : List (List Int)} (l : Lay H0 H t A M) (hT : Tab N M) (hN : N ≤ 7) (hk : k < N) (el : Elim2 N (2 ^ 140) 0 (Ent M0) k s p (Ent M))
    (q0 : det N (Ent M0) = 0 → ∀ H', Same H0 H' → D.rt (.int 0) H')
    (q : ∀ H' A' M' s' p' o5 o6 o7 o9, Lay H0 H' t A' M' → Tab N M' → Elim2 N (2 ^ 140) 0 (Ent M0) (k + 1) s' p' (Ent M') → D.nx (sl v0 t s' p' (some (.int k)) o5 o6 o7 o8 o9) H') :
    dT K mg D (sl v0 t s p (some (.int k)) o5 o6 o7 o8 o9) H := by
  have hbk := db_le7 hN
  have one : 1 ≤ 2 ^ 140 := by decide
  refine b1_reads l hT hk (by omega) fun H1 B l1 hB => ?_
  have hBt : B ≠ t := fun e => by
    rw [e, l1.ht] at hB
    have hB := HO.lst.inj (Option.some.inj hB)
    have hl := congrArg List.length hB
    rw [List.length_map, l1.la, hT.1, flV_is, List.length_map] at hl
    cases A with
    | nil =>
      have := l1.la
      rw [hT.1] at this
      simp at this
      omega
    | cons a A =>
      rw [flV_is] at hB
      cases hf : flI M k (N - k) with
      | nil =>
        rw [hf] at hB
        cases hB
      | cons z zs =>
        rw [hf] at hB
        cases hB
  rw [flV_is] at hB
  rcases filt_cases (fun n : Nat => !(Ent M (k + n) k == 0)) (List.range (N - k)) with ⟨h1, h2⟩ | ⟨i, x, rest, h1, h2, h3, h4⟩
  · have e : flI M k (N - k) = [] := by
      unfold flI fl
      rw [h1]
      rfl
    rw [e] at hB
    refine b2_nil l1 hB fun H2 s2 => q0 (el.none hk fun i hi hiN => ?_) H2 (l1.same.trans s2)
    have := h2 (i - k) (i - k) (List.getElem?_range (by omega))
    rw [show k + (i - k) = i by omega] at this
    simpa using this
  · have hin : i < N - k := by
      have := (List.getElem?_eq_some_iff.mp h1).1
      rwa [List.length_range] at this
    rw [List.getElem?_range hin] at h1
    cases h1
    have e : flI M k (N - k) = ((k + i : Nat) : Int) :: rest.map fun n : Nat => (k : Int) + (n : Int) := by
      unfold flI fl
      rw [h3, List.map_cons, show (k : Int) + (i : Int) = ((k + i : Nat) : Int) by omega]
    rw [e] at hB
    have hj : k + i < N := by omega
    have hne : Ent M (k + i) k ≠ 0 := by simpa using h2
    have hz : ∀ r, k ≤ r → r < k + i → Ent M r k = 0 := fun r hr hr2 => by
      have := h4 (r - k) (r - k) (by omega) (List.getElem?_range (by omega))
      rw [show k + (r - k) = r by omega] at this
      simpa using this
    generalize hjj : k + i = j at *
    have hT3 : Tab N (if j = k then M else exT M k j) := by
      split
      · exact hT
      · exact hT.ex hk hj
    have hE3 : ∀ r c, Ent (if j = k then M else exT M k j) r c = Ent M (swp k j r) c := fun r c => by
      split
      · rename_i q
        rw [q, Ent_same]
      · exact Ent_ex hT hk hj
    have hb3 : ∀ r c, k ≤ r → r < N → k ≤ c → c < N → Sm (Ent (if j = k then M else exT M k j) r c) := fun r c hr hr2 hc hc2 => by
      rw [hE3]
      refine Sm.of (k := 1000) (Nat.le_trans (el.ent one ?_ (swp_lt hk hj hr2) hc hc2) hbk) (by omega)
      unfold swp
      repeat' split
      all_goals omega
    refine b2_cons l1 hB fun H2 s2 => ?_
    refine b3_reads (l1.mono s2) hT hk hj (s2 _ _ hB) hBt fun H3 A3 l3 => ?_
    generalize (if j = k then M else exT M k j) = M3 at *
    refine b4_reads l3 hT3 hk (by omega) el.hp (Sm.of (Nat.le_trans el.pb hbk) (by omega)) hb3 fun H4 M4 l4 hT4 hE4 o6 o7 o9 => ?_
    refine b5_reads l4 hT4 hk fun H5 s5 => ?_
    have hkk : Ent M4 k k = Ent M (swp k j k) k := by
      rw [hE4 k k hk hk, if_neg (by omega), hE3]
    refine q H5 A3 M4 _ _ _ _ _ _ (l4.mono s5) hT4 ?_
    rw [hkk]
    refine el.step one (j := j) (by omega) hj hne hz (fun r c a1 a2 a3 a4 => ?_)
    rw [hE4 r c a2 a4, if_pos ⟨a1, a3⟩]
    unfold qt
    rw [hE3, hE3, hE3, hE3]
theorem s2_reads {M0 : List (List Int)} (l : Lay H0 H t A M0) (hok : OkT M0)
    (q0 : det M0.length (Ent M0) = 0 → ∀ H', Same H0 H' → D.rt (.int 0) H')
    (q : ∀ H' A' M' s' p' o1 o5 o6 o7 o9, Lay H0 H' t A' M' → Elim2 M0.length (2 ^ 140) 0 (Ent M0) M0.length s' p' (Ent M') → D.nx (sl v0 t s' p' o1 o5 o6 o7 o8 o9) H') :
    dS2 K mg D (sl v0 t 1 1 o1 o5 o6 o7 o8 o9) H := by
  have h6 := hok.le7
  refine ln_use l fun H1 s1 => ?_
  refine ⟨(M0.length : Int), rfl, by omega, by omega, ?_⟩
  have e : ((M0.length : Int)).toNat = M0.length := by omega
  rw [e]
  refine for_range (g := gName 1) (tb := dT K mg) (D := D) (lo := 0) (n := M0.length) (fun i σ H => ∃ A' M' s' p' o1 o5 o6 o7 o9, σ = sl v0 t s' p' o1 o5 o6 o7 o8 o9 ∧ Lay H0 H t A' M' ∧ Tab M0.length M' ∧ Elim2 M0.length (2 ^ 140) 0 (Ent M0) i s' p' (Ent M'))
    ⟨A, M0, 1, 1, o1, o5, o6, o7, o9, rfl, l.mono s1, hok.tab, Elim2.start (by decide) hok.bd⟩ (fun i σ H2 hi ⟨A', M', s', p', o1, o5, o6, o7, o9, e, l1, hT1, el⟩ => ?_) (fun σ H2 ⟨A', M', s', p', o1, o5, o6, o7, o9, e, l1, hT1, el⟩ => ?_)
  · subst e
    rw [Int.zero_add]
    exact t_reads (D := ⟨_, D.rt, D.nx, _⟩) l1 hT1 h6 hi el q0 fun H3 A3 M3 s3 p3 a b c d l3 hT3 el3 => ⟨A3, M3, s3, p3, _, a, b, c, d, rfl, l3, hT3, el3⟩
  · subst e
    exact q H2 A' M' s' p' o1 o5 o6 o7 o9 l1 el
theorem s1_reads {M0 : List (List Int)} {a0 : Addr} {xs : List V} (hs : SqL K H0 a0 xs) (hd : DqAll K H0 xs (Lt M0)) (h6 : M0.length ≤ 7)
    (q : ∀ H' t A, Lay H0 H' t A M0 → D.nx (sl (.ref a0) t 1 1 none none none none none none) H') : dS1 K D [some (.ref a0), none, none, none, none, none, none, none, none, none] H0 := by
  refine ⟨_, rfl, a0, rfl, ⟨xs, hs⟩, fun B hB => ?_⟩
  have hl : xs.length = M0.length := by
    rw [hd.length]
    unfold Lt
    rw [List.length_map]
  refine lc_list (xs := xs) (fun i H => ∃ A, Lay H0 H B A (M0.take i)) ⟨[], ⟨same_new hB, hB, upd_same, rfl, fun i a h => by simp at h, fun i j a h => by simp at h⟩⟩ (fun i H hi ⟨A, l⟩ => sameSq l.same hs) (fun i x H hx ⟨A, l⟩ => ?_) (fun H ⟨A, l⟩ => ?_)
  · obtain ⟨d, hd1, hd2⟩ := hd.getV hx
    unfold Lt at hd1
    rw [List.getElem?_map] at hd1
    cases hr : M0[i]? with
    | none => rw [hr] at hd1; cases hd1
    | some r =>
      rw [hr] at hd1
      cases hd1
      cases hd2 with
      | @tup b vs _ ht da =>
        have hv := da.ints
        subst hv
        refine ⟨rfl, ?_⟩
        unfold tYes
        dsimp only
        rw [if_pos rfl]
        refine ⟨_, rfl, b, r.map V.int, rfl, .inr (sameT l.same ht), fun p hp => ?_⟩
        have hBp : B ≠ p := fun e => by rw [← e, l.ht] at hp; cases hp
        have l2 := l.add (r := r) hp
        refine ⟨A.map V.ref, by rw [upd_ne hBp]; exact l.ht, ?_, A ++ [p], ?_⟩
        · rw [List.length_map, l.la, List.length_take, sizeLine_eq]
          omega
        · have ht : M0.take (i + 1) = M0.take i ++ [r] := by
            rw [List.take_succ, hr]
            rfl
          rw [ht]
          exact l2
  · rw [hl, List.take_length] at l
    refine ⟨by show 3 ≤ sizeLine; rw [sizeLine_eq]; omega, fun p hp => ?_⟩
    refine ⟨p, _, rfl, .inl (.inl upd_same), rfl, _, _, rfl, _, _, rfl, _, _, rfl, rfl, ?_⟩
    exact q _ B A (l.mono (same_new hp))
theorem all_reads {M0 : List (List Int)} {a0 : Addr} {xs : List V} {Q : VK} {nx : L2.St → Hp → Prop} (hs : SqL K H0 a0 xs) (hd : DqAll K H0 xs (Lt M0)) (hok : OkT M0) (hQ : ∀ H', Same H0 H' → Q (.int (det M0.length (Ent M0))) H') :
    dAll K mg ⟨nx, Q, fun _ _ => False, fun _ _ => False⟩ [some (.ref a0), none, none, none, none, none, none, none, none, none] H0 := by
  refine s1_reads hs hd hok.le7 fun H1 t A l => ?_
  refine s2_reads l hok (fun hz H' s => ?_) fun H2 A2 M2 s p o1 o5 o6 o7 o9 l2 el => ?_
  · have := hQ H' s
    rw [hz] at this
    exact this
  · have m := d_times (μ := []) (i := s) (j := p) (Sm.of (k := 1) (by rcases el.sgn with q | q <;> rw [q] <;> decide) (by omega)) (Sm.of (Nat.le_trans el.pb (db_le7 hok.le7)) (by omega))
    rw [el.done] at m
    refine tE_int (i := det M0.length (Ent M0)) (re_sl (w1 := none) (w5 := none) (w6 := none) (w7 := none) (w9 := none) l2 kn0 kn0 kn0 kn0 kn0) (by simp [m]) fun H3 s3 => hQ H3 (l2.same.trans s3)
end
section
open L2 (XK)
variable {P : Program} {w : World} {K : PySem.W.Frag} {mg : Str → Option Value} {base : Heap}
def unI : PyData → Int
  | .int i => i
  | _ => 0
def unR : PyData → List Int
  | .tuple xs => xs.map unI
  | _ => []
noncomputable def fDet : GF := fun ws μ => match ws with
  | [w] => match lstOf w μ with
    | some i => if @decide (i.xs = Lt (i.xs.map unR) ∧ OkT (i.xs.map unR)) (Classical.propDecidable _) = true then .ok (.d (.int (det (i.xs.map unR).length (Ent (i.xs.map unR))))) μ else .bad
    | none => .bad
  | _ => .bad
theorem fDet_in {vs : List V} {H : Hp} {Q : VK} {E : XK} (h : spG K mg 1 fDet vs H Q E) : ∃ a xs M, vs = [.ref a] ∧ SqL K H a xs ∧ DqAll K H xs (Lt M) ∧ OkT M ∧ ∀ H', Same H H' → Q (.int (det M.length (Ent M))) H' := by
  obtain ⟨ws, μ, α, F, r, rv, q⟩ := h
  unfold arity at q
  split at q
  · unfold fDet at q
    split at q
    · rename_i w _
      split at q
      · rename_i i e1
        split at q
        · rename_i hd
          obtain ⟨h1, h2⟩ := @of_decide_eq_true _ (Classical.propDecidable _) hd
          cases rv with
          | cons rw1 t1 =>
            cases t1
            have ti : tied i μ := by
              unfold lstOf at e1
              split at e1
              · cases e1
                exact tied_nil
              · split at e1
                · rename_i c hc
                  cases e1
                  intro p hp
                  cases List.mem_singleton.mp hp
                  exact hc
                · cases e1
              · cases e1
            obtain ⟨a, rfl, _, k⟩ := lkn r rw1 e1
            obtain ⟨xs, hs, d⟩ := k.at_ α F μ H r .refl ti
            rw [h1] at d
            refine ⟨a, xs, _, rfl, hs, d.mono r.sub, h2, fun H' s => ?_⟩
            obtain ⟨r2, x2⟩ := rep_same r s
            exact q α F H' x2 r2 _ (.int _)
        · exact q.elim
      · exact q.elim
    · exact q.elim
  · exact q.elim
end
end DT
namespace LW
open PySem PySem.Spec L2 PyProof.Rows TL
def top (i : Nat) : Stmt := PySem.Challenge.pw_twoletters_k27_discriminants_of_degrees.main.body.getD i (.Pass ⟨0, 0, 0, 0⟩)
theorem hu64 {A : Around} {k : Nat} (h : Room k A) : A.units + 64 < cLine := by
  have := h.un
  omega
theorem hu65 {A : Around} {k : Nat} (h : Room k A) : A.units + 65 < cLine := by
  have := h.un
  omega

abbrev st_is_whole : Stmt := top 4
theorem sc_is_whole : FnScope ["value"] ["value"] (defScope st_is_whole) := ⟨rfl, rfl, rfl, by decide +kernel, rfl, by decide +kernel, by decide +kernel⟩
theorem bd_is_whole {K : PySem.W.Frag} {f : Addr} {fd : FuncData} (F : Fun K "is_whole" "is_whole" st_is_whole f fd) : Binds K fd ["value"] [] := F.binds (ps := ["value"]) fun _ _ _ _ _ _ us hl => match us, hl with | [_], _ => rfl
noncomputable def b_is_whole : Sv :=
  (sRet (eAnd (e1 (gIsi "int") (eVar 0)) (eNot (e1 (gIsi "bool") (eVar 0)))))
noncomputable def f_is_whole : GF := runD 1 b_is_whole

abbrev st_is_rowed : Stmt := top 6
theorem sc_is_rowed : FnScope ["value", "each"] ["value"] (defScope st_is_rowed) := ⟨rfl, rfl, rfl, by decide +kernel, rfl, by decide +kernel, by decide +kernel⟩
theorem bd_is_rowed {K : PySem.W.Frag} {f : Addr} {fd : FuncData} (F : Fun K "is_rowed" "is_rowed" st_is_rowed f fd) : Binds K fd ["value"] [] := F.binds (ps := ["value"]) fun _ _ _ _ _ _ us hl => match us, hl with | [_], _ => rfl
noncomputable def b_is_rowed : Sv :=
  (sSeq (sIf (bOr (bNot (tB' (e1 (gIsi "tuple") (eVar 0)))) (bNot (tB' (en gAll (aCons (eFrz (lLc (iAny (eVar 0)) (gNm 1) bYes (cF 1 f_is_whole (aCons (eVar 1) aNil)) [1])) aNil))))) (sRet (eK (.bool false))) sNext)
    (sRet (eOr (e2 (gEq false) (eVar 0) (eTup aNil)) (e2 (gEq true) (e2 gIx (eVar 0) (e1 gNeg (eK (.int 1)))) (eK (.int 0))))))
noncomputable def f_is_rowed : GF := runD 2 b_is_rowed

abbrev st_trimmed : Stmt := top 7
theorem sc_trimmed : FnScope ["some", "last"] ["some"] (defScope st_trimmed) := ⟨rfl, rfl, rfl, by decide +kernel, rfl, by decide +kernel, by decide +kernel⟩
theorem bd_trimmed {K : PySem.W.Frag} {f : Addr} {fd : FuncData} (F : Fun K "trimmed" "trimmed" st_trimmed f fd) : Binds K fd ["some"] [] := F.binds (ps := ["some"]) fun _ _ _ _ _ _ us hl => match us, hl with | [_], _ => rfl
noncomputable def b_trimmed : Sv :=
  (sSeq (sAsg (en gLen (aCons (eVar 0) aNil)) (gNm 1))
    (sSeq (sWhile (bAnd (tB' (e2 (gCmp fun i j => decide (j < i)) (eVar 1) (eK (.int 0)))) (tB' (e2 (gEq false) (e2 gIx (eVar 0) (e2 gSub (eVar 1) (eK (.int 1)))) (eK (.int 0))))) (sAsg (e2 gSub (eVar 1) (eK (.int 1))) (gNm 1)))
    (sRet (en gTuple (aCons (eSl (eVar 0) none (some (eVar 1))) aNil)))))
noncomputable def f_trimmed : GF := runD 2 b_trimmed

abbrev st_sum_by : Stmt := top 8
theorem sc_sum_by : FnScope ["row", "other", "size", "one", "two", "here", "there"] ["row", "other"] (defScope st_sum_by) := ⟨rfl, rfl, rfl, by decide +kernel, rfl, by decide +kernel, by decide +kernel⟩
theorem bd_sum_by {K : PySem.W.Frag} {f : Addr} {fd : FuncData} (F : Fun K "sum_by" "sum_by" st_sum_by f fd) : Binds K fd ["row", "other"] [] := F.binds (ps := ["row", "other"]) fun _ _ _ _ _ _ us hl => match us, hl with | [_, _], _ => rfl
noncomputable def b_sum_by : Sv :=
  (sSeq (sAsg (en gMax (aCons (en gLen (aCons (eVar 0) aNil)) (aCons (en gLen (aCons (eVar 1) aNil)) aNil))) (gNm 2))
    (sSeq (sPar 3 4 (aCons (e2 gPlus (eVar 0) (e2 gTimesT (eTup (aCons (eK (.int 0)) aNil)) (e2 gSub (eVar 2) (en gLen (aCons (eVar 0) aNil))))) (aCons (e2 gPlus (eVar 1) (e2 gTimesT (eTup (aCons (eK (.int 0)) aNil)) (e2 gSub (eVar 2) (en gLen (aCons (eVar 1) aNil))))) aNil)))
    (sRet (cF 1 f_trimmed (aCons (eFrz (lLc (iZipS (aCons (eVar 3) (aCons (eVar 4) aNil))) (gTp [(gNm 5), (gNm 6)]) bYes (e2 gPlus (eVar 5) (eVar 6)) [5, 6])) aNil)))))
noncomputable def f_sum_by : GF := runD 7 b_sum_by

abbrev st_scaled : Stmt := top 9
theorem sc_scaled : FnScope ["row", "number", "each"] ["row", "number"] (defScope st_scaled) := ⟨rfl, rfl, rfl, by decide +kernel, rfl, by decide +kernel, by decide +kernel⟩
theorem bd_scaled {K : PySem.W.Frag} {f : Addr} {fd : FuncData} (F : Fun K "scaled" "scaled" st_scaled f fd) : Binds K fd ["row", "number"] [] := F.binds (ps := ["row", "number"]) fun _ _ _ _ _ _ us hl => match us, hl with | [_, _], _ => rfl
noncomputable def b_scaled : Sv :=
  (sRet (cF 1 f_trimmed (aCons (eFrz (lLc (iAny (eVar 0)) (gNm 2) bYes (e2 gTimes (eVar 1) (eVar 2)) [2])) aNil)))
noncomputable def f_scaled : GF := runD 3 b_scaled

abbrev st_gap_by : Stmt := top 10
theorem sc_gap_by : FnScope ["row", "other"] ["row", "other"] (defScope st_gap_by) := ⟨rfl, rfl, rfl, by decide +kernel, rfl, by decide +kernel, by decide +kernel⟩
theorem bd_gap_by {K : PySem.W.Frag} {f : Addr} {fd : FuncData} (F : Fun K "gap_by" "gap_by" st_gap_by f fd) : Binds K fd ["row", "other"] [] := F.binds (ps := ["row", "other"]) fun _ _ _ _ _ _ us hl => match us, hl with | [_, _], _ => rfl
noncomputable def b_gap_by : Sv :=
  (sRet (cF 2 f_sum_by (aCons (eVar 0) (aCons (cF 2 f_scaled (aCons (eVar 1) (aCons (e1 gNeg (eK (.int 1))) aNil))) aNil))))
noncomputable def f_gap_by : GF := runD 2 b_gap_by

abbrev st_product_by : Stmt := top 11
theorem sc_product_by : FnScope ["row", "other", "found", "at", "one", "to", "two"] ["row", "other"] (defScope st_product_by) := ⟨rfl, rfl, rfl, by decide +kernel, rfl, by decide +kernel, by decide +kernel⟩
theorem bd_product_by {K : PySem.W.Frag} {f : Addr} {fd : FuncData} (F : Fun K "product_by" "product_by" st_product_by f fd) : Binds K fd ["row", "other"] [] := F.binds (ps := ["row", "other"]) fun _ _ _ _ _ _ us hl => match us, hl with | [_, _], _ => rfl
noncomputable def b_product_by : Sv :=
  (sSeq (sIf (bOr (tB' (e2 (gEq false) (eVar 0) (eTup aNil))) (tB' (e2 (gEq false) (eVar 1) (eTup aNil)))) (sRet (eTup aNil)) sNext)
    (sSeq (sAsg (eNew (lRep (eFrz (lDisp (aCons (eK (.int 0)) aNil))) (e2 gSub (e2 gPlus (en gLen (aCons (eVar 0) aNil)) (en gLen (aCons (eVar 1) aNil))) (eK (.int 1))))) (gNm 2))
    (sSeq (sFor (iEnumT (aCons (eVar 0) aNil)) (gTp [(gNm 3), (gNm 4)]) (sFor (iEnumT (aCons (eVar 1) aNil)) (gTp [(gNm 5), (gNm 6)]) (sAsg (e2 gPlus (e2 gIx (eVar 2) (e2 gPlus (eVar 3) (eVar 5))) (e2 gTimes (eVar 4) (eVar 6))) (gSb (eVar 2) (e2 gPlus (eVar 3) (eVar 5))))))
    (sRet (cF 1 f_trimmed (aCons (eVar 2) aNil))))))
noncomputable def f_product_by : GF := runD 7 b_product_by

abbrev st_raised : Stmt := top 12
theorem sc_raised : FnScope ["row", "many"] ["row", "many"] (defScope st_raised) := ⟨rfl, rfl, rfl, by decide +kernel, rfl, by decide +kernel, by decide +kernel⟩
theorem bd_raised {K : PySem.W.Frag} {f : Addr} {fd : FuncData} (F : Fun K "raised" "raised" st_raised f fd) : Binds K fd ["row", "many"] [] := F.binds (ps := ["row", "many"]) fun _ _ _ _ _ _ us hl => match us, hl with | [_, _], _ => rfl
noncomputable def b_raised : Sv :=
  (sRet (eIf (tB' (e2 (gEq true) (eVar 0) (eTup aNil))) (e2 gPlus (e2 gTimesT (eTup (aCons (eK (.int 0)) aNil)) (eVar 1)) (eVar 0)) (eTup aNil)))
noncomputable def f_raised : GF := runD 2 b_raised

abbrev st_top_at : Stmt := top 13
theorem sc_top_at : FnScope ["row", "fraction", "each", "number", "under", "found", "power"] ["row", "fraction"] (defScope st_top_at) := ⟨rfl, rfl, rfl, by decide +kernel, rfl, by decide +kernel, by decide +kernel⟩
theorem bd_top_at {K : PySem.W.Frag} {f : Addr} {fd : FuncData} (F : Fun K "top_at" "top_at" st_top_at f fd) : Binds K fd ["row", "fraction"] [] := F.binds (ps := ["row", "fraction"]) fun _ _ _ _ _ _ us hl => match us, hl with | [_, _], _ => rfl
noncomputable def b_top_at : Sv :=
  (sSeq (sAsg (eVar 1) (gTp [(gNm 3), (gNm 4)]))
    (sSeq (sAsg (eTup (aCons (eK (.int 0)) (aCons (eK (.int 1)) aNil))) (gTp [(gNm 5), (gNm 6)]))
    (sSeq (sFor (iAny (e1 gRev (eVar 0))) (gNm 2) (sSeq (sAsg (e2 gPlus (e2 gTimes (eVar 5) (eVar 3)) (e2 gTimes (eVar 2) (eVar 6))) (gNm 5))
    (sAsg (e2 gTimes (eVar 6) (eVar 4)) (gNm 6))))
    (sRet (eVar 5)))))
noncomputable def f_top_at : GF := runD 7 b_top_at

abbrev st_determinant_of : Stmt := top 14
theorem sc_determinant_of : FnScope ["rows", "at", "table", "sign", "last", "found", "to", "by", "row", "product"] ["rows"] (defScope st_determinant_of) := ⟨rfl, rfl, rfl, by decide +kernel, rfl, by decide +kernel, by decide +kernel⟩
theorem bd_determinant_of {K : PySem.W.Frag} {f : Addr} {fd : FuncData} (F : Fun K "determinant_of" "determinant_of" st_determinant_of f fd) : Binds K fd ["rows"] [] := F.binds (ps := ["rows"]) fun _ _ _ _ _ _ us hl => match us, hl with | [_], _ => rfl
noncomputable def f_determinant_of : GF := DT.fDet

abbrev st_resultant_by : Stmt := top 15
theorem sc_resultant_by : FnScope ["row", "other", "degree", "other_degree", "one", "two", "rows", "at"] ["row", "other", "degree", "other_degree"] (defScope st_resultant_by) := ⟨rfl, rfl, rfl, by decide +kernel, rfl, by decide +kernel, by decide +kernel⟩
theorem bd_resultant_by {K : PySem.W.Frag} {f : Addr} {fd : FuncData} (F : Fun K "resultant_by" "resultant_by" st_resultant_by f fd) : Binds K fd ["row", "other", "degree", "other_degree"] [] := F.binds (ps := ["row", "other", "degree", "other_degree"]) fun _ _ _ _ _ _ us hl => match us, hl with | [_, _, _, _], _ => rfl
noncomputable def b_resultant_by : Sv :=
  (sSeq (sAsg (e2 gPlus (en gTuple (aCons (eVar 0) aNil)) (e2 gTimesT (eTup (aCons (eK (.int 0)) aNil)) (e2 gSub (e2 gPlus (eVar 2) (eK (.int 1))) (en gLen (aCons (eVar 0) aNil))))) (gNm 4))
    (sSeq (sAsg (e2 gPlus (en gTuple (aCons (eVar 1) aNil)) (e2 gTimesT (eTup (aCons (eK (.int 0)) aNil)) (e2 gSub (e2 gPlus (eVar 3) (eK (.int 1))) (en gLen (aCons (eVar 1) aNil))))) (gNm 5))
    (sSeq (sAsg (eNew (lDisp aNil)) (gNm 6))
    (sSeq (sFor (iR1 (aCons (eVar 3) aNil)) (gNm 7) (sExpr (eMeth1 gApp (eVar 6) (aCons (e2 gPlus (e2 gPlus (e2 gTimesT (eTup (aCons (eK (.int 0)) aNil)) (eVar 7)) (e1 gRev (eVar 4))) (e2 gTimesT (eTup (aCons (eK (.int 0)) aNil)) (e2 gSub (e2 gSub (eVar 3) (eK (.int 1))) (eVar 7)))) aNil))))
    (sSeq (sFor (iR1 (aCons (eVar 2) aNil)) (gNm 7) (sExpr (eMeth1 gApp (eVar 6) (aCons (e2 gPlus (e2 gPlus (e2 gTimesT (eTup (aCons (eK (.int 0)) aNil)) (eVar 7)) (e1 gRev (eVar 5))) (e2 gTimesT (eTup (aCons (eK (.int 0)) aNil)) (e2 gSub (e2 gSub (eVar 2) (eK (.int 1))) (eVar 7)))) aNil))))
    (sRet (cF 1 f_determinant_of (aCons (eVar 6) aNil))))))))
noncomputable def f_resultant_by : GF := runD 8 b_resultant_by

abbrev st_is_polyed : Stmt := top 17
theorem sc_is_polyed : FnScope ["value", "each"] ["value"] (defScope st_is_polyed) := ⟨rfl, rfl, rfl, by decide +kernel, rfl, by decide +kernel, by decide +kernel⟩
theorem bd_is_polyed {K : PySem.W.Frag} {f : Addr} {fd : FuncData} (F : Fun K "is_polyed" "is_polyed" st_is_polyed f fd) : Binds K fd ["value"] [] := F.binds (ps := ["value"]) fun _ _ _ _ _ _ us hl => match us, hl with | [_], _ => rfl
noncomputable def b_is_polyed : Sv :=
  (sSeq (sIf (bOr (bNot (tB' (e1 (gIsi "tuple") (eVar 0)))) (bNot (tB' (en gAll (aCons (eFrz (lLc (iAny (eVar 0)) (gNm 1) bYes (cF 1 f_is_rowed (aCons (eVar 1) aNil)) [1])) aNil))))) (sRet (eK (.bool false))) sNext)
    (sRet (eOr (e2 (gEq false) (eVar 0) (eTup aNil)) (e2 (gEq true) (e2 gIx (eVar 0) (e1 gNeg (eK (.int 1)))) (eTup aNil)))))
noncomputable def f_is_polyed : GF := runD 2 b_is_polyed

abbrev st_cut : Stmt := top 18
theorem sc_cut : FnScope ["rows", "last"] ["rows"] (defScope st_cut) := ⟨rfl, rfl, rfl, by decide +kernel, rfl, by decide +kernel, by decide +kernel⟩
theorem bd_cut {K : PySem.W.Frag} {f : Addr} {fd : FuncData} (F : Fun K "cut" "cut" st_cut f fd) : Binds K fd ["rows"] [] := F.binds (ps := ["rows"]) fun _ _ _ _ _ _ us hl => match us, hl with | [_], _ => rfl
noncomputable def b_cut : Sv :=
  (sSeq (sAsg (en gLen (aCons (eVar 0) aNil)) (gNm 1))
    (sSeq (sWhile (bAnd (tB' (e2 (gCmp fun i j => decide (j < i)) (eVar 1) (eK (.int 0)))) (tB' (e2 (gEq false) (e2 gIx (eVar 0) (e2 gSub (eVar 1) (eK (.int 1)))) (eTup aNil)))) (sAsg (e2 gSub (eVar 1) (eK (.int 1))) (gNm 1)))
    (sRet (en gTuple (aCons (eSl (eVar 0) none (some (eVar 1))) aNil)))))
noncomputable def f_cut : GF := runD 2 b_cut

abbrev st_derived_by : Stmt := top 19
theorem sc_derived_by : FnScope ["poly", "at", "row"] ["poly"] (defScope st_derived_by) := ⟨rfl, rfl, rfl, by decide +kernel, rfl, by decide +kernel, by decide +kernel⟩
theorem bd_derived_by {K : PySem.W.Frag} {f : Addr} {fd : FuncData} (F : Fun K "derived_by" "derived_by" st_derived_by f fd) : Binds K fd ["poly"] [] := F.binds (ps := ["poly"]) fun _ _ _ _ _ _ us hl => match us, hl with | [_], _ => rfl
noncomputable def b_derived_by : Sv :=
  (sRet (cF 1 f_cut (aCons (eSl (eFrz (lLc (iEnumT (aCons (eVar 0) aNil)) (gTp [(gNm 1), (gNm 2)]) bYes (cF 2 f_scaled (aCons (eVar 2) (aCons (eVar 1) aNil))) [1, 2])) (some (eK (.int 1))) none) aNil)))
noncomputable def f_derived_by : GF := runD 3 b_derived_by

abbrev st_exact_by : Stmt := top 20
theorem sc_exact_by : FnScope ["row", "part", "found", "rest", "step"] ["row", "part"] (defScope st_exact_by) := ⟨rfl, rfl, rfl, by decide +kernel, rfl, by decide +kernel, by decide +kernel⟩
theorem bd_exact_by {K : PySem.W.Frag} {f : Addr} {fd : FuncData} (F : Fun K "exact_by" "exact_by" st_exact_by f fd) : Binds K fd ["row", "part"] [] := F.binds (ps := ["row", "part"]) fun _ _ _ _ _ _ us hl => match us, hl with | [_, _], _ => rfl
noncomputable def b_exact_by : Sv :=
  (sSeq (sPar 2 3 (aCons (eTup aNil) (aCons (eVar 0) aNil)))
    (sSeq (sWhile (tB' (e2 (gEq true) (eVar 3) (eTup aNil))) (sSeq (sAsg (cF 2 f_raised (aCons (eTup (aCons (e2 gDiv (e2 gIx (eVar 3) (e1 gNeg (eK (.int 1)))) (e2 gIx (eVar 1) (e1 gNeg (eK (.int 1))))) aNil)) (aCons (e2 gSub (en gLen (aCons (eVar 3) aNil)) (en gLen (aCons (eVar 1) aNil))) aNil))) (gNm 4))
    (sPar 2 3 (aCons (cF 2 f_sum_by (aCons (eVar 2) (aCons (eVar 4) aNil))) (aCons (cF 2 f_gap_by (aCons (eVar 3) (aCons (cF 2 f_product_by (aCons (eVar 4) (aCons (eVar 1) aNil))) aNil))) aNil)))))
    (sRet (eVar 2))))
noncomputable def f_exact_by : GF := runD 5 b_exact_by

abbrev st_values_at : Stmt := top 21
theorem sc_values_at : FnScope ["poly", "number", "row"] ["poly", "number"] (defScope st_values_at) := ⟨rfl, rfl, rfl, by decide +kernel, rfl, by decide +kernel, by decide +kernel⟩
theorem bd_values_at {K : PySem.W.Frag} {f : Addr} {fd : FuncData} (F : Fun K "values_at" "values_at" st_values_at f fd) : Binds K fd ["poly", "number"] [] := F.binds (ps := ["poly", "number"]) fun _ _ _ _ _ _ us hl => match us, hl with | [_, _], _ => rfl
noncomputable def b_values_at : Sv :=
  (sRet (cF 1 f_trimmed (aCons (eFrz (lLc (iAny (eVar 0)) (gNm 2) bYes (cF 2 f_top_at (aCons (eVar 2) (aCons (eTup (aCons (eVar 1) (aCons (eK (.int 1)) aNil))) aNil))) [2])) aNil)))
noncomputable def f_values_at : GF := runD 3 b_values_at

abbrev st_row_through : Stmt := top 22
theorem sc_row_through : FnScope ["values", "under", "at", "found", "part", "share", "steps", "each", "one", "two"] ["values"] (defScope st_row_through) := ⟨rfl, rfl, rfl, by decide +kernel, rfl, by decide +kernel, by decide +kernel⟩
theorem bd_row_through {K : PySem.W.Frag} {f : Addr} {fd : FuncData} (F : Fun K "row_through" "row_through" st_row_through f fd) : Binds K fd ["values"] [] := F.binds (ps := ["values"]) fun _ _ _ _ _ _ us hl => match us, hl with | [_], _ => rfl
noncomputable def b_row_through : Sv :=
  (sSeq (sAsg (eK (.int 1)) (gNm 1))
    (sSeq (sFor (iR2 (aCons (eK (.int 1)) (aCons (en gLen (aCons (eVar 0) aNil)) aNil))) (gNm 2) (sAsg (e2 gTimes (eVar 1) (eVar 2)) (gNm 1)))
    (sSeq (sAsg (eTup (aCons (eTup aNil) (aCons (eTup (aCons (eK (.int 1)) aNil)) (aCons (eVar 1) (aCons (eFrz (lList (aCons (eVar 0) aNil))) aNil))))) (gTp [(gNm 3), (gNm 4), (gNm 5), (gNm 6)]))
    (sSeq (sFor (iR1 (aCons (en gLen (aCons (eVar 0) aNil)) aNil)) (gNm 2) (sSeq (sAsg (cF 2 f_sum_by (aCons (eVar 3) (aCons (cF 2 f_scaled (aCons (eVar 4) (aCons (e2 gTimes (e2 gIx (eVar 6) (eK (.int 0))) (eVar 5)) aNil))) aNil))) (gNm 3))
    (sSeq (sPar 4 5 (aCons (cF 2 f_product_by (aCons (eVar 4) (aCons (eTup (aCons (e1 gNeg (eVar 2)) (aCons (eK (.int 1)) aNil))) aNil))) (aCons (e2 gDiv (eVar 5) (e2 gPlus (eVar 2) (eK (.int 1)))) aNil)))
    (sAsg (eFrz (lLc (iZipS (aCons (eVar 6) (aCons (eSl (eVar 6) (some (eK (.int 1))) none) aNil))) (gTp [(gNm 8), (gNm 9)]) bYes (e2 gSub (eVar 9) (eVar 8)) [8, 9])) (gNm 6)))))
    (sRet (en gTuple (aCons (eFrz (lLc (iAny (eVar 3)) (gNm 7) bYes (e2 gDiv (eVar 7) (eVar 1)) [7])) aNil)))))))
noncomputable def f_row_through : GF := runD 10 b_row_through

abbrev st_width_of : Stmt := top 23
theorem sc_width_of : FnScope ["poly", "row"] ["poly"] (defScope st_width_of) := ⟨rfl, rfl, rfl, by decide +kernel, rfl, by decide +kernel, by decide +kernel⟩
theorem bd_width_of {K : PySem.W.Frag} {f : Addr} {fd : FuncData} (F : Fun K "width_of" "width_of" st_width_of f fd) : Binds K fd ["poly"] [] := F.binds (ps := ["poly"]) fun _ _ _ _ _ _ us hl => match us, hl with | [_], _ => rfl
noncomputable def b_width_of : Sv :=
  (sRet (e2 gSub (en gMax (aCons (e2 gPlus (eFrz (lDisp (aCons (eK (.int 1)) aNil))) (eFrz (lLc (iAny (eVar 0)) (gNm 1) bYes (en gLen (aCons (eVar 1) aNil)) [1]))) aNil)) (eK (.int 1))))
noncomputable def f_width_of : GF := runD 2 b_width_of

abbrev st_resultant_of : Stmt := top 24
theorem sc_resultant_of : FnScope ["poly", "other", "most", "values", "number", "here", "there"] ["poly", "other"] (defScope st_resultant_of) := ⟨rfl, rfl, rfl, by decide +kernel, rfl, by decide +kernel, by decide +kernel⟩
theorem bd_resultant_of {K : PySem.W.Frag} {f : Addr} {fd : FuncData} (F : Fun K "resultant_of" "resultant_of" st_resultant_of f fd) : Binds K fd ["poly", "other"] [] := F.binds (ps := ["poly", "other"]) fun _ _ _ _ _ _ us hl => match us, hl with | [_, _], _ => rfl
noncomputable def b_resultant_of : Sv :=
  (sSeq (sPar 5 6 (aCons (e2 gSub (en gLen (aCons (eVar 0) aNil)) (eK (.int 1))) (aCons (e2 gSub (en gLen (aCons (eVar 1) aNil)) (eK (.int 1))) aNil)))
    (sSeq (sAsg (e2 gPlus (e2 gTimes (eVar 6) (cF 1 f_width_of (aCons (eVar 0) aNil))) (e2 gTimes (eVar 5) (cF 1 f_width_of (aCons (eVar 1) aNil)))) (gNm 2))
    (sSeq (sAsg (eNew (lDisp aNil)) (gNm 3))
    (sSeq (sFor (iR1 (aCons (e2 gPlus (eVar 2) (eK (.int 1))) aNil)) (gNm 4) (sExpr (eMeth1 gApp (eVar 3) (aCons (cF 4 f_resultant_by (aCons (cF 2 f_values_at (aCons (eVar 0) (aCons (eVar 4) aNil))) (aCons (cF 2 f_values_at (aCons (eVar 1) (aCons (eVar 4) aNil))) (aCons (eVar 5) (aCons (eVar 6) aNil))))) aNil))))
    (sRet (cF 1 f_row_through (aCons (eVar 3) aNil)))))))
noncomputable def f_resultant_of : GF := runD 7 b_resultant_of

abbrev st_discriminant_of : Stmt := top 25
theorem sc_discriminant_of : FnScope ["poly", "degree", "found"] ["poly"] (defScope st_discriminant_of) := ⟨rfl, rfl, rfl, by decide +kernel, rfl, by decide +kernel, by decide +kernel⟩
theorem bd_discriminant_of {K : PySem.W.Frag} {f : Addr} {fd : FuncData} (F : Fun K "discriminant_of" "discriminant_of" st_discriminant_of f fd) : Binds K fd ["poly"] [] := F.binds (ps := ["poly"]) fun _ _ _ _ _ _ us hl => match us, hl with | [_], _ => rfl
noncomputable def b_discriminant_of : Sv :=
  (sSeq (sAsg (e2 gSub (en gLen (aCons (eVar 0) aNil)) (eK (.int 1))) (gNm 1))
    (sSeq (sAsg (cF 2 f_exact_by (aCons (cF 2 f_resultant_of (aCons (eVar 0) (aCons (cF 1 f_derived_by (aCons (eVar 0) aNil)) aNil))) (aCons (e2 gIx (eVar 0) (e1 gNeg (eK (.int 1)))) aNil))) (gNm 2))
    (sRet (eIf (tB' (e2 (gEq false) (e2 gMod (e2 gDiv (e2 gTimes (eVar 1) (e2 gSub (eVar 1) (eK (.int 1)))) (eK (.int 2))) (eK (.int 2))) (eK (.int 1)))) (cF 2 f_scaled (aCons (eVar 2) (aCons (e1 gNeg (eK (.int 1))) aNil))) (eVar 2)))))
noncomputable def f_discriminant_of : GF := runD 3 b_discriminant_of

abbrev st_check_poly : Stmt := top 27
theorem sc_check_poly : FnScope ["value", "least"] ["value", "least"] (defScope st_check_poly) := ⟨rfl, rfl, rfl, by decide +kernel, rfl, by decide +kernel, by decide +kernel⟩
theorem bdA_check_poly {K : PySem.W.Frag} {f : Addr} {fd : FuncData} (F : FunD K "check_poly" "check_poly" (defArgs st_check_poly) (defBody st_check_poly) (defScope st_check_poly) [(V.int (0))] [] f fd) : Binds K fd ["value", "least"] [] := by
  obtain ⟨ds, r, b⟩ := F.binds1 (ps := ["value", "least"]) 2 1 (by simp) rfl (fun T kV doc pm an cdv ct us its hu hi => match us, hu, its, hi with | [_, _], _, [_], _ => ⟨_, rfl, rfl⟩)
  cases (show Vals [] ds from r)
  exact b
theorem bdD_check_poly {K : PySem.W.Frag} {f : Addr} {fd : FuncData} (F : FunD K "check_poly" "check_poly" (defArgs st_check_poly) (defBody st_check_poly) (defScope st_check_poly) [(V.int (0))] [] f fd) : ∃ ds, Vals [(V.int (0))] ds ∧ Binds K fd ["value", "least"] ds := F.binds1 (ps := ["value", "least"]) 1 0 (by simp) rfl (fun T kV doc pm an cdv ct us its hu hi => match us, hu, its, hi with | [_], _, [_], _ => ⟨_, rfl, rfl⟩)
noncomputable def b_check_poly : Sv :=
  (sIf (bOr (bNot (tB' (cF 1 f_is_polyed (aCons (eVar 0) aNil)))) (tB' (e2 (gCmp fun i j => decide (i < j)) (en gLen (aCons (eVar 0) aNil)) (eVar 1)))) sNever sNext)
noncomputable def f_check_poly : GF := runD 2 b_check_poly

abbrev st_discriminant : Stmt := top 29
theorem sc_discriminant : FnScope ["poly"] ["poly"] (defScope st_discriminant) := ⟨rfl, rfl, rfl, by decide +kernel, rfl, by decide +kernel, by decide +kernel⟩
theorem bd_discriminant {K : PySem.W.Frag} {f : Addr} {fd : FuncData} (F : Fun K "discriminant" "discriminant" st_discriminant f fd) : Binds K fd ["poly"] [] := F.binds (ps := ["poly"]) fun _ _ _ _ _ _ us hl => match us, hl with | [_], _ => rfl
noncomputable def b_discriminant : Sv :=
  (sSeq (sExpr (cF 2 f_check_poly (aCons (eVar 0) (aCons (eK (.int 2)) aNil))))
    (sRet (cF 1 f_discriminant_of (aCons (eVar 0) aNil))))
noncomputable def f_discriminant : GF := runD 1 b_discriminant

abbrev st_law_well : Stmt := top 31
theorem sc_law_well : FnScope ["_law_script", "_law_at", "_law_mixed", "_law_cell", "_law_own"] ["_law_script", "_law_at"] (defScope st_law_well) := ⟨rfl, rfl, rfl, by decide +kernel, rfl, by decide +kernel, by decide +kernel⟩
theorem bd_law_well {K : PySem.W.Frag} {f : Addr} {fd : FuncData} (F : Fun K "_law_well" "_law_well" st_law_well f fd) : Binds K fd ["_law_script", "_law_at"] [] := F.binds (ps := ["_law_script", "_law_at"]) fun _ _ _ _ _ _ us hl => match us, hl with | [_, _], _ => rfl
noncomputable def b_law_well : Sv :=
  (sSeq (sAsg (e2 gPlus (eK (.int 827039)) (e2 gTimes (eK (.int 7127)) (eVar 1))) (gNm 2))
    (sSeq (sFor (iAny (eSl (eVar 0) none (some (eK (.int 9))))) (gNm 3) (sAsg (e2 gMod (en gInt (aCons (e2 gPlus (e2 gPlus (e2 gTimes (eVar 2) (eK (.int 48029))) (e2 gMod (en gInt (aCons (eVar 3) aNil)) (eK (.int 2147483587)))) (eK (.int 5))) aNil)) (eK (.int 2147483563))) (gNm 2)))
    (sSeq (sAsg (eIf (tB' (e2 (gCmp fun i j => decide (i < j)) (eVar 1) (en gLen (aCons (eVar 0) aNil)))) (en gInt (aCons (e2 gIx (eVar 0) (eVar 1)) aNil)) (eK (.int 0))) (gNm 4))
    (sSeq (sAsg (e2 gMod (en gInt (aCons (e2 gPlus (e2 gPlus (e2 gTimes (eVar 2) (eK (.int 43))) (e2 gTimes (e2 gMod (en gInt (aCons (eVar 4) aNil)) (eK (.int 2147483587))) (eK (.int 20047)))) (eK (.int 13))) aNil)) (eK (.int 2147483563))) (gNm 2))
    (sRet (eNew (lDisp (aCons (eIf (bOr (tB' (e2 (gCmp fun i j => decide (i < j)) (eVar 4) (eK (.int 0)))) (tB' (e2 (gCmp fun i j => decide (j ≤ i)) (eVar 4) (e2 gPow (eK (.int 10)) (eK (.int 14)))))) (en gAbs (aCons (eVar 4) aNil)) (eK (.int 0))) (aCons (eVar 2) (aCons (eK (.int 0)) aNil))))))))))
noncomputable def f_law_well : GF := runD 5 b_law_well

abbrev st_law_draw : Stmt := top 32
theorem sc_law_draw : FnScope ["_law_well_here", "_law_many", "_law_seed", "_law_figure"] ["_law_well_here", "_law_many"] (defScope st_law_draw) := ⟨rfl, rfl, rfl, by decide +kernel, rfl, by decide +kernel, by decide +kernel⟩
theorem bd_law_draw {K : PySem.W.Frag} {f : Addr} {fd : FuncData} (F : Fun K "_law_draw" "_law_draw" st_law_draw f fd) : Binds K fd ["_law_well_here", "_law_many"] [] := F.binds (ps := ["_law_well_here", "_law_many"]) fun _ _ _ _ _ _ us hl => match us, hl with | [_, _], _ => rfl
noncomputable def b_law_draw : Sv :=
  (sSeq (sIf (tB' (e2 (gCmp fun i j => decide (j < i)) (e2 gIx (eVar 0) (eK (.int 0))) (eK (.int 0)))) (sSeq (sAsg (en gDivmod (aCons (e2 gIx (eVar 0) (eK (.int 0))) (aCons (eVar 1) aNil))) (gTp [(gSb (eVar 0) (eK (.int 0))), (gNm 3)]))
    (sRet (eVar 3))) sNext)
    (sSeq (sAsg (e2 gPlus (e2 gIx (eVar 0) (eK (.int 2))) (eK (.int 1))) (gSb (eVar 0) (eK (.int 2))))
    (sSeq (sAsg (e2 gMod (en gInt (aCons (e2 gPlus (e2 gIx (eVar 0) (eK (.int 1))) (e2 gTimes (eK (.int 60037)) (e2 gIx (eVar 0) (eK (.int 2))))) aNil)) (eK (.int 2147483563))) (gNm 2))
    (sSeq (sAsg (e2 gMod (en gInt (aCons (e2 gPlus (e2 gTimes (eVar 2) (e2 gPlus (e2 gMod (en gInt (aCons (eVar 2) aNil)) (eK (.int 5011))) (eK (.int 40031)))) (e2 gTimes (eK (.int 39)) (e2 gIx (eVar 0) (eK (.int 2))))) aNil)) (eK (.int 2147483563))) (gSb (eVar 0) (eK (.int 1))))
    (sRet (e2 gMod (en gInt (aCons (e2 gDiv (e2 gIx (eVar 0) (eK (.int 1))) (eK (.int 659))) aNil)) (eVar 1)))))))
noncomputable def f_law_draw : GF := runD 4 b_law_draw

abbrev st_law_pick : Stmt := top 33
theorem sc_law_pick : FnScope ["_law_well_here", "_law_some"] ["_law_well_here", "_law_some"] (defScope st_law_pick) := ⟨rfl, rfl, rfl, by decide +kernel, rfl, by decide +kernel, by decide +kernel⟩
theorem bd_law_pick {K : PySem.W.Frag} {f : Addr} {fd : FuncData} (F : Fun K "_law_pick" "_law_pick" st_law_pick f fd) : Binds K fd ["_law_well_here", "_law_some"] [] := F.binds (ps := ["_law_well_here", "_law_some"]) fun _ _ _ _ _ _ us hl => match us, hl with | [_, _], _ => rfl
noncomputable def b_law_pick : Sv :=
  (sRet (e2 gIx (eVar 1) (cF 2 f_law_draw (aCons (eVar 0) (aCons (en gLen (aCons (eVar 1) aNil)) aNil)))))
noncomputable def f_law_pick : GF := runD 2 b_law_pick

abbrev st_law_trim : Stmt := top 34
theorem sc_law_trim : FnScope ["_law_some", "_law_made"] ["_law_some"] (defScope st_law_trim) := ⟨rfl, rfl, rfl, by decide +kernel, rfl, by decide +kernel, by decide +kernel⟩
theorem bd_law_trim {K : PySem.W.Frag} {f : Addr} {fd : FuncData} (F : Fun K "_law_trim" "_law_trim" st_law_trim f fd) : Binds K fd ["_law_some"] [] := F.binds (ps := ["_law_some"]) fun _ _ _ _ _ _ us hl => match us, hl with | [_], _ => rfl
noncomputable def b_law_trim : Sv :=
  (sSeq (sAsg (eNew (lList (aCons (eVar 0) aNil))) (gNm 1))
    (sSeq (sWhile (bAnd (tB' (e2 (gEq true) (eVar 1) (eFrz (lDisp aNil)))) (bOr (tB' (e2 (gEq false) (e2 gIx (eVar 1) (e1 gNeg (eK (.int 1)))) (eK (.int 0)))) (tB' (e2 (gEq false) (e2 gIx (eVar 1) (e1 gNeg (eK (.int 1)))) (eTup aNil))))) (sExpr (e1 gPop (eVar 1))))
    (sRet (en gTuple (aCons (eVar 1) aNil)))))
noncomputable def f_law_trim : GF := runD 2 b_law_trim

abbrev st_law_scaled : Stmt := top 35
theorem sc_law_scaled : FnScope ["_law_row_here", "_law_by", "_law_each"] ["_law_row_here", "_law_by"] (defScope st_law_scaled) := ⟨rfl, rfl, rfl, by decide +kernel, rfl, by decide +kernel, by decide +kernel⟩
theorem bd_law_scaled {K : PySem.W.Frag} {f : Addr} {fd : FuncData} (F : Fun K "_law_scaled" "_law_scaled" st_law_scaled f fd) : Binds K fd ["_law_row_here", "_law_by"] [] := F.binds (ps := ["_law_row_here", "_law_by"]) fun _ _ _ _ _ _ us hl => match us, hl with | [_, _], _ => rfl
noncomputable def b_law_scaled : Sv :=
  (sRet (cF 1 f_law_trim (aCons (eFrz (lLc (iAny (eVar 0)) (gNm 2) bYes (e2 gTimes (eVar 1) (eVar 2)) [2])) aNil)))
noncomputable def f_law_scaled : GF := runD 3 b_law_scaled

abbrev st_law_row_sum : Stmt := top 36
theorem sc_law_row_sum : FnScope ["_law_one", "_law_two", "_law_many", "_law_far", "_law_high", "_law_k"] ["_law_one", "_law_two"] (defScope st_law_row_sum) := ⟨rfl, rfl, rfl, by decide +kernel, rfl, by decide +kernel, by decide +kernel⟩
theorem bd_law_row_sum {K : PySem.W.Frag} {f : Addr} {fd : FuncData} (F : Fun K "_law_row_sum" "_law_row_sum" st_law_row_sum f fd) : Binds K fd ["_law_one", "_law_two"] [] := F.binds (ps := ["_law_one", "_law_two"]) fun _ _ _ _ _ _ us hl => match us, hl with | [_, _], _ => rfl
noncomputable def b_law_row_sum : Sv :=
  (sSeq (sAsg (en gMax (aCons (en gLen (aCons (eVar 0) aNil)) (aCons (en gLen (aCons (eVar 1) aNil)) aNil))) (gNm 2))
    (sSeq (sAsg (eTup (aCons (e2 gPlus (eVar 0) (e2 gTimesT (eTup (aCons (eK (.int 0)) aNil)) (e2 gSub (eVar 2) (en gLen (aCons (eVar 0) aNil))))) (aCons (e2 gPlus (eVar 1) (e2 gTimesT (eTup (aCons (eK (.int 0)) aNil)) (e2 gSub (eVar 2) (en gLen (aCons (eVar 1) aNil))))) aNil))) (gTp [(gNm 3), (gNm 4)]))
    (sRet (cF 1 f_law_trim (aCons (eFrz (lLc (iR1 (aCons (eVar 2) aNil)) (gNm 5) bYes (e2 gPlus (e2 gIx (eVar 3) (eVar 5)) (e2 gIx (eVar 4) (eVar 5))) [5])) aNil)))))
noncomputable def f_law_row_sum : GF := runD 6 b_law_row_sum

abbrev st_law_row_less : Stmt := top 37
theorem sc_law_row_less : FnScope ["_law_one", "_law_two"] ["_law_one", "_law_two"] (defScope st_law_row_less) := ⟨rfl, rfl, rfl, by decide +kernel, rfl, by decide +kernel, by decide +kernel⟩
theorem bd_law_row_less {K : PySem.W.Frag} {f : Addr} {fd : FuncData} (F : Fun K "_law_row_less" "_law_row_less" st_law_row_less f fd) : Binds K fd ["_law_one", "_law_two"] [] := F.binds (ps := ["_law_one", "_law_two"]) fun _ _ _ _ _ _ us hl => match us, hl with | [_, _], _ => rfl
noncomputable def b_law_row_less : Sv :=
  (sRet (cF 2 f_law_row_sum (aCons (eVar 0) (aCons (cF 2 f_law_scaled (aCons (eVar 1) (aCons (e1 gNeg (eK (.int 1))) aNil))) aNil))))
noncomputable def f_law_row_less : GF := runD 2 b_law_row_less

abbrev st_law_row_times : Stmt := top 38
theorem sc_law_row_times : FnScope ["_law_one", "_law_two", "_law_made", "_law_k", "_law_n"] ["_law_one", "_law_two"] (defScope st_law_row_times) := ⟨rfl, rfl, rfl, by decide +kernel, rfl, by decide +kernel, by decide +kernel⟩
theorem bd_law_row_times {K : PySem.W.Frag} {f : Addr} {fd : FuncData} (F : Fun K "_law_row_times" "_law_row_times" st_law_row_times f fd) : Binds K fd ["_law_one", "_law_two"] [] := F.binds (ps := ["_law_one", "_law_two"]) fun _ _ _ _ _ _ us hl => match us, hl with | [_, _], _ => rfl
noncomputable def b_law_row_times : Sv :=
  (sSeq (sAsg (eNew (lRep (eFrz (lDisp (aCons (eK (.int 0)) aNil))) (e2 gPlus (en gLen (aCons (eVar 0) aNil)) (en gLen (aCons (eVar 1) aNil))))) (gNm 2))
    (sSeq (sFor (iR1 (aCons (en gLen (aCons (eVar 0) aNil)) aNil)) (gNm 3) (sFor (iR1 (aCons (en gLen (aCons (eVar 1) aNil)) aNil)) (gNm 4) (sAsg (e2 gPlus (e2 gIx (eVar 2) (e2 gPlus (eVar 3) (eVar 4))) (e2 gTimes (e2 gIx (eVar 0) (eVar 3)) (e2 gIx (eVar 1) (eVar 4)))) (gSb (eVar 2) (e2 gPlus (eVar 3) (eVar 4))))))
    (sRet (cF 1 f_law_trim (aCons (eVar 2) aNil)))))
noncomputable def f_law_row_times : GF := runD 5 b_law_row_times

abbrev st_law_poly_times : Stmt := top 39
theorem sc_law_poly_times : FnScope ["_law_one", "_law_two", "_law_made", "_law_k", "_law_n"] ["_law_one", "_law_two"] (defScope st_law_poly_times) := ⟨rfl, rfl, rfl, by decide +kernel, rfl, by decide +kernel, by decide +kernel⟩
theorem bd_law_poly_times {K : PySem.W.Frag} {f : Addr} {fd : FuncData} (F : Fun K "_law_poly_times" "_law_poly_times" st_law_poly_times f fd) : Binds K fd ["_law_one", "_law_two"] [] := F.binds (ps := ["_law_one", "_law_two"]) fun _ _ _ _ _ _ us hl => match us, hl with | [_, _], _ => rfl
noncomputable def b_law_poly_times : Sv :=
  (sSeq (sAsg (eNew (lRep (eFrz (lDisp (aCons (eTup aNil) aNil))) (e2 gPlus (en gLen (aCons (eVar 0) aNil)) (en gLen (aCons (eVar 1) aNil))))) (gNm 2))
    (sSeq (sFor (iR1 (aCons (en gLen (aCons (eVar 0) aNil)) aNil)) (gNm 3) (sFor (iR1 (aCons (en gLen (aCons (eVar 1) aNil)) aNil)) (gNm 4) (sAsg (cF 2 f_law_row_sum (aCons (e2 gIx (eVar 2) (e2 gPlus (eVar 3) (eVar 4))) (aCons (cF 2 f_law_row_times (aCons (e2 gIx (eVar 0) (eVar 3)) (aCons (e2 gIx (eVar 1) (eVar 4)) aNil))) aNil))) (gSb (eVar 2) (e2 gPlus (eVar 3) (eVar 4))))))
    (sRet (cF 1 f_law_trim (aCons (eVar 2) aNil)))))
noncomputable def f_law_poly_times : GF := runD 5 b_law_poly_times

abbrev st_law_number : Stmt := top 40
theorem sc_law_number : FnScope ["_law_well_here"] ["_law_well_here"] (defScope st_law_number) := ⟨rfl, rfl, rfl, by decide +kernel, rfl, by decide +kernel, by decide +kernel⟩
theorem bd_law_number {K : PySem.W.Frag} {f : Addr} {fd : FuncData} (F : Fun K "_law_number" "_law_number" st_law_number f fd) : Binds K fd ["_law_well_here"] [] := F.binds (ps := ["_law_well_here"]) fun _ _ _ _ _ _ us hl => match us, hl with | [_], _ => rfl
noncomputable def b_law_number : Sv :=
  (sSeq (sIf (tB' (e2 (gEq false) (cF 2 f_law_draw (aCons (eVar 0) (aCons (eK (.int 16)) aNil))) (eK (.int 0)))) (sRet (e2 gSub (cF 2 f_law_draw (aCons (eVar 0) (aCons (e2 gPow (eK (.int 10)) (eK (.int 6))) aNil))) (eK (.int 500000)))) sNext)
    (sRet (e2 gSub (cF 2 f_law_draw (aCons (eVar 0) (aCons (eK (.int 9)) aNil))) (eK (.int 4)))))
noncomputable def f_law_number : GF := runD 1 b_law_number

abbrev st_law_row : Stmt := top 41
theorem sc_law_row : FnScope ["_law_well_here", "_law_many", "_law_made", "_law_k"] ["_law_well_here", "_law_many"] (defScope st_law_row) := ⟨rfl, rfl, rfl, by decide +kernel, rfl, by decide +kernel, by decide +kernel⟩
theorem bd_law_row {K : PySem.W.Frag} {f : Addr} {fd : FuncData} (F : Fun K "_law_row" "_law_row" st_law_row f fd) : Binds K fd ["_law_well_here", "_law_many"] [] := F.binds (ps := ["_law_well_here", "_law_many"]) fun _ _ _ _ _ _ us hl => match us, hl with | [_, _], _ => rfl
noncomputable def b_law_row : Sv :=
  (sSeq (sAsg (eNew (lDisp aNil)) (gNm 2))
    (sSeq (sFor (iR1 (aCons (cF 2 f_law_draw (aCons (eVar 0) (aCons (e2 gPlus (eVar 1) (eK (.int 1))) aNil))) aNil)) (gNm 3) (sExpr (eMeth1 gApp (eVar 2) (aCons (cF 1 f_law_number (aCons (eVar 0) aNil)) aNil))))
    (sRet (cF 1 f_law_trim (aCons (eVar 2) aNil)))))
noncomputable def f_law_row : GF := runD 4 b_law_row

abbrev st_law_all : Stmt := top 42
theorem sc_law_all : FnScope ["_law_by", "_law_some", "_law_made", "_law_each"] ["_law_by", "_law_some"] (defScope st_law_all) := ⟨rfl, rfl, rfl, by decide +kernel, rfl, by decide +kernel, by decide +kernel⟩
theorem bd_law_all {K : PySem.W.Frag} {f : Addr} {fd : FuncData} (F : Fun K "_law_all" "_law_all" st_law_all f fd) : Binds K fd ["_law_by", "_law_some"] [] := F.binds (ps := ["_law_by", "_law_some"]) fun _ _ _ _ _ _ us hl => match us, hl with | [_, _], _ => rfl
noncomputable def b_law_all : Sv :=
  (sSeq (sAsg (eTup (aCons (eVar 0) aNil)) (gNm 2))
    (sSeq (sFor (iAny (eVar 1)) (gNm 3) (sAsg (cF 2 f_law_row_times (aCons (eVar 2) (aCons (eVar 3) aNil))) (gNm 2)))
    (sRet (eVar 2))))
noncomputable def f_law_all : GF := runD 4 b_law_all

abbrev st_law_formula : Stmt := top 43
theorem sc_law_formula : FnScope ["_law_one", "_law_made", "_law_d", "_law_c", "_law_b", "_law_a"] ["_law_one"] (defScope st_law_formula) := ⟨rfl, rfl, rfl, by decide +kernel, rfl, by decide +kernel, by decide +kernel⟩
theorem bd_law_formula {K : PySem.W.Frag} {f : Addr} {fd : FuncData} (F : Fun K "_law_formula" "_law_formula" st_law_formula f fd) : Binds K fd ["_law_one"] [] := F.binds (ps := ["_law_one"]) fun _ _ _ _ _ _ us hl => match us, hl with | [_], _ => rfl
noncomputable def b_law_formula : Sv :=
  (sSeq (sIf (tB' (e2 (gEq false) (en gLen (aCons (eVar 0) aNil)) (eK (.int 2)))) (sRet (eTup (aCons (eK (.int 1)) aNil))) sNext)
    (sSeq (sIf (tB' (e2 (gEq false) (en gLen (aCons (eVar 0) aNil)) (eK (.int 3)))) (sRet (cF 2 f_law_row_sum (aCons (cF 2 f_law_all (aCons (eK (.int 1)) (aCons (eFrz (lDisp (aCons (e2 gIx (eVar 0) (eK (.int 1))) (aCons (e2 gIx (eVar 0) (eK (.int 1))) aNil)))) aNil))) (aCons (cF 2 f_law_all (aCons (e1 gNeg (eK (.int 4))) (aCons (eFrz (lDisp (aCons (e2 gIx (eVar 0) (eK (.int 2))) (aCons (e2 gIx (eVar 0) (eK (.int 0))) aNil)))) aNil))) aNil)))) sNext)
    (sSeq (sAsg (eVar 0) (gTp [(gNm 2), (gNm 3), (gNm 4), (gNm 5)]))
    (sSeq (sAsg (cF 2 f_law_row_sum (aCons (cF 2 f_law_all (aCons (eK (.int 1)) (aCons (eFrz (lDisp (aCons (eVar 4) (aCons (eVar 4) (aCons (eVar 3) (aCons (eVar 3) aNil)))))) aNil))) (aCons (cF 2 f_law_all (aCons (e1 gNeg (eK (.int 4))) (aCons (eFrz (lDisp (aCons (eVar 5) (aCons (eVar 3) (aCons (eVar 3) (aCons (eVar 3) aNil)))))) aNil))) aNil))) (gNm 1))
    (sSeq (sAsg (cF 2 f_law_row_sum (aCons (eVar 1) (aCons (cF 2 f_law_all (aCons (e1 gNeg (eK (.int 4))) (aCons (eFrz (lDisp (aCons (eVar 4) (aCons (eVar 4) (aCons (eVar 4) (aCons (eVar 2) aNil)))))) aNil))) aNil))) (gNm 1))
    (sRet (cF 2 f_law_row_sum (aCons (cF 2 f_law_row_sum (aCons (eVar 1) (aCons (cF 2 f_law_all (aCons (e1 gNeg (eK (.int 27))) (aCons (eFrz (lDisp (aCons (eVar 5) (aCons (eVar 5) (aCons (eVar 2) (aCons (eVar 2) aNil)))))) aNil))) aNil))) (aCons (cF 2 f_law_all (aCons (eK (.int 18)) (aCons (eFrz (lDisp (aCons (eVar 5) (aCons (eVar 4) (aCons (eVar 3) (aCons (eVar 2) aNil)))))) aNil))) aNil)))))))))
noncomputable def f_law_formula : GF := runD 6 b_law_formula

abbrev st_law_right : Stmt := top 44
theorem sc_law_right : FnScope ["_law_well_here", "_law_k", "_law_head", "_law_one", "_law_two", "_law_made", "_law_some", "_law_u", "_law_by", "_law_due", "_law_n", "_law_gap"] ["_law_well_here"] (defScope st_law_right) := ⟨rfl, rfl, rfl, by decide +kernel, rfl, by decide +kernel, by decide +kernel⟩
theorem bd_law_right {K : PySem.W.Frag} {f : Addr} {fd : FuncData} (F : Fun K "_law_right" "_law_right" st_law_right f fd) : Binds K fd ["_law_well_here"] [] := F.binds (ps := ["_law_well_here"]) fun _ _ _ _ _ _ us hl => match us, hl with | [_], _ => rfl
noncomputable def b_law_right : Sv :=
  (sSeq (sPar 5 6 (aCons (eNew (lDisp aNil)) (aCons (eNew (lDisp aNil)) aNil)))
    (sSeq (sFor (iR1 (aCons (e2 gPlus (eK (.int 1)) (cF 2 f_law_draw (aCons (eVar 0) (aCons (eK (.int 3)) aNil)))) aNil)) (gNm 1) (sExpr (eMeth1 gApp (eVar 5) (aCons (cF 2 f_law_row (aCons (eVar 0) (aCons (eK (.int 3)) aNil))) aNil))))
    (sSeq (sAsg (cF 2 f_law_row (aCons (eVar 0) (aCons (eK (.int 2)) aNil))) (gNm 2))
    (sSeq (sAsg (e2 gPlus (en gTuple (aCons (eVar 5) aNil)) (eTup (aCons (eIf (tB' (e2 (gEq true) (eVar 2) (eTup aNil))) (eVar 2) (eTup (aCons (eK (.int 1)) aNil))) aNil))) (gNm 3))
    (sSeq (sFor (iR1 (aCons (e2 gPlus (eK (.int 2)) (cF 2 f_law_draw (aCons (eVar 0) (aCons (eK (.int 3)) aNil)))) aNil)) (gNm 1) (sSeq (sAsg (eIf (tB' (e2 (gCmp fun i j => decide (j < i)) (cF 2 f_law_draw (aCons (eVar 0) (aCons (eK (.int 5)) aNil))) (eK (.int 0)))) (eTup (aCons (cF 2 f_law_pick (aCons (eVar 0) (aCons (eTup (aCons (eK (.int 1)) (aCons (eK (.int 1)) (aCons (e1 gNeg (eK (.int 1))) (aCons (eK (.int 2)) (aCons (eK (.int 1)) aNil)))))) aNil))) aNil)) (eTup (aCons (e2 gSub (cF 2 f_law_draw (aCons (eVar 0) (aCons (eK (.int 5)) aNil))) (eK (.int 2))) (aCons (eK (.int 1)) aNil)))) (gNm 7))
    (sExpr (eMeth1 gApp (eVar 6) (aCons (eTup (aCons (eVar 7) (aCons (cF 2 f_law_row (aCons (eVar 0) (aCons (eK (.int 2)) aNil))) aNil))) aNil)))))
    (sSeq (sIf (tB' (e2 (gEq false) (cF 2 f_law_draw (aCons (eVar 0) (aCons (eK (.int 6)) aNil))) (eK (.int 0)))) (sAsg (eTup (aCons (cF 2 f_law_scaled (aCons (e2 gIx (e2 gIx (eVar 6) (eK (.int 0))) (eK (.int 0))) (aCons (eK (.int 3)) aNil))) (aCons (cF 2 f_law_scaled (aCons (e2 gIx (e2 gIx (eVar 6) (eK (.int 0))) (eK (.int 1))) (aCons (eK (.int 3)) aNil))) aNil))) (gSb (eVar 6) (e1 gNeg (eK (.int 1))))) sNext)
    (sSeq (sPar 8 9 (aCons (cF 2 f_law_pick (aCons (eVar 0) (aCons (eTup (aCons (eK (.int 1)) (aCons (e1 gNeg (eK (.int 1))) (aCons (eK (.int 2)) (aCons (eK (.int 1)) (aCons (e1 gNeg (eK (.int 3))) aNil)))))) aNil))) (aCons (eTup (aCons (eK (.int 1)) aNil)) aNil)))
    (sSeq (sAsg (eTup (aCons (eTup (aCons (eVar 8) aNil)) aNil)) (gNm 4))
    (sSeq (sFor (iR1 (aCons (en gLen (aCons (eVar 6) aNil)) aNil)) (gNm 1) (sSeq (sAsg (cF 2 f_law_poly_times (aCons (eVar 4) (aCons (eTup (aCons (e2 gIx (e2 gIx (eVar 6) (eVar 1)) (eK (.int 1))) (aCons (e2 gIx (e2 gIx (eVar 6) (eVar 1)) (eK (.int 0))) aNil))) aNil))) (gNm 4))
    (sFor (iR1 (aCons (eVar 1) aNil)) (gNm 10) (sSeq (sAsg (cF 2 f_law_row_less (aCons (cF 2 f_law_row_times (aCons (e2 gIx (e2 gIx (eVar 6) (eVar 1)) (eK (.int 0))) (aCons (e2 gIx (e2 gIx (eVar 6) (eVar 10)) (eK (.int 1))) aNil))) (aCons (cF 2 f_law_row_times (aCons (e2 gIx (e2 gIx (eVar 6) (eVar 1)) (eK (.int 1))) (aCons (e2 gIx (e2 gIx (eVar 6) (eVar 10)) (eK (.int 0))) aNil))) aNil))) (gNm 11))
    (sAsg (cF 2 f_law_all (aCons (eK (.int 1)) (aCons (eFrz (lDisp (aCons (eVar 9) (aCons (eVar 11) (aCons (eVar 11) aNil))))) aNil))) (gNm 9))))))
    (sSeq (sFor (iR1 (aCons (e2 gSub (e2 gTimes (eK (.int 2)) (en gLen (aCons (eVar 6) aNil))) (eK (.int 2))) aNil)) (gNm 1) (sAsg (cF 2 f_law_scaled (aCons (eVar 9) (aCons (eVar 8) aNil))) (gNm 9)))
    (sRet (e2 (gEq false) (en gRepr (aCons (eFrz (lDisp (aCons (cF 1 f_discriminant (aCons (eVar 3) aNil)) (aCons (cFK [0] 1 f_discriminant (aCons (eVar 4) aNil)) aNil)))) aNil)) (en gRepr (aCons (eFrz (lDisp (aCons (cF 1 f_law_formula (aCons (eVar 3) aNil)) (aCons (eVar 9) aNil)))) aNil))))))))))))))
noncomputable def f_law_right : GF := runD 12 b_law_right

abbrev st_law : Stmt := top 45
theorem sc_law : FnScope ["_law_script", "_law_at"] ["_law_script"] (defScope st_law) := ⟨rfl, rfl, rfl, by decide +kernel, rfl, by decide +kernel, by decide +kernel⟩
theorem bd_law {K : PySem.W.Frag} {f : Addr} {fd : FuncData} (F : Fun K "law" "law" st_law f fd) : Binds K fd ["_law_script"] [] := F.binds (ps := ["_law_script"]) fun _ _ _ _ _ _ us hl => match us, hl with | [_], _ => rfl
noncomputable def b_law : Sv :=
  (sRet (en gAll (aCons (eFrz (lLc (iR1 (aCons (en gMax (aCons (eK (.int 1)) (aCons (en gMin (aCons (en gLen (aCons (eVar 0) aNil)) (aCons (eK (.int 2)) aNil))) aNil))) aNil)) (gNm 1) bYes (cF 1 f_law_right (aCons (cF 2 f_law_well (aCons (eVar 0) (aCons (eVar 1) aNil))) aNil)) [1])) aNil)))
noncomputable def f_law : GF := runD 2 b_law

structure LE (w : World) (K : PySem.W.Frag) (mg : Str → Option Value) : Prop where
  d_is_whole : ∃ f fd, mg "is_whole" = some (.ref f) ∧ Fun K "is_whole" "is_whole" st_is_whole f fd
  d_is_rowed : ∃ f fd, mg "is_rowed" = some (.ref f) ∧ Fun K "is_rowed" "is_rowed" st_is_rowed f fd
  d_trimmed : ∃ f fd, mg "trimmed" = some (.ref f) ∧ Fun K "trimmed" "trimmed" st_trimmed f fd
  d_sum_by : ∃ f fd, mg "sum_by" = some (.ref f) ∧ Fun K "sum_by" "sum_by" st_sum_by f fd
  d_scaled : ∃ f fd, mg "scaled" = some (.ref f) ∧ Fun K "scaled" "scaled" st_scaled f fd
  d_gap_by : ∃ f fd, mg "gap_by" = some (.ref f) ∧ Fun K "gap_by" "gap_by" st_gap_by f fd
  d_product_by : ∃ f fd, mg "product_by" = some (.ref f) ∧ Fun K "product_by" "product_by" st_product_by f fd
  d_raised : ∃ f fd, mg "raised" = some (.ref f) ∧ Fun K "raised" "raised" st_raised f fd
  d_top_at : ∃ f fd, mg "top_at" = some (.ref f) ∧ Fun K "top_at" "top_at" st_top_at f fd
  d_determinant_of : ∃ f fd, mg "determinant_of" = some (.ref f) ∧ Fun K "determinant_of" "determinant_of" st_determinant_of f fd
  d_resultant_by : ∃ f fd, mg "resultant_by" = some (.ref f) ∧ Fun K "resultant_by" "resultant_by" st_resultant_by f fd
  d_is_polyed : ∃ f fd, mg "is_polyed" = some (.ref f) ∧ Fun K "is_polyed" "is_polyed" st_is_polyed f fd
  d_cut : ∃ f fd, mg "cut" = some (.ref f) ∧ Fun K "cut" "cut" st_cut f fd
  d_derived_by : ∃ f fd, mg "derived_by" = some (.ref f) ∧ Fun K "derived_by" "derived_by" st_derived_by f fd
  d_exact_by : ∃ f fd, mg "exact_by" = some (.ref f) ∧ Fun K "exact_by" "exact_by" st_exact_by f fd
  d_values_at : ∃ f fd, mg "values_at" = some (.ref f) ∧ Fun K "values_at" "values_at" st_values_at f fd
  d_row_through : ∃ f fd, mg "row_through" = some (.ref f) ∧ Fun K "row_through" "row_through" st_row_through f fd
  d_width_of : ∃ f fd, mg "width_of" = some (.ref f) ∧ Fun K "width_of" "width_of" st_width_of f fd
  d_resultant_of : ∃ f fd, mg "resultant_of" = some (.ref f) ∧ Fun K "resultant_of" "resultant_of" st_resultant_of f fd
  d_discriminant_of : ∃ f fd, mg "discriminant_of" = some (.ref f) ∧ Fun K "discriminant_of" "discriminant_of" st_discriminant_of f fd
  d_check_poly : ∃ f fd, mg "check_poly" = some (.ref f) ∧ FunD K "check_poly" "check_poly" (defArgs st_check_poly) (defBody st_check_poly) (defScope st_check_poly) [(V.int (0))] [] f fd
  d_discriminant : ∃ f fd, mg "discriminant" = some (.ref f) ∧ Fun K "discriminant" "discriminant" st_discriminant f fd
  d_law_well : ∃ f fd, mg "_law_well" = some (.ref f) ∧ Fun K "_law_well" "_law_well" st_law_well f fd
  d_law_draw : ∃ f fd, mg "_law_draw" = some (.ref f) ∧ Fun K "_law_draw" "_law_draw" st_law_draw f fd
  d_law_pick : ∃ f fd, mg "_law_pick" = some (.ref f) ∧ Fun K "_law_pick" "_law_pick" st_law_pick f fd
  d_law_trim : ∃ f fd, mg "_law_trim" = some (.ref f) ∧ Fun K "_law_trim" "_law_trim" st_law_trim f fd
  d_law_scaled : ∃ f fd, mg "_law_scaled" = some (.ref f) ∧ Fun K "_law_scaled" "_law_scaled" st_law_scaled f fd
  d_law_row_sum : ∃ f fd, mg "_law_row_sum" = some (.ref f) ∧ Fun K "_law_row_sum" "_law_row_sum" st_law_row_sum f fd
  d_law_row_less : ∃ f fd, mg "_law_row_less" = some (.ref f) ∧ Fun K "_law_row_less" "_law_row_less" st_law_row_less f fd
  d_law_row_times : ∃ f fd, mg "_law_row_times" = some (.ref f) ∧ Fun K "_law_row_times" "_law_row_times" st_law_row_times f fd
  d_law_poly_times : ∃ f fd, mg "_law_poly_times" = some (.ref f) ∧ Fun K "_law_poly_times" "_law_poly_times" st_law_poly_times f fd
  d_law_number : ∃ f fd, mg "_law_number" = some (.ref f) ∧ Fun K "_law_number" "_law_number" st_law_number f fd
  d_law_row : ∃ f fd, mg "_law_row" = some (.ref f) ∧ Fun K "_law_row" "_law_row" st_law_row f fd
  d_law_all : ∃ f fd, mg "_law_all" = some (.ref f) ∧ Fun K "_law_all" "_law_all" st_law_all f fd
  d_law_formula : ∃ f fd, mg "_law_formula" = some (.ref f) ∧ Fun K "_law_formula" "_law_formula" st_law_formula f fd
  d_law_right : ∃ f fd, mg "_law_right" = some (.ref f) ∧ Fun K "_law_right" "_law_right" st_law_right f fd
  d_law : ∃ f fd, mg "law" = some (.ref f) ∧ Fun K "law" "law" st_law f fd
  z_abs : mg "abs" = none
  z_all : mg "all" = none
  z_bool : mg "bool" = none
  z_divmod : mg "divmod" = none
  z_enumerate : mg "enumerate" = none
  z_int : mg "int" = none
  z_isinstance : mg "isinstance" = none
  z_len : mg "len" = none
  z_list : mg "list" = none
  z_max : mg "max" = none
  z_min : mg "min" = none
  z_range : mg "range" = none
  z_repr : mg "repr" = none
  z_tuple : mg "tuple" = none
  z_zip : mg "zip" = none

theorem kb_discriminant_0 {K : PySem.W.Frag} {f : Addr} {fd : FuncData} (F : Fun K "discriminant" "discriminant" st_discriminant f fd) : KwBinds K fd ["poly"] ["poly"] [0] [] := by
  obtain ⟨oc, od, kV, doc, pm, an, cdv, ct, osl, rfl, lk, hcd⟩ := F.ex
  intro s ws _ hl
  rw [List.append_nil] at hl ⊢
  match ws, hl with
  | [], h => simp [permL] at h
  | _ :: _, _ => exact .of_eq rfl

section
variable {P : Program} {w : World} {K : PySem.W.Frag} {mg : Str → Option Value} {base : Heap}

theorem ok_is_whole (L : LE w K mg) : ∃ f fd, Has P w K mg base 1 "is_whole" st_is_whole ["value"] 1 f_is_whole f fd := by
  obtain ⟨f, fd, m, F⟩ := L.d_is_whole
  refine ⟨f, fd, m, F, bd_is_whole F, ?_⟩
  refine fng_sem (k := 0) F sc_is_whole fun cdv A outer s H E hr hg => ?_
  exact (ss_one (ss_ret (se_and (xIsi bt_int L.z_isinstance L.z_int (by rfl) (by rfl) (xV 0)) (se_one (se_not (xIsi bt_bool L.z_isinstance L.z_bool (by rfl) (by rfl) (xV 0)))))))

theorem ok_is_rowed (L : LE w K mg) : ∃ f fd, Has P w K mg base 2 "is_rowed" st_is_rowed ["value"] 1 f_is_rowed f fd := by
  obtain ⟨_, _, h_is_whole⟩ := ok_is_whole (P := P) (w := w) (base := base) L
  obtain ⟨f, fd, m, F⟩ := L.d_is_rowed
  refine ⟨f, fd, m, F, bd_is_rowed F, ?_⟩
  refine fng_sem (k := 1) F sc_is_rowed fun cdv A outer s H E hr hg => ?_
  exact (ss_cons (ss_if (sw_or (st_not (xtVal (xIsi bt_tuple L.z_isinstance L.z_tuple (by rfl) (by rfl) (xV 0)))) (sw_or1 (st_not (xtVal (xBi (cr_gAll rfl) bt_all L.z_all (by rfl) (xA (se_frz (xLc [("each", 1)] rfl sc_is_rowed.nd (si_any (xV 0)) (fun _ _ _ _ _ => (xwNm 1 sc_is_rowed.nd)) (fun _ _ _ _ _ => sts_nil) (fun _ _ _ _ _ => (xCall h_is_whole (by decide) hr hg takes0 (by rfl) (xA (xV 1) sa_nil))) (ok := by exact blkOk_by (show blkC ["value", "each"] (defScope st_is_rowed) _ [("each", 1)] = true from by decide +kernel)))) sa_nil)))))).pt (ss_one (ss_ret se_bl)) ss_nil)
      (ss_one (ss_ret (se_or (xCmp (op_gEq (hu64 hr)) (xV 0) (se_tup sa_nil)) (se_one (xCmp (op_gNe (hu64 hr)) (xIx (xV 0) (se_un un_gNeg se_int)) se_int))))))

theorem ok_trimmed (L : LE w K mg) : ∃ f fd, Has P w K mg base 1 "trimmed" st_trimmed ["some"] 1 f_trimmed f fd := by
  obtain ⟨f, fd, m, F⟩ := L.d_trimmed
  refine ⟨f, fd, m, F, bd_trimmed F, ?_⟩
  refine fng_sem (k := 0) F sc_trimmed fun cdv A outer s H E hr hg => ?_
  exact (ss_cons (xSet 1 sc_trimmed.nd (xBi cr_gLen bt_len L.z_len (by rfl) (xA (xV 0) sa_nil)))
      (ss_cons (ss_whileN (passes_of rfl) (sw_and (xtCmp op_gGt (xV 1) se_int) (sw_and1 (xtCmp (op_gEq (hu64 hr)) (xIx (xV 0) (se_op op_gSub (xV 1) se_int)) se_int))).pt (ss_one (xSet 1 sc_trimmed.nd (se_op op_gSub (xV 1) se_int))))
      (ss_one (ss_ret (xTy cr_gTuple bt_tuple L.z_tuple (by rfl) (xA (se_sl (xV 0) so_none (so_some (xV 1))) sa_nil))))))

theorem ok_sum_by (L : LE w K mg) : ∃ f fd, Has P w K mg base 2 "sum_by" st_sum_by ["row", "other"] 2 f_sum_by f fd := by
  obtain ⟨_, _, h_trimmed⟩ := ok_trimmed (P := P) (w := w) (base := base) L
  obtain ⟨f, fd, m, F⟩ := L.d_sum_by
  refine ⟨f, fd, m, F, bd_sum_by F, ?_⟩
  refine fng_sem (k := 1) F sc_sum_by fun cdv A outer s H E hr hg => ?_
  exact (ss_cons (xSet 2 sc_sum_by.nd (xBi (cr_gMax rfl) bt_max L.z_max (by rfl) (xA (xBi cr_gLen bt_len L.z_len (by rfl) (xA (xV 0) sa_nil)) (xA (xBi cr_gLen bt_len L.z_len (by rfl) (xA (xV 1) sa_nil)) sa_nil))))
      (ss_cons (xPar 3 4 rfl sc_sum_by.nd (xA (se_op op_gPlus (xV 0) (se_op op_gTimesT (se_tup (xA se_int sa_nil)) (se_op op_gSub (xV 2) (xBi cr_gLen bt_len L.z_len (by rfl) (xA (xV 0) sa_nil))))) (xA (se_op op_gPlus (xV 1) (se_op op_gTimesT (se_tup (xA se_int sa_nil)) (se_op op_gSub (xV 2) (xBi cr_gLen bt_len L.z_len (by rfl) (xA (xV 1) sa_nil))))) sa_nil)))
      (ss_one (ss_ret (xCall h_trimmed (by decide) hr hg (takes_of rfl rfl rfl rfl) (by rfl) (xA (se_frz (xLc [("here", 5), ("there", 6)] rfl sc_sum_by.nd (xZip L.z_zip (by rfl) (xA (xV 3) (xA (xV 4) sa_nil))) (fun _ _ _ _ _ => (xwGT rfl (xwG (xwNm 5 sc_sum_by.nd) (xwG (xwNm 6 sc_sum_by.nd) sgsw_nil)))) (fun _ _ _ _ _ => sts_nil) (fun _ _ _ _ _ => (se_op op_gPlus (xV 5) (xV 6))) (ok := by exact blkOk_by (show blkC ["row", "other", "size", "one", "two", "here", "there"] (defScope st_sum_by) _ [("here", 5), ("there", 6)] = true from by decide +kernel)))) sa_nil))))))

theorem ok_scaled (L : LE w K mg) : ∃ f fd, Has P w K mg base 2 "scaled" st_scaled ["row", "number"] 2 f_scaled f fd := by
  obtain ⟨_, _, h_trimmed⟩ := ok_trimmed (P := P) (w := w) (base := base) L
  obtain ⟨f, fd, m, F⟩ := L.d_scaled
  refine ⟨f, fd, m, F, bd_scaled F, ?_⟩
  refine fng_sem (k := 1) F sc_scaled fun cdv A outer s H E hr hg => ?_
  exact (ss_one (ss_ret (xCall h_trimmed (by decide) hr hg (takes_of rfl rfl rfl rfl) (by rfl) (xA (se_frz (xLc [("each", 2)] rfl sc_scaled.nd (si_any (xV 0)) (fun _ _ _ _ _ => (xwNm 2 sc_scaled.nd)) (fun _ _ _ _ _ => sts_nil) (fun _ _ _ _ _ => (se_op op_gTimes (xV 1) (xV 2))) (ok := by exact blkOk_by (show blkC ["row", "number", "each"] (defScope st_scaled) _ [("each", 2)] = true from by decide +kernel)))) sa_nil))))

theorem ok_gap_by (L : LE w K mg) : ∃ f fd, Has P w K mg base 3 "gap_by" st_gap_by ["row", "other"] 2 f_gap_by f fd := by
  obtain ⟨_, _, h_sum_by⟩ := ok_sum_by (P := P) (w := w) (base := base) L
  obtain ⟨_, _, h_scaled⟩ := ok_scaled (P := P) (w := w) (base := base) L
  obtain ⟨f, fd, m, F⟩ := L.d_gap_by
  refine ⟨f, fd, m, F, bd_gap_by F, ?_⟩
  refine fng_sem (k := 2) F sc_gap_by fun cdv A outer s H E hr hg => ?_
  exact (ss_one (ss_ret (xCall h_sum_by (by decide) hr hg (takes_of rfl rfl rfl rfl) (by rfl) (xA (xV 0) (xA (xCall h_scaled (by decide) hr hg (takes_of rfl rfl rfl rfl) (by rfl) (xA (xV 1) (xA (se_un un_gNeg se_int) sa_nil))) sa_nil)))))

theorem ok_product_by (L : LE w K mg) : ∃ f fd, Has P w K mg base 2 "product_by" st_product_by ["row", "other"] 2 f_product_by f fd := by
  obtain ⟨_, _, h_trimmed⟩ := ok_trimmed (P := P) (w := w) (base := base) L
  obtain ⟨f, fd, m, F⟩ := L.d_product_by
  refine ⟨f, fd, m, F, bd_product_by F, ?_⟩
  refine fng_sem (k := 1) F sc_product_by fun cdv A outer s H E hr hg => ?_
  exact (ss_cons (ss_if (sw_or (xtCmp (op_gEq (hu64 hr)) (xV 0) (se_tup sa_nil)) (sw_or1 (xtCmp (op_gEq (hu64 hr)) (xV 1) (se_tup sa_nil)))).pt (ss_one (ss_ret (se_tup sa_nil))) ss_nil)
      (ss_cons (xSet 2 sc_product_by.nd (se_new (sl_rep (se_frz (sl_disp (xA se_int sa_nil))) (se_op op_gSub (se_op op_gPlus (xBi cr_gLen bt_len L.z_len (by rfl) (xA (xV 0) sa_nil)) (xBi cr_gLen bt_len L.z_len (by rfl) (xA (xV 1) sa_nil))) se_int))))
      (ss_cons (xFor (passes_of rfl) rfl (xEnumT L.z_enumerate (by rfl) (xA (xV 0) sa_nil)) (xGT rfl (xG (xNm 3 sc_product_by.nd) (xG (xNm 4 sc_product_by.nd) sgs_nil))) (ss_one (xFor (passes_of rfl) rfl (xEnumT L.z_enumerate (by rfl) (xA (xV 1) sa_nil)) (xGT rfl (xG (xNm 5 sc_product_by.nd) (xG (xNm 6 sc_product_by.nd) sgs_nil))) (ss_one (xAsg (se_op op_gPlus (xIx (xV 2) (se_op op_gPlus (xV 3) (xV 5))) (se_op op_gTimes (xV 4) (xV 6))) (xGS (xV 2) (se_op op_gPlus (xV 3) (xV 5))))))))
      (ss_one (ss_ret (xCall h_trimmed (by decide) hr hg (takes_of rfl rfl rfl rfl) (by rfl) (xA (xV 2) sa_nil)))))))

theorem ok_raised (L : LE w K mg) : ∃ f fd, Has P w K mg base 1 "raised" st_raised ["row", "many"] 2 f_raised f fd := by
  obtain ⟨f, fd, m, F⟩ := L.d_raised
  refine ⟨f, fd, m, F, bd_raised F, ?_⟩
  refine fng_sem (k := 0) F sc_raised fun cdv A outer s H E hr hg => ?_
  exact (ss_one (ss_ret (se_if (xtCmp (op_gNe (hu64 hr)) (xV 0) (se_tup sa_nil)) (se_op op_gPlus (se_op op_gTimesT (se_tup (xA se_int sa_nil)) (xV 1)) (xV 0)) (se_tup sa_nil))))

theorem ok_top_at (L : LE w K mg) : ∃ f fd, Has P w K mg base 1 "top_at" st_top_at ["row", "fraction"] 2 f_top_at f fd := by
  obtain ⟨f, fd, m, F⟩ := L.d_top_at
  refine ⟨f, fd, m, F, bd_top_at F, ?_⟩
  refine fng_sem (k := 0) F sc_top_at fun cdv A outer s H E hr hg => ?_
  exact (ss_cons (xAsg (xV 1) (xGT rfl (xG (xNm 3 sc_top_at.nd) (xG (xNm 4 sc_top_at.nd) sgs_nil))))
      (ss_cons (xAsg (se_tup (xA se_int (xA se_int sa_nil))) (xGT rfl (xG (xNm 5 sc_top_at.nd) (xG (xNm 6 sc_top_at.nd) sgs_nil))))
      (ss_cons (xFor (passes_of rfl) rfl (si_any (se_rev (xV 0))) (xNm 2 sc_top_at.nd) (ss_cons (xSet 5 sc_top_at.nd (se_op op_gPlus (se_op op_gTimes (xV 5) (xV 3)) (se_op op_gTimes (xV 2) (xV 6))))
      (ss_one (xSet 6 sc_top_at.nd (se_op op_gTimes (xV 6) (xV 4))))))
      (ss_one (ss_ret (xV 5))))))

theorem ok_determinant_of (L : LE w K mg) : ∃ f fd, Has P w K mg base 1 "determinant_of" st_determinant_of ["rows"] 1 f_determinant_of f fd := by
  obtain ⟨f, fd, m, F⟩ := L.d_determinant_of
  refine ⟨f, fd, m, F, bd_determinant_of F, ?_⟩
  refine TL.fng_of (k := 0) F sc_determinant_of (fun vs H Q E h => h.len) fun cdv A outer s H0 vs Q E hr hg h => ?_
  obtain ⟨a0, xs, M0, rfl, hs0, hd0, hok, hQ⟩ := DT.fDet_in h
  have nd := sc_determinant_of.nd
  refine ⟨_, pss_cons (ps_asg (pe_tup (pa_cons (pe_lc (own := [("row", 8)]) (g := gName 8) (tt := tYes) (te := tCB (fun xs H Q => ∃ p ys, xs = [V.ref p] ∧ (SqL K H p ys ∨ SqT K H p ys) ∧ ∀ l, H l = none → Q (.ref l) (upd H l (.lst ys))) (tCons (tVar 8) tNil)) rfl nd (pi_list (pv 0)) (by exact blkOk_by (show blkC ["rows", "at", "table", "sign", "last", "found", "to", "by", "row", "product"] (defScope st_determinant_of) _ [("row", 8)] = true from by decide +kernel)) (fun _ _ _ _ _ => pg_name (i := 8) nd rfl (by first | exact Or.inl rfl | exact Or.inr rfl)) (fun _ _ _ _ _ => pts_nil) (fun _ _ _ _ _ => pe_callTy call_list_of (by rfl) L.z_list bt_list (pa_cons (pv 8) pa_nil))) (pa_cons pe_int (pa_cons pe_int pa_nil))))
        (pg_tup rfl (pgs_cons (pg_name (i := 2) nd rfl (by first | exact Or.inl rfl | exact Or.inr rfl)) (pgs_cons (pg_name (i := 3) nd rfl (by first | exact Or.inl rfl | exact Or.inr rfl)) (pgs_cons (pg_name (i := 4) nd rfl (by first | exact Or.inl rfl | exact Or.inr rfl)) pgs_nil)))))
      (pss_cons (ps_for (passes_of rfl) rfl (pi_range1 (by rfl) L.z_range (pa_cons (xBi (W := W0) cr_gLen bt_len L.z_len (by rfl) (xA (xV 2) sa_nil)) pa_nil)) (pg_name (i := 1) nd rfl (by first | exact Or.inl rfl | exact Or.inr rfl))
        (pss_cons (ps_setLc (i := 5) (own := [("to", 6)]) (g := gName 6) (tt := tT K mg W0 (tB' (e2 (gEq true) (e2 gIx (e2 gIx (eVar 2) (eVar 6)) (eVar 1)) (eK (.int 0))))) (te := tVar 6) rfl nd rfl rfl (by rfl) (pi_range2 (by rfl) L.z_range (pa_cons (xV (W := W0) 1) (pa_cons (xBi (W := W0) cr_gLen bt_len L.z_len (by rfl) (xA (xV 2) sa_nil)) pa_nil))) (by exact blkOk_by (show blkC ["rows", "at", "table", "sign", "last", "found", "to", "by", "row", "product"] (defScope st_determinant_of) _ [("to", 6)] = true from by decide +kernel)) (fun _ _ _ _ _ => pg_name (i := 6) nd rfl (by first | exact Or.inl rfl | exact Or.inr rfl)) (fun _ _ _ _ _ => pts_one (xtCmp (W := W0) (op_gNe (hu64 hr)) (xIx (xIx (xV 2) (xV 6)) (xV 1)) se_int)) (fun _ _ _ _ _ => pv 6))
        (pss_cons (ps_if (xtCmp (W := W0) (op_gEq (hu64 hr)) (xV 5) (se_frz (sl_disp sa_nil))) (pss_one (ps_ret pe_int)) pss_nil)
        (pss_cons (ps_if (xtCmp (W := W0) (op_gNe (hu64 hr)) (xIx (xV 5) se_int) (xV 1)) (pss_cons (ps_asg (pe_tup (pa_cons (pe_ix ix_list (pv 2) (xIx (W := W0) (xV 5) se_int) (by intro _ _; rfl)) (pa_cons (pe_ix ix_list (pv 2) (pv 1) (by intro _ _; rfl)) pa_nil))) (pg_tup rfl (pgs_cons (pg_sub (pv 2) (pv 1) set_list) (pgs_cons (pg_sub (pv 2) (xIx (W := W0) (xV 5) se_int) set_list) pgs_nil))))
          (pss_one (ps_set (i := 3) nd rfl (by first | exact Or.inl rfl | exact Or.inr rfl) (se_un (W := W0) un_gNeg (xV 3))))) pss_nil)
        (pss_cons (ps_for (passes_of rfl) rfl (pi_range2 (by rfl) L.z_range (pa_cons (se_op (W := W0) op_gPlus (xV 1) se_int) (pa_cons (xBi (W := W0) cr_gLen bt_len L.z_len (by rfl) (xA (xV 2) sa_nil)) pa_nil))) (pg_name (i := 6) nd rfl (by first | exact Or.inl rfl | exact Or.inr rfl))
          (pss_one (ps_for (passes_of rfl) rfl (pi_range2 (by rfl) L.z_range (pa_cons (se_op (W := W0) op_gPlus (xV 1) se_int) (pa_cons (xBi (W := W0) cr_gLen bt_len L.z_len (by rfl) (xA (xV 2) sa_nil)) pa_nil))) (pg_name (i := 7) nd rfl (by first | exact Or.inl rfl | exact Or.inr rfl))
            (pss_cons (ps_set (i := 9) nd rfl (by first | exact Or.inl rfl | exact Or.inr rfl) (se_op (W := W0) op_gSub (se_op op_gTimes (xIx (xIx (xV 2) (xV 6)) (xV 7)) (xIx (xIx (xV 2) (xV 1)) (xV 1))) (se_op op_gTimes (xIx (xIx (xV 2) (xV 6)) (xV 1)) (xIx (xIx (xV 2) (xV 1)) (xV 7)))))
            (pss_one (ps_asg (se_op (W := W0) op_gDiv (xV 9) (xV 4)) (pg_sub (pe_ix ix_list (pv 2) (pv 6) (by intro _ _; rfl)) (pv 7) set_list)))))))
        (pss_one (ps_set (i := 4) nd rfl (by first | exact Or.inl rfl | exact Or.inr rfl) (xIx (W := W0) (xIx (xV 2) (xV 1)) (xV 1))))))))) 
      (pss_one (ps_ret (se_op (W := W0) op_gTimes (xV 3) (xV 4))))), ?_⟩
  show DT.dAll K mg ⟨_, Q, fun _ _ => False, fun _ _ => False⟩ [some (.ref a0), none, none, none, none, none, none, none, none, none] H0
  exact DT.all_reads hs0 hd0 hok hQ

theorem ok_resultant_by (L : LE w K mg) : ∃ f fd, Has P w K mg base 2 "resultant_by" st_resultant_by ["row", "other", "degree", "other_degree"] 4 f_resultant_by f fd := by
  obtain ⟨_, _, h_determinant_of⟩ := ok_determinant_of (P := P) (w := w) (base := base) L
  obtain ⟨f, fd, m, F⟩ := L.d_resultant_by
  refine ⟨f, fd, m, F, bd_resultant_by F, ?_⟩
  refine fng_sem (k := 1) F sc_resultant_by fun cdv A outer s H E hr hg => ?_
  exact (ss_cons (xSet 4 sc_resultant_by.nd (se_op op_gPlus (xTy cr_gTuple bt_tuple L.z_tuple (by rfl) (xA (xV 0) sa_nil)) (se_op op_gTimesT (se_tup (xA se_int sa_nil)) (se_op op_gSub (se_op op_gPlus (xV 2) se_int) (xBi cr_gLen bt_len L.z_len (by rfl) (xA (xV 0) sa_nil))))))
      (ss_cons (xSet 5 sc_resultant_by.nd (se_op op_gPlus (xTy cr_gTuple bt_tuple L.z_tuple (by rfl) (xA (xV 1) sa_nil)) (se_op op_gTimesT (se_tup (xA se_int sa_nil)) (se_op op_gSub (se_op op_gPlus (xV 3) se_int) (xBi cr_gLen bt_len L.z_len (by rfl) (xA (xV 1) sa_nil))))))
      (ss_cons (xSet 6 sc_resultant_by.nd (se_new (sl_disp sa_nil)))
      (ss_cons (xFor (passes_of rfl) rfl (xR1 L.z_range (by rfl) (xA (xV 3) sa_nil)) (xNm 7 sc_resultant_by.nd) (ss_one (xExpr (xApp (xV 6) (xA (se_op op_gPlus (se_op op_gPlus (se_op op_gTimesT (se_tup (xA se_int sa_nil)) (xV 7)) (se_rev (xV 4))) (se_op op_gTimesT (se_tup (xA se_int sa_nil)) (se_op op_gSub (se_op op_gSub (xV 3) se_int) (xV 7)))) sa_nil)))))
      (ss_cons (xFor (passes_of rfl) rfl (xR1 L.z_range (by rfl) (xA (xV 2) sa_nil)) (xNm 7 sc_resultant_by.nd) (ss_one (xExpr (xApp (xV 6) (xA (se_op op_gPlus (se_op op_gPlus (se_op op_gTimesT (se_tup (xA se_int sa_nil)) (xV 7)) (se_rev (xV 5))) (se_op op_gTimesT (se_tup (xA se_int sa_nil)) (se_op op_gSub (se_op op_gSub (xV 2) se_int) (xV 7)))) sa_nil)))))
      (ss_one (ss_ret (xCall h_determinant_of (by decide) hr hg (takes_of rfl rfl rfl rfl) (by rfl) (xA (xV 6) sa_nil)))))))))

theorem ok_is_polyed (L : LE w K mg) : ∃ f fd, Has P w K mg base 3 "is_polyed" st_is_polyed ["value"] 1 f_is_polyed f fd := by
  obtain ⟨_, _, h_is_rowed⟩ := ok_is_rowed (P := P) (w := w) (base := base) L
  obtain ⟨f, fd, m, F⟩ := L.d_is_polyed
  refine ⟨f, fd, m, F, bd_is_polyed F, ?_⟩
  refine fng_sem (k := 2) F sc_is_polyed fun cdv A outer s H E hr hg => ?_
  exact (ss_cons (ss_if (sw_or (st_not (xtVal (xIsi bt_tuple L.z_isinstance L.z_tuple (by rfl) (by rfl) (xV 0)))) (sw_or1 (st_not (xtVal (xBi (cr_gAll rfl) bt_all L.z_all (by rfl) (xA (se_frz (xLc [("each", 1)] rfl sc_is_polyed.nd (si_any (xV 0)) (fun _ _ _ _ _ => (xwNm 1 sc_is_polyed.nd)) (fun _ _ _ _ _ => sts_nil) (fun _ _ _ _ _ => (xCall h_is_rowed (by decide) hr hg takes0 (by rfl) (xA (xV 1) sa_nil))) (ok := by exact blkOk_by (show blkC ["value", "each"] (defScope st_is_polyed) _ [("each", 1)] = true from by decide +kernel)))) sa_nil)))))).pt (ss_one (ss_ret se_bl)) ss_nil)
      (ss_one (ss_ret (se_or (xCmp (op_gEq (hu64 hr)) (xV 0) (se_tup sa_nil)) (se_one (xCmp (op_gNe (hu64 hr)) (xIx (xV 0) (se_un un_gNeg se_int)) (se_tup sa_nil)))))))

theorem ok_cut (L : LE w K mg) : ∃ f fd, Has P w K mg base 1 "cut" st_cut ["rows"] 1 f_cut f fd := by
  obtain ⟨f, fd, m, F⟩ := L.d_cut
  refine ⟨f, fd, m, F, bd_cut F, ?_⟩
  refine fng_sem (k := 0) F sc_cut fun cdv A outer s H E hr hg => ?_
  exact (ss_cons (xSet 1 sc_cut.nd (xBi cr_gLen bt_len L.z_len (by rfl) (xA (xV 0) sa_nil)))
      (ss_cons (ss_whileN (passes_of rfl) (sw_and (xtCmp op_gGt (xV 1) se_int) (sw_and1 (xtCmp (op_gEq (hu64 hr)) (xIx (xV 0) (se_op op_gSub (xV 1) se_int)) (se_tup sa_nil)))).pt (ss_one (xSet 1 sc_cut.nd (se_op op_gSub (xV 1) se_int))))
      (ss_one (ss_ret (xTy cr_gTuple bt_tuple L.z_tuple (by rfl) (xA (se_sl (xV 0) so_none (so_some (xV 1))) sa_nil))))))

theorem ok_derived_by (L : LE w K mg) : ∃ f fd, Has P w K mg base 3 "derived_by" st_derived_by ["poly"] 1 f_derived_by f fd := by
  obtain ⟨_, _, h_scaled⟩ := ok_scaled (P := P) (w := w) (base := base) L
  obtain ⟨_, _, h_cut⟩ := ok_cut (P := P) (w := w) (base := base) L
  obtain ⟨f, fd, m, F⟩ := L.d_derived_by
  refine ⟨f, fd, m, F, bd_derived_by F, ?_⟩
  refine fng_sem (k := 2) F sc_derived_by fun cdv A outer s H E hr hg => ?_
  exact (ss_one (ss_ret (xCall h_cut (by decide) hr hg (takes_of rfl rfl rfl rfl) (by rfl) (xA (se_sl (se_frz (xLc [("at", 1), ("row", 2)] rfl sc_derived_by.nd (xEnumT L.z_enumerate (by rfl) (xA (xV 0) sa_nil)) (fun _ _ _ _ _ => (xwGT rfl (xwG (xwNm 1 sc_derived_by.nd) (xwG (xwNm 2 sc_derived_by.nd) sgsw_nil)))) (fun _ _ _ _ _ => sts_nil) (fun _ _ _ _ _ => (xCall h_scaled (by decide) hr hg takes0 (by rfl) (xA (xV 2) (xA (xV 1) sa_nil)))) (ok := by exact blkOk_by (show blkC ["poly", "at", "row"] (defScope st_derived_by) _ [("at", 1), ("row", 2)] = true from by decide +kernel)))) (so_some se_int) so_none) sa_nil))))

theorem ok_exact_by (L : LE w K mg) : ∃ f fd, Has P w K mg base 4 "exact_by" st_exact_by ["row", "part"] 2 f_exact_by f fd := by
  obtain ⟨_, _, h_sum_by⟩ := ok_sum_by (P := P) (w := w) (base := base) L
  obtain ⟨_, _, h_gap_by⟩ := ok_gap_by (P := P) (w := w) (base := base) L
  obtain ⟨_, _, h_product_by⟩ := ok_product_by (P := P) (w := w) (base := base) L
  obtain ⟨_, _, h_raised⟩ := ok_raised (P := P) (w := w) (base := base) L
  obtain ⟨f, fd, m, F⟩ := L.d_exact_by
  refine ⟨f, fd, m, F, bd_exact_by F, ?_⟩
  refine fng_sem (k := 3) F sc_exact_by fun cdv A outer s H E hr hg => ?_
  exact (ss_cons (xPar 2 3 rfl sc_exact_by.nd (xA (se_tup sa_nil) (xA (xV 0) sa_nil)))
      (ss_cons (ss_whileN (passes_of rfl) (xtCmp (op_gNe (hu64 hr)) (xV 3) (se_tup sa_nil)) (ss_cons (xSet 4 sc_exact_by.nd (xCall h_raised (by decide) hr hg (takes_of rfl rfl rfl rfl) (by rfl) (xA (se_tup (xA (se_op op_gDiv (xIx (xV 3) (se_un un_gNeg se_int)) (xIx (xV 1) (se_un un_gNeg se_int))) sa_nil)) (xA (se_op op_gSub (xBi cr_gLen bt_len L.z_len (by rfl) (xA (xV 3) sa_nil)) (xBi cr_gLen bt_len L.z_len (by rfl) (xA (xV 1) sa_nil))) sa_nil))))
      (ss_one (xPar 2 3 rfl sc_exact_by.nd (xA (xCall h_sum_by (by decide) hr hg (takes_of rfl rfl rfl rfl) (by rfl) (xA (xV 2) (xA (xV 4) sa_nil))) (xA (xCall h_gap_by (by decide) hr hg (takes_of rfl rfl rfl rfl) (by rfl) (xA (xV 3) (xA (xCall h_product_by (by decide) hr hg (takes_of rfl rfl rfl rfl) (by rfl) (xA (xV 4) (xA (xV 1) sa_nil))) sa_nil))) sa_nil))))))
      (ss_one (ss_ret (xV 2)))))

theorem ok_values_at (L : LE w K mg) : ∃ f fd, Has P w K mg base 2 "values_at" st_values_at ["poly", "number"] 2 f_values_at f fd := by
  obtain ⟨_, _, h_trimmed⟩ := ok_trimmed (P := P) (w := w) (base := base) L
  obtain ⟨_, _, h_top_at⟩ := ok_top_at (P := P) (w := w) (base := base) L
  obtain ⟨f, fd, m, F⟩ := L.d_values_at
  refine ⟨f, fd, m, F, bd_values_at F, ?_⟩
  refine fng_sem (k := 1) F sc_values_at fun cdv A outer s H E hr hg => ?_
  exact (ss_one (ss_ret (xCall h_trimmed (by decide) hr hg (takes_of rfl rfl rfl rfl) (by rfl) (xA (se_frz (xLc [("row", 2)] rfl sc_values_at.nd (si_any (xV 0)) (fun _ _ _ _ _ => (xwNm 2 sc_values_at.nd)) (fun _ _ _ _ _ => sts_nil) (fun _ _ _ _ _ => (xCall h_top_at (by decide) hr hg takes0 (by rfl) (xA (xV 2) (xA (se_tup (xA (xV 1) (xA se_int sa_nil))) sa_nil)))) (ok := by exact blkOk_by (show blkC ["poly", "number", "row"] (defScope st_values_at) _ [("row", 2)] = true from by decide +kernel)))) sa_nil))))

theorem ok_row_through (L : LE w K mg) : ∃ f fd, Has P w K mg base 3 "row_through" st_row_through ["values"] 1 f_row_through f fd := by
  obtain ⟨_, _, h_sum_by⟩ := ok_sum_by (P := P) (w := w) (base := base) L
  obtain ⟨_, _, h_scaled⟩ := ok_scaled (P := P) (w := w) (base := base) L
  obtain ⟨_, _, h_product_by⟩ := ok_product_by (P := P) (w := w) (base := base) L
  obtain ⟨f, fd, m, F⟩ := L.d_row_through
  refine ⟨f, fd, m, F, bd_row_through F, ?_⟩
  refine fng_sem (k := 2) F sc_row_through fun cdv A outer s H E hr hg => ?_
  exact (ss_cons (xSet 1 sc_row_through.nd se_int)
      (ss_cons (xFor (passes_of rfl) rfl (xR2 L.z_range (by rfl) (xA se_int (xA (xBi cr_gLen bt_len L.z_len (by rfl) (xA (xV 0) sa_nil)) sa_nil))) (xNm 2 sc_row_through.nd) (ss_one (xSet 1 sc_row_through.nd (se_op op_gTimes (xV 1) (xV 2)))))
      (ss_cons (xAsg (se_tup (xA (se_tup sa_nil) (xA (se_tup (xA se_int sa_nil)) (xA (xV 1) (xA (se_frz (xList L.z_list (by rfl) (xA (xV 0) sa_nil))) sa_nil))))) (xGT rfl (xG (xNm 3 sc_row_through.nd) (xG (xNm 4 sc_row_through.nd) (xG (xNm 5 sc_row_through.nd) (xG (xNm 6 sc_row_through.nd) sgs_nil))))))
      (ss_cons (xFor (passes_of rfl) rfl (xR1 L.z_range (by rfl) (xA (xBi cr_gLen bt_len L.z_len (by rfl) (xA (xV 0) sa_nil)) sa_nil)) (xNm 2 sc_row_through.nd) (ss_cons (xSet 3 sc_row_through.nd (xCall h_sum_by (by decide) hr hg (takes_of rfl rfl rfl rfl) (by rfl) (xA (xV 3) (xA (xCall h_scaled (by decide) hr hg (takes_of rfl rfl rfl rfl) (by rfl) (xA (xV 4) (xA (se_op op_gTimes (xIx (xV 6) se_int) (xV 5)) sa_nil))) sa_nil))))
      (ss_cons (xPar 4 5 rfl sc_row_through.nd (xA (xCall h_product_by (by decide) hr hg (takes_of rfl rfl rfl rfl) (by rfl) (xA (xV 4) (xA (se_tup (xA (se_un un_gNeg (xV 2)) (xA se_int sa_nil))) sa_nil))) (xA (se_op op_gDiv (xV 5) (se_op op_gPlus (xV 2) se_int)) sa_nil)))
      (ss_one (xSetLcF 6 [("one", 8), ("two", 9)] rfl sc_row_through.nd (xZip L.z_zip (by rfl) (xA (xV 6) (xA (se_sl (xV 6) (so_some se_int) so_none) sa_nil))) (fun _ _ _ _ _ => (xwGT rfl (xwG (xwNm 8 sc_row_through.nd) (xwG (xwNm 9 sc_row_through.nd) sgsw_nil)))) (fun _ _ _ _ _ => sts_nil) (fun _ _ _ _ _ => (se_op op_gSub (xV 9) (xV 8))) (ok := by exact blkOk_by (show blkC ["values", "under", "at", "found", "part", "share", "steps", "each", "one", "two"] (defScope st_row_through) _ [("one", 8), ("two", 9)] = true from by decide +kernel)))))))
      (ss_one (ss_ret (xTy cr_gTuple bt_tuple L.z_tuple (by rfl) (xA (se_frz (xLc [("each", 7)] rfl sc_row_through.nd (si_any (xV 3)) (fun _ _ _ _ _ => (xwNm 7 sc_row_through.nd)) (fun _ _ _ _ _ => sts_nil) (fun _ _ _ _ _ => (se_op op_gDiv (xV 7) (xV 1))) (ok := by exact blkOk_by (show blkC ["values", "under", "at", "found", "part", "share", "steps", "each", "one", "two"] (defScope st_row_through) _ [("each", 7)] = true from by decide +kernel)))) sa_nil))))))))

theorem ok_width_of (L : LE w K mg) : ∃ f fd, Has P w K mg base 1 "width_of" st_width_of ["poly"] 1 f_width_of f fd := by
  obtain ⟨f, fd, m, F⟩ := L.d_width_of
  refine ⟨f, fd, m, F, bd_width_of F, ?_⟩
  refine fng_sem (k := 0) F sc_width_of fun cdv A outer s H E hr hg => ?_
  exact (ss_one (ss_ret (se_op op_gSub (xBi (cr_gMax rfl) bt_max L.z_max (by rfl) (xA (se_op op_gPlus (se_frz (sl_disp (xA se_int sa_nil))) (se_frz (xLc [("row", 1)] rfl sc_width_of.nd (si_any (xV 0)) (fun _ _ _ _ _ => (xwNm 1 sc_width_of.nd)) (fun _ _ _ _ _ => sts_nil) (fun _ _ _ _ _ => (xBi cr_gLen bt_len L.z_len (by rfl) (xA (xV 1) sa_nil))) (ok := by exact blkOk_by (show blkC ["poly", "row"] (defScope st_width_of) _ [("row", 1)] = true from by decide +kernel))))) sa_nil)) se_int)))

theorem ok_resultant_of (L : LE w K mg) : ∃ f fd, Has P w K mg base 4 "resultant_of" st_resultant_of ["poly", "other"] 2 f_resultant_of f fd := by
  obtain ⟨_, _, h_resultant_by⟩ := ok_resultant_by (P := P) (w := w) (base := base) L
  obtain ⟨_, _, h_values_at⟩ := ok_values_at (P := P) (w := w) (base := base) L
  obtain ⟨_, _, h_row_through⟩ := ok_row_through (P := P) (w := w) (base := base) L
  obtain ⟨_, _, h_width_of⟩ := ok_width_of (P := P) (w := w) (base := base) L
  obtain ⟨f, fd, m, F⟩ := L.d_resultant_of
  refine ⟨f, fd, m, F, bd_resultant_of F, ?_⟩
  refine fng_sem (k := 3) F sc_resultant_of fun cdv A outer s H E hr hg => ?_
  exact (ss_cons (xPar 5 6 rfl sc_resultant_of.nd (xA (se_op op_gSub (xBi cr_gLen bt_len L.z_len (by rfl) (xA (xV 0) sa_nil)) se_int) (xA (se_op op_gSub (xBi cr_gLen bt_len L.z_len (by rfl) (xA (xV 1) sa_nil)) se_int) sa_nil)))
      (ss_cons (xSet 2 sc_resultant_of.nd (se_op op_gPlus (se_op op_gTimes (xV 6) (xCall h_width_of (by decide) hr hg (takes_of rfl rfl rfl rfl) (by rfl) (xA (xV 0) sa_nil))) (se_op op_gTimes (xV 5) (xCall h_width_of (by decide) hr hg (takes_of rfl rfl rfl rfl) (by rfl) (xA (xV 1) sa_nil)))))
      (ss_cons (xSet 3 sc_resultant_of.nd (se_new (sl_disp sa_nil)))
      (ss_cons (xFor (passes_of rfl) rfl (xR1 L.z_range (by rfl) (xA (se_op op_gPlus (xV 2) se_int) sa_nil)) (xNm 4 sc_resultant_of.nd) (ss_one (xExpr (xApp (xV 3) (xA (xCall h_resultant_by (by decide) hr hg (takes_of rfl rfl rfl rfl) (by rfl) (xA (xCall h_values_at (by decide) hr hg (takes_of rfl rfl rfl rfl) (by rfl) (xA (xV 0) (xA (xV 4) sa_nil))) (xA (xCall h_values_at (by decide) hr hg (takes_of rfl rfl rfl rfl) (by rfl) (xA (xV 1) (xA (xV 4) sa_nil))) (xA (xV 5) (xA (xV 6) sa_nil))))) sa_nil)))))
      (ss_one (ss_ret (xCall h_row_through (by decide) hr hg (takes_of rfl rfl rfl rfl) (by rfl) (xA (xV 3) sa_nil))))))))

theorem ok_discriminant_of (L : LE w K mg) : ∃ f fd, Has P w K mg base 5 "discriminant_of" st_discriminant_of ["poly"] 1 f_discriminant_of f fd := by
  obtain ⟨_, _, h_scaled⟩ := ok_scaled (P := P) (w := w) (base := base) L
  obtain ⟨_, _, h_derived_by⟩ := ok_derived_by (P := P) (w := w) (base := base) L
  obtain ⟨_, _, h_exact_by⟩ := ok_exact_by (P := P) (w := w) (base := base) L
  obtain ⟨_, _, h_resultant_of⟩ := ok_resultant_of (P := P) (w := w) (base := base) L
  obtain ⟨f, fd, m, F⟩ := L.d_discriminant_of
  refine ⟨f, fd, m, F, bd_discriminant_of F, ?_⟩
  refine fng_sem (k := 4) F sc_discriminant_of fun cdv A outer s H E hr hg => ?_
  exact (ss_cons (xSet 1 sc_discriminant_of.nd (se_op op_gSub (xBi cr_gLen bt_len L.z_len (by rfl) (xA (xV 0) sa_nil)) se_int))
      (ss_cons (xSet 2 sc_discriminant_of.nd (xCall h_exact_by (by decide) hr hg (takes_of rfl rfl rfl rfl) (by rfl) (xA (xCall h_resultant_of (by decide) hr hg (takes_of rfl rfl rfl rfl) (by rfl) (xA (xV 0) (xA (xCall h_derived_by (by decide) hr hg (takes_of rfl rfl rfl rfl) (by rfl) (xA (xV 0) sa_nil)) sa_nil))) (xA (xIx (xV 0) (se_un un_gNeg se_int)) sa_nil))))
      (ss_one (ss_ret (se_if (xtCmp (op_gEq (hu64 hr)) (se_op op_gMod (se_op op_gDiv (se_op op_gTimes (xV 1) (se_op op_gSub (xV 1) se_int)) se_int) se_int) se_int) (xCall h_scaled (by decide) hr hg (takes_of rfl rfl rfl rfl) (by rfl) (xA (xV 2) (xA (se_un un_gNeg se_int) sa_nil))) (xV 2))))))

theorem ok_check_poly (L : LE w K mg) : ∃ f fd, HasD P w K mg base 4 "check_poly" ["value", "least"] 2 f_check_poly [.d (.int 0)] f fd := by
  obtain ⟨_, _, h_is_polyed⟩ := ok_is_polyed (P := P) (w := w) (base := base) L
  obtain ⟨f, fd, m, F⟩ := L.d_check_poly
  refine ⟨f, fd, m, F.kp, bdA_check_poly F, (let ⟨ds, r, b⟩ := bdD_check_poly F; ⟨_, ds, r, b, fun α F => (.cons (show Dq _ _ _ _ from (.int _)) .nil)⟩), ?_⟩
  refine fng_semD (k := 3) F sc_check_poly fun cdv A outer s H E hr hg => ?_
  exact (ss_one (ss_if (sw_or (st_not (xtVal (xCall h_is_polyed (by decide) hr hg (takes_of rfl rfl rfl rfl) (by rfl) (xA (xV 0) sa_nil)))) (sw_or1 (xtCmp op_gLt (xBi cr_gLen bt_len L.z_len (by rfl) (xA (xV 0) sa_nil)) (xV 1)))).pt (ss_one ss_nev) ss_nil))

theorem ok_discriminant (L : LE w K mg) : ∃ f fd, Has P w K mg base 6 "discriminant" st_discriminant ["poly"] 1 f_discriminant f fd := by
  obtain ⟨_, _, h_discriminant_of⟩ := ok_discriminant_of (P := P) (w := w) (base := base) L
  obtain ⟨_, _, h_check_poly⟩ := ok_check_poly (P := P) (w := w) (base := base) L
  obtain ⟨f, fd, m, F⟩ := L.d_discriminant
  refine ⟨f, fd, m, F, bd_discriminant F, ?_⟩
  refine fng_sem (k := 5) F sc_discriminant fun cdv A outer s H E hr hg => ?_
  exact (ss_cons (xExpr (xCallA h_check_poly (by decide) hr hg (takes_of rfl rfl rfl rfl) (by rfl) (xA (xV 0) (xA se_int sa_nil))))
      (ss_one (ss_ret (xCall h_discriminant_of (by decide) hr hg (takes_of rfl rfl rfl rfl) (by rfl) (xA (xV 0) sa_nil)))))

theorem ok_law_well (L : LE w K mg) : ∃ f fd, Has P w K mg base 1 "_law_well" st_law_well ["_law_script", "_law_at"] 2 f_law_well f fd := by
  obtain ⟨f, fd, m, F⟩ := L.d_law_well
  refine ⟨f, fd, m, F, bd_law_well F, ?_⟩
  refine fng_sem (k := 0) F sc_law_well fun cdv A outer s H E hr hg => ?_
  exact (ss_cons (xSet 2 sc_law_well.nd (se_op op_gPlus se_int (se_op op_gTimes se_int (xV 1))))
      (ss_cons (xFor (passes_of rfl) rfl (si_any (se_sl (xV 0) so_none (so_some se_int))) (xNm 3 sc_law_well.nd) (ss_one (xSet 2 sc_law_well.nd (se_op op_gMod (xTy cr_gInt bt_int L.z_int (by rfl) (xA (se_op op_gPlus (se_op op_gPlus (se_op op_gTimes (xV 2) se_int) (se_op op_gMod (xTy cr_gInt bt_int L.z_int (by rfl) (xA (xV 3) sa_nil)) se_int)) se_int) sa_nil)) se_int))))
      (ss_cons (xSet 4 sc_law_well.nd (se_if (xtCmp op_gLt (xV 1) (xBi cr_gLen bt_len L.z_len (by rfl) (xA (xV 0) sa_nil))) (xTy cr_gInt bt_int L.z_int (by rfl) (xA (xIx (xV 0) (xV 1)) sa_nil)) se_int))
      (ss_cons (xSet 2 sc_law_well.nd (se_op op_gMod (xTy cr_gInt bt_int L.z_int (by rfl) (xA (se_op op_gPlus (se_op op_gPlus (se_op op_gTimes (xV 2) se_int) (se_op op_gTimes (se_op op_gMod (xTy cr_gInt bt_int L.z_int (by rfl) (xA (xV 4) sa_nil)) se_int) se_int)) se_int) sa_nil)) se_int))
      (ss_one (ss_ret (se_new (sl_disp (xA (se_if (sw_or (xtCmp op_gLt (xV 4) se_int) (sw_or1 (xtCmp op_gGe (xV 4) (se_op op_gPow se_int se_int)))).pt (xBi cr_gAbs bt_abs L.z_abs (by rfl) (xA (xV 4) sa_nil)) se_int) (xA (xV 2) (xA se_int sa_nil)))))))))))

theorem ok_law_draw (L : LE w K mg) : ∃ f fd, Has P w K mg base 1 "_law_draw" st_law_draw ["_law_well_here", "_law_many"] 2 f_law_draw f fd := by
  obtain ⟨f, fd, m, F⟩ := L.d_law_draw
  refine ⟨f, fd, m, F, bd_law_draw F, ?_⟩
  refine fng_sem (k := 0) F sc_law_draw fun cdv A outer s H E hr hg => ?_
  exact (ss_cons (ss_if (xtCmp op_gGt (xIx (xV 0) se_int) se_int) (ss_cons (xAsg (xBi cr_gDivmod bt_divmod L.z_divmod (by rfl) (xA (xIx (xV 0) se_int) (xA (xV 1) sa_nil))) (xGT rfl (xG (xGS (xV 0) se_int) (xG (xNm 3 sc_law_draw.nd) sgs_nil))))
      (ss_one (ss_ret (xV 3)))) ss_nil)
      (ss_cons (xAsg (se_op op_gPlus (xIx (xV 0) se_int) se_int) (xGS (xV 0) se_int))
      (ss_cons (xSet 2 sc_law_draw.nd (se_op op_gMod (xTy cr_gInt bt_int L.z_int (by rfl) (xA (se_op op_gPlus (xIx (xV 0) se_int) (se_op op_gTimes se_int (xIx (xV 0) se_int))) sa_nil)) se_int))
      (ss_cons (xAsg (se_op op_gMod (xTy cr_gInt bt_int L.z_int (by rfl) (xA (se_op op_gPlus (se_op op_gTimes (xV 2) (se_op op_gPlus (se_op op_gMod (xTy cr_gInt bt_int L.z_int (by rfl) (xA (xV 2) sa_nil)) se_int) se_int)) (se_op op_gTimes se_int (xIx (xV 0) se_int))) sa_nil)) se_int) (xGS (xV 0) se_int))
      (ss_one (ss_ret (se_op op_gMod (xTy cr_gInt bt_int L.z_int (by rfl) (xA (se_op op_gDiv (xIx (xV 0) se_int) se_int) sa_nil)) (xV 1))))))))

theorem ok_law_pick (L : LE w K mg) : ∃ f fd, Has P w K mg base 2 "_law_pick" st_law_pick ["_law_well_here", "_law_some"] 2 f_law_pick f fd := by
  obtain ⟨_, _, h_law_draw⟩ := ok_law_draw (P := P) (w := w) (base := base) L
  obtain ⟨f, fd, m, F⟩ := L.d_law_pick
  refine ⟨f, fd, m, F, bd_law_pick F, ?_⟩
  refine fng_sem (k := 1) F sc_law_pick fun cdv A outer s H E hr hg => ?_
  exact (ss_one (ss_ret (xIx (xV 1) (xCall h_law_draw (by decide) hr hg (takes_of rfl rfl rfl rfl) (by rfl) (xA (xV 0) (xA (xBi cr_gLen bt_len L.z_len (by rfl) (xA (xV 1) sa_nil)) sa_nil))))))

theorem ok_law_trim (L : LE w K mg) : ∃ f fd, Has P w K mg base 1 "_law_trim" st_law_trim ["_law_some"] 1 f_law_trim f fd := by
  obtain ⟨f, fd, m, F⟩ := L.d_law_trim
  refine ⟨f, fd, m, F, bd_law_trim F, ?_⟩
  refine fng_sem (k := 0) F sc_law_trim fun cdv A outer s H E hr hg => ?_
  exact (ss_cons (xSet 1 sc_law_trim.nd (se_new (xList L.z_list (by rfl) (xA (xV 0) sa_nil))))
      (ss_cons (ss_whileN (passes_of rfl) (sw_and (xtCmp (op_gNe (hu64 hr)) (xV 1) (se_frz (sl_disp sa_nil))) (sw_and1 (sw_or (xtCmp (op_gEq (hu64 hr)) (xIx (xV 1) (se_un un_gNeg se_int)) se_int) (sw_or1 (xtCmp (op_gEq (hu64 hr)) (xIx (xV 1) (se_un un_gNeg se_int)) (se_tup sa_nil)))).pt)).pt (ss_one (xExpr (xPop (xV 1)))))
      (ss_one (ss_ret (xTy cr_gTuple bt_tuple L.z_tuple (by rfl) (xA (xV 1) sa_nil))))))

theorem ok_law_scaled (L : LE w K mg) : ∃ f fd, Has P w K mg base 2 "_law_scaled" st_law_scaled ["_law_row_here", "_law_by"] 2 f_law_scaled f fd := by
  obtain ⟨_, _, h_law_trim⟩ := ok_law_trim (P := P) (w := w) (base := base) L
  obtain ⟨f, fd, m, F⟩ := L.d_law_scaled
  refine ⟨f, fd, m, F, bd_law_scaled F, ?_⟩
  refine fng_sem (k := 1) F sc_law_scaled fun cdv A outer s H E hr hg => ?_
  exact (ss_one (ss_ret (xCall h_law_trim (by decide) hr hg (takes_of rfl rfl rfl rfl) (by rfl) (xA (se_frz (xLc [("_law_each", 2)] rfl sc_law_scaled.nd (si_any (xV 0)) (fun _ _ _ _ _ => (xwNm 2 sc_law_scaled.nd)) (fun _ _ _ _ _ => sts_nil) (fun _ _ _ _ _ => (se_op op_gTimes (xV 1) (xV 2))) (ok := by exact blkOk_by (show blkC ["_law_row_here", "_law_by", "_law_each"] (defScope st_law_scaled) _ [("_law_each", 2)] = true from by decide +kernel)))) sa_nil))))

theorem ok_law_row_sum (L : LE w K mg) : ∃ f fd, Has P w K mg base 2 "_law_row_sum" st_law_row_sum ["_law_one", "_law_two"] 2 f_law_row_sum f fd := by
  obtain ⟨_, _, h_law_trim⟩ := ok_law_trim (P := P) (w := w) (base := base) L
  obtain ⟨f, fd, m, F⟩ := L.d_law_row_sum
  refine ⟨f, fd, m, F, bd_law_row_sum F, ?_⟩
  refine fng_sem (k := 1) F sc_law_row_sum fun cdv A outer s H E hr hg => ?_
  exact (ss_cons (xSet 2 sc_law_row_sum.nd (xBi (cr_gMax rfl) bt_max L.z_max (by rfl) (xA (xBi cr_gLen bt_len L.z_len (by rfl) (xA (xV 0) sa_nil)) (xA (xBi cr_gLen bt_len L.z_len (by rfl) (xA (xV 1) sa_nil)) sa_nil))))
      (ss_cons (xAsg (se_tup (xA (se_op op_gPlus (xV 0) (se_op op_gTimesT (se_tup (xA se_int sa_nil)) (se_op op_gSub (xV 2) (xBi cr_gLen bt_len L.z_len (by rfl) (xA (xV 0) sa_nil))))) (xA (se_op op_gPlus (xV 1) (se_op op_gTimesT (se_tup (xA se_int sa_nil)) (se_op op_gSub (xV 2) (xBi cr_gLen bt_len L.z_len (by rfl) (xA (xV 1) sa_nil))))) sa_nil))) (xGT rfl (xG (xNm 3 sc_law_row_sum.nd) (xG (xNm 4 sc_law_row_sum.nd) sgs_nil))))
      (ss_one (ss_ret (xCall h_law_trim (by decide) hr hg (takes_of rfl rfl rfl rfl) (by rfl) (xA (se_frz (xLc [("_law_k", 5)] rfl sc_law_row_sum.nd (xR1 L.z_range (by rfl) (xA (xV 2) sa_nil)) (fun _ _ _ _ _ => (xwNm 5 sc_law_row_sum.nd)) (fun _ _ _ _ _ => sts_nil) (fun _ _ _ _ _ => (se_op op_gPlus (xIx (xV 3) (xV 5)) (xIx (xV 4) (xV 5)))) (ok := by exact blkOk_by (show blkC ["_law_one", "_law_two", "_law_many", "_law_far", "_law_high", "_law_k"] (defScope st_law_row_sum) _ [("_law_k", 5)] = true from by decide +kernel)))) sa_nil))))))

theorem ok_law_row_less (L : LE w K mg) : ∃ f fd, Has P w K mg base 3 "_law_row_less" st_law_row_less ["_law_one", "_law_two"] 2 f_law_row_less f fd := by
  obtain ⟨_, _, h_law_scaled⟩ := ok_law_scaled (P := P) (w := w) (base := base) L
  obtain ⟨_, _, h_law_row_sum⟩ := ok_law_row_sum (P := P) (w := w) (base := base) L
  obtain ⟨f, fd, m, F⟩ := L.d_law_row_less
  refine ⟨f, fd, m, F, bd_law_row_less F, ?_⟩
  refine fng_sem (k := 2) F sc_law_row_less fun cdv A outer s H E hr hg => ?_
  exact (ss_one (ss_ret (xCall h_law_row_sum (by decide) hr hg (takes_of rfl rfl rfl rfl) (by rfl) (xA (xV 0) (xA (xCall h_law_scaled (by decide) hr hg (takes_of rfl rfl rfl rfl) (by rfl) (xA (xV 1) (xA (se_un un_gNeg se_int) sa_nil))) sa_nil)))))

theorem ok_law_row_times (L : LE w K mg) : ∃ f fd, Has P w K mg base 2 "_law_row_times" st_law_row_times ["_law_one", "_law_two"] 2 f_law_row_times f fd := by
  obtain ⟨_, _, h_law_trim⟩ := ok_law_trim (P := P) (w := w) (base := base) L
  obtain ⟨f, fd, m, F⟩ := L.d_law_row_times
  refine ⟨f, fd, m, F, bd_law_row_times F, ?_⟩
  refine fng_sem (k := 1) F sc_law_row_times fun cdv A outer s H E hr hg => ?_
  exact (ss_cons (xSet 2 sc_law_row_times.nd (se_new (sl_rep (se_frz (sl_disp (xA se_int sa_nil))) (se_op op_gPlus (xBi cr_gLen bt_len L.z_len (by rfl) (xA (xV 0) sa_nil)) (xBi cr_gLen bt_len L.z_len (by rfl) (xA (xV 1) sa_nil))))))
      (ss_cons (xFor (passes_of rfl) rfl (xR1 L.z_range (by rfl) (xA (xBi cr_gLen bt_len L.z_len (by rfl) (xA (xV 0) sa_nil)) sa_nil)) (xNm 3 sc_law_row_times.nd) (ss_one (xFor (passes_of rfl) rfl (xR1 L.z_range (by rfl) (xA (xBi cr_gLen bt_len L.z_len (by rfl) (xA (xV 1) sa_nil)) sa_nil)) (xNm 4 sc_law_row_times.nd) (ss_one (xAsg (se_op op_gPlus (xIx (xV 2) (se_op op_gPlus (xV 3) (xV 4))) (se_op op_gTimes (xIx (xV 0) (xV 3)) (xIx (xV 1) (xV 4)))) (xGS (xV 2) (se_op op_gPlus (xV 3) (xV 4))))))))
      (ss_one (ss_ret (xCall h_law_trim (by decide) hr hg (takes_of rfl rfl rfl rfl) (by rfl) (xA (xV 2) sa_nil))))))

theorem ok_law_poly_times (L : LE w K mg) : ∃ f fd, Has P w K mg base 3 "_law_poly_times" st_law_poly_times ["_law_one", "_law_two"] 2 f_law_poly_times f fd := by
  obtain ⟨_, _, h_law_trim⟩ := ok_law_trim (P := P) (w := w) (base := base) L
  obtain ⟨_, _, h_law_row_sum⟩ := ok_law_row_sum (P := P) (w := w) (base := base) L
  obtain ⟨_, _, h_law_row_times⟩ := ok_law_row_times (P := P) (w := w) (base := base) L
  obtain ⟨f, fd, m, F⟩ := L.d_law_poly_times
  refine ⟨f, fd, m, F, bd_law_poly_times F, ?_⟩
  refine fng_sem (k := 2) F sc_law_poly_times fun cdv A outer s H E hr hg => ?_
  exact (ss_cons (xSet 2 sc_law_poly_times.nd (se_new (sl_rep (se_frz (sl_disp (xA (se_tup sa_nil) sa_nil))) (se_op op_gPlus (xBi cr_gLen bt_len L.z_len (by rfl) (xA (xV 0) sa_nil)) (xBi cr_gLen bt_len L.z_len (by rfl) (xA (xV 1) sa_nil))))))
      (ss_cons (xFor (passes_of rfl) rfl (xR1 L.z_range (by rfl) (xA (xBi cr_gLen bt_len L.z_len (by rfl) (xA (xV 0) sa_nil)) sa_nil)) (xNm 3 sc_law_poly_times.nd) (ss_one (xFor (passes_of rfl) rfl (xR1 L.z_range (by rfl) (xA (xBi cr_gLen bt_len L.z_len (by rfl) (xA (xV 1) sa_nil)) sa_nil)) (xNm 4 sc_law_poly_times.nd) (ss_one (xAsg (xCall h_law_row_sum (by decide) hr hg (takes_of rfl rfl rfl rfl) (by rfl) (xA (xIx (xV 2) (se_op op_gPlus (xV 3) (xV 4))) (xA (xCall h_law_row_times (by decide) hr hg (takes_of rfl rfl rfl rfl) (by rfl) (xA (xIx (xV 0) (xV 3)) (xA (xIx (xV 1) (xV 4)) sa_nil))) sa_nil))) (xGS (xV 2) (se_op op_gPlus (xV 3) (xV 4))))))))
      (ss_one (ss_ret (xCall h_law_trim (by decide) hr hg (takes_of rfl rfl rfl rfl) (by rfl) (xA (xV 2) sa_nil))))))

theorem ok_law_number (L : LE w K mg) : ∃ f fd, Has P w K mg base 2 "_law_number" st_law_number ["_law_well_here"] 1 f_law_number f fd := by
  obtain ⟨_, _, h_law_draw⟩ := ok_law_draw (P := P) (w := w) (base := base) L
  obtain ⟨f, fd, m, F⟩ := L.d_law_number
  refine ⟨f, fd, m, F, bd_law_number F, ?_⟩
  refine fng_sem (k := 1) F sc_law_number fun cdv A outer s H E hr hg => ?_
  exact (ss_cons (ss_if (xtCmp (op_gEq (hu64 hr)) (xCall h_law_draw (by decide) hr hg (takes_of rfl rfl rfl rfl) (by rfl) (xA (xV 0) (xA se_int sa_nil))) se_int) (ss_one (ss_ret (se_op op_gSub (xCall h_law_draw (by decide) hr hg (takes_of rfl rfl rfl rfl) (by rfl) (xA (xV 0) (xA (se_op op_gPow se_int se_int) sa_nil))) se_int))) ss_nil)
      (ss_one (ss_ret (se_op op_gSub (xCall h_law_draw (by decide) hr hg (takes_of rfl rfl rfl rfl) (by rfl) (xA (xV 0) (xA se_int sa_nil))) se_int))))

theorem ok_law_row (L : LE w K mg) : ∃ f fd, Has P w K mg base 3 "_law_row" st_law_row ["_law_well_here", "_law_many"] 2 f_law_row f fd := by
  obtain ⟨_, _, h_law_draw⟩ := ok_law_draw (P := P) (w := w) (base := base) L
  obtain ⟨_, _, h_law_trim⟩ := ok_law_trim (P := P) (w := w) (base := base) L
  obtain ⟨_, _, h_law_number⟩ := ok_law_number (P := P) (w := w) (base := base) L
  obtain ⟨f, fd, m, F⟩ := L.d_law_row
  refine ⟨f, fd, m, F, bd_law_row F, ?_⟩
  refine fng_sem (k := 2) F sc_law_row fun cdv A outer s H E hr hg => ?_
  exact (ss_cons (xSet 2 sc_law_row.nd (se_new (sl_disp sa_nil)))
      (ss_cons (xFor (passes_of rfl) rfl (xR1 L.z_range (by rfl) (xA (xCall h_law_draw (by decide) hr hg (takes_of rfl rfl rfl rfl) (by rfl) (xA (xV 0) (xA (se_op op_gPlus (xV 1) se_int) sa_nil))) sa_nil)) (xNm 3 sc_law_row.nd) (ss_one (xExpr (xApp (xV 2) (xA (xCall h_law_number (by decide) hr hg (takes_of rfl rfl rfl rfl) (by rfl) (xA (xV 0) sa_nil)) sa_nil)))))
      (ss_one (ss_ret (xCall h_law_trim (by decide) hr hg (takes_of rfl rfl rfl rfl) (by rfl) (xA (xV 2) sa_nil))))))

theorem ok_law_all (L : LE w K mg) : ∃ f fd, Has P w K mg base 3 "_law_all" st_law_all ["_law_by", "_law_some"] 2 f_law_all f fd := by
  obtain ⟨_, _, h_law_row_times⟩ := ok_law_row_times (P := P) (w := w) (base := base) L
  obtain ⟨f, fd, m, F⟩ := L.d_law_all
  refine ⟨f, fd, m, F, bd_law_all F, ?_⟩
  refine fng_sem (k := 2) F sc_law_all fun cdv A outer s H E hr hg => ?_
  exact (ss_cons (xSet 2 sc_law_all.nd (se_tup (xA (xV 0) sa_nil)))
      (ss_cons (xFor (passes_of rfl) rfl (si_any (xV 1)) (xNm 3 sc_law_all.nd) (ss_one (xSet 2 sc_law_all.nd (xCall h_law_row_times (by decide) hr hg (takes_of rfl rfl rfl rfl) (by rfl) (xA (xV 2) (xA (xV 3) sa_nil))))))
      (ss_one (ss_ret (xV 2)))))

theorem ok_law_formula (L : LE w K mg) : ∃ f fd, Has P w K mg base 4 "_law_formula" st_law_formula ["_law_one"] 1 f_law_formula f fd := by
  obtain ⟨_, _, h_law_row_sum⟩ := ok_law_row_sum (P := P) (w := w) (base := base) L
  obtain ⟨_, _, h_law_all⟩ := ok_law_all (P := P) (w := w) (base := base) L
  obtain ⟨f, fd, m, F⟩ := L.d_law_formula
  refine ⟨f, fd, m, F, bd_law_formula F, ?_⟩
  refine fng_sem (k := 3) F sc_law_formula fun cdv A outer s H E hr hg => ?_
  exact (ss_cons (ss_if (xtCmp (op_gEq (hu64 hr)) (xBi cr_gLen bt_len L.z_len (by rfl) (xA (xV 0) sa_nil)) se_int) (ss_one (ss_ret (se_tup (xA se_int sa_nil)))) ss_nil)
      (ss_cons (ss_if (xtCmp (op_gEq (hu64 hr)) (xBi cr_gLen bt_len L.z_len (by rfl) (xA (xV 0) sa_nil)) se_int) (ss_one (ss_ret (xCall h_law_row_sum (by decide) hr hg (takes_of rfl rfl rfl rfl) (by rfl) (xA (xCall h_law_all (by decide) hr hg (takes_of rfl rfl rfl rfl) (by rfl) (xA se_int (xA (se_frz (sl_disp (xA (xIx (xV 0) se_int) (xA (xIx (xV 0) se_int) sa_nil)))) sa_nil))) (xA (xCall h_law_all (by decide) hr hg (takes_of rfl rfl rfl rfl) (by rfl) (xA (se_un un_gNeg se_int) (xA (se_frz (sl_disp (xA (xIx (xV 0) se_int) (xA (xIx (xV 0) se_int) sa_nil)))) sa_nil))) sa_nil))))) ss_nil)
      (ss_cons (xAsg (xV 0) (xGT rfl (xG (xNm 2 sc_law_formula.nd) (xG (xNm 3 sc_law_formula.nd) (xG (xNm 4 sc_law_formula.nd) (xG (xNm 5 sc_law_formula.nd) sgs_nil))))))
      (ss_cons (xSet 1 sc_law_formula.nd (xCall h_law_row_sum (by decide) hr hg (takes_of rfl rfl rfl rfl) (by rfl) (xA (xCall h_law_all (by decide) hr hg (takes_of rfl rfl rfl rfl) (by rfl) (xA se_int (xA (se_frz (sl_disp (xA (xV 4) (xA (xV 4) (xA (xV 3) (xA (xV 3) sa_nil)))))) sa_nil))) (xA (xCall h_law_all (by decide) hr hg (takes_of rfl rfl rfl rfl) (by rfl) (xA (se_un un_gNeg se_int) (xA (se_frz (sl_disp (xA (xV 5) (xA (xV 3) (xA (xV 3) (xA (xV 3) sa_nil)))))) sa_nil))) sa_nil))))
      (ss_cons (xSet 1 sc_law_formula.nd (xCall h_law_row_sum (by decide) hr hg (takes_of rfl rfl rfl rfl) (by rfl) (xA (xV 1) (xA (xCall h_law_all (by decide) hr hg (takes_of rfl rfl rfl rfl) (by rfl) (xA (se_un un_gNeg se_int) (xA (se_frz (sl_disp (xA (xV 4) (xA (xV 4) (xA (xV 4) (xA (xV 2) sa_nil)))))) sa_nil))) sa_nil))))
      (ss_one (ss_ret (xCall h_law_row_sum (by decide) hr hg (takes_of rfl rfl rfl rfl) (by rfl) (xA (xCall h_law_row_sum (by decide) hr hg (takes_of rfl rfl rfl rfl) (by rfl) (xA (xV 1) (xA (xCall h_law_all (by decide) hr hg (takes_of rfl rfl rfl rfl) (by rfl) (xA (se_un un_gNeg se_int) (xA (se_frz (sl_disp (xA (xV 5) (xA (xV 5) (xA (xV 2) (xA (xV 2) sa_nil)))))) sa_nil))) sa_nil))) (xA (xCall h_law_all (by decide) hr hg (takes_of rfl rfl rfl rfl) (by rfl) (xA se_int (xA (se_frz (sl_disp (xA (xV 5) (xA (xV 4) (xA (xV 3) (xA (xV 2) sa_nil)))))) sa_nil))) sa_nil))))))))))

theorem ok_law_right (L : LE w K mg) : ∃ f fd, Has P w K mg base 7 "_law_right" st_law_right ["_law_well_here"] 1 f_law_right f fd := by
  obtain ⟨_, _, h_discriminant⟩ := ok_discriminant (P := P) (w := w) (base := base) L
  obtain ⟨_, _, h_law_draw⟩ := ok_law_draw (P := P) (w := w) (base := base) L
  obtain ⟨_, _, h_law_pick⟩ := ok_law_pick (P := P) (w := w) (base := base) L
  obtain ⟨_, _, h_law_scaled⟩ := ok_law_scaled (P := P) (w := w) (base := base) L
  obtain ⟨_, _, h_law_row_less⟩ := ok_law_row_less (P := P) (w := w) (base := base) L
  obtain ⟨_, _, h_law_row_times⟩ := ok_law_row_times (P := P) (w := w) (base := base) L
  obtain ⟨_, _, h_law_poly_times⟩ := ok_law_poly_times (P := P) (w := w) (base := base) L
  obtain ⟨_, _, h_law_row⟩ := ok_law_row (P := P) (w := w) (base := base) L
  obtain ⟨_, _, h_law_all⟩ := ok_law_all (P := P) (w := w) (base := base) L
  obtain ⟨_, _, h_law_formula⟩ := ok_law_formula (P := P) (w := w) (base := base) L
  obtain ⟨f, fd, m, F⟩ := L.d_law_right
  refine ⟨f, fd, m, F, bd_law_right F, ?_⟩
  refine fng_sem (k := 6) F sc_law_right fun cdv A outer s H E hr hg => ?_
  exact (ss_cons (xPar 5 6 rfl sc_law_right.nd (xA (se_new (sl_disp sa_nil)) (xA (se_new (sl_disp sa_nil)) sa_nil)))
      (ss_cons (xFor (passes_of rfl) rfl (xR1 L.z_range (by rfl) (xA (se_op op_gPlus se_int (xCall h_law_draw (by decide) hr hg (takes_of rfl rfl rfl rfl) (by rfl) (xA (xV 0) (xA se_int sa_nil)))) sa_nil)) (xNm 1 sc_law_right.nd) (ss_one (xExpr (xApp (xV 5) (xA (xCall h_law_row (by decide) hr hg (takes_of rfl rfl rfl rfl) (by rfl) (xA (xV 0) (xA se_int sa_nil))) sa_nil)))))
      (ss_cons (xSet 2 sc_law_right.nd (xCall h_law_row (by decide) hr hg (takes_of rfl rfl rfl rfl) (by rfl) (xA (xV 0) (xA se_int sa_nil))))
      (ss_cons (xSet 3 sc_law_right.nd (se_op op_gPlus (xTy cr_gTuple bt_tuple L.z_tuple (by rfl) (xA (xV 5) sa_nil)) (se_tup (xA (se_if (xtCmp (op_gNe (hu64 hr)) (xV 2) (se_tup sa_nil)) (xV 2) (se_tup (xA se_int sa_nil))) sa_nil))))
      (ss_cons (xFor (passes_of rfl) rfl (xR1 L.z_range (by rfl) (xA (se_op op_gPlus se_int (xCall h_law_draw (by decide) hr hg (takes_of rfl rfl rfl rfl) (by rfl) (xA (xV 0) (xA se_int sa_nil)))) sa_nil)) (xNm 1 sc_law_right.nd) (ss_cons (xSet 7 sc_law_right.nd (se_if (xtCmp op_gGt (xCall h_law_draw (by decide) hr hg (takes_of rfl rfl rfl rfl) (by rfl) (xA (xV 0) (xA se_int sa_nil))) se_int) (se_tup (xA (xCall h_law_pick (by decide) hr hg (takes_of rfl rfl rfl rfl) (by rfl) (xA (xV 0) (xA (se_tup (xA se_int (xA se_int (xA (se_un un_gNeg se_int) (xA se_int (xA se_int sa_nil)))))) sa_nil))) sa_nil)) (se_tup (xA (se_op op_gSub (xCall h_law_draw (by decide) hr hg (takes_of rfl rfl rfl rfl) (by rfl) (xA (xV 0) (xA se_int sa_nil))) se_int) (xA se_int sa_nil)))))
      (ss_one (xExpr (xApp (xV 6) (xA (se_tup (xA (xV 7) (xA (xCall h_law_row (by decide) hr hg (takes_of rfl rfl rfl rfl) (by rfl) (xA (xV 0) (xA se_int sa_nil))) sa_nil))) sa_nil))))))
      (ss_cons (ss_if (xtCmp (op_gEq (hu64 hr)) (xCall h_law_draw (by decide) hr hg (takes_of rfl rfl rfl rfl) (by rfl) (xA (xV 0) (xA se_int sa_nil))) se_int) (ss_one (xAsg (se_tup (xA (xCall h_law_scaled (by decide) hr hg (takes_of rfl rfl rfl rfl) (by rfl) (xA (xIx (xIx (xV 6) se_int) se_int) (xA se_int sa_nil))) (xA (xCall h_law_scaled (by decide) hr hg (takes_of rfl rfl rfl rfl) (by rfl) (xA (xIx (xIx (xV 6) se_int) se_int) (xA se_int sa_nil))) sa_nil))) (xGS (xV 6) (se_un un_gNeg se_int)))) ss_nil)
      (ss_cons (xPar 8 9 rfl sc_law_right.nd (xA (xCall h_law_pick (by decide) hr hg (takes_of rfl rfl rfl rfl) (by rfl) (xA (xV 0) (xA (se_tup (xA se_int (xA (se_un un_gNeg se_int) (xA se_int (xA se_int (xA (se_un un_gNeg se_int) sa_nil)))))) sa_nil))) (xA (se_tup (xA se_int sa_nil)) sa_nil)))
      (ss_cons (xSet 4 sc_law_right.nd (se_tup (xA (se_tup (xA (xV 8) sa_nil)) sa_nil)))
      (ss_cons (xFor (passes_of rfl) rfl (xR1 L.z_range (by rfl) (xA (xBi cr_gLen bt_len L.z_len (by rfl) (xA (xV 6) sa_nil)) sa_nil)) (xNm 1 sc_law_right.nd) (ss_cons (xSet 4 sc_law_right.nd (xCall h_law_poly_times (by decide) hr hg (takes_of rfl rfl rfl rfl) (by rfl) (xA (xV 4) (xA (se_tup (xA (xIx (xIx (xV 6) (xV 1)) se_int) (xA (xIx (xIx (xV 6) (xV 1)) se_int) sa_nil))) sa_nil))))
      (ss_one (xFor (passes_of rfl) rfl (xR1 L.z_range (by rfl) (xA (xV 1) sa_nil)) (xNm 10 sc_law_right.nd) (ss_cons (xSet 11 sc_law_right.nd (xCall h_law_row_less (by decide) hr hg (takes_of rfl rfl rfl rfl) (by rfl) (xA (xCall h_law_row_times (by decide) hr hg (takes_of rfl rfl rfl rfl) (by rfl) (xA (xIx (xIx (xV 6) (xV 1)) se_int) (xA (xIx (xIx (xV 6) (xV 10)) se_int) sa_nil))) (xA (xCall h_law_row_times (by decide) hr hg (takes_of rfl rfl rfl rfl) (by rfl) (xA (xIx (xIx (xV 6) (xV 1)) se_int) (xA (xIx (xIx (xV 6) (xV 10)) se_int) sa_nil))) sa_nil))))
      (ss_one (xSet 9 sc_law_right.nd (xCall h_law_all (by decide) hr hg (takes_of rfl rfl rfl rfl) (by rfl) (xA se_int (xA (se_frz (sl_disp (xA (xV 9) (xA (xV 11) (xA (xV 11) sa_nil))))) sa_nil))))))))))
      (ss_cons (xFor (passes_of rfl) rfl (xR1 L.z_range (by rfl) (xA (se_op op_gSub (se_op op_gTimes se_int (xBi cr_gLen bt_len L.z_len (by rfl) (xA (xV 6) sa_nil))) se_int) sa_nil)) (xNm 1 sc_law_right.nd) (ss_one (xSet 9 sc_law_right.nd (xCall h_law_scaled (by decide) hr hg (takes_of rfl rfl rfl rfl) (by rfl) (xA (xV 9) (xA (xV 8) sa_nil))))))
      (ss_one (ss_ret (xCmp (op_gEq (hu64 hr)) (xBi (cr_gRepr hg (hu64 hr)) bt_repr L.z_repr (by rfl) (xA (se_frz (sl_disp (xA (xCall h_discriminant (by decide) hr hg (takes_of rfl rfl rfl rfl) (by rfl) (xA (xV 3) sa_nil)) (xA (xCallK h_discriminant (kb_discriminant_0 h_discriminant.F) (by decide) hr hg (takes_of rfl rfl rfl rfl) (by rfl) (sk_cons (xV 4) sk_nil)) sa_nil)))) sa_nil)) (xBi (cr_gRepr hg (hu64 hr)) bt_repr L.z_repr (by rfl) (xA (se_frz (sl_disp (xA (xCall h_law_formula (by decide) hr hg (takes_of rfl rfl rfl rfl) (by rfl) (xA (xV 3) sa_nil)) (xA (xV 9) sa_nil)))) sa_nil)))))))))))))))

theorem ok_law (L : LE w K mg) : ∃ f fd, Has P w K mg base 8 "law" st_law ["_law_script"] 1 f_law f fd := by
  obtain ⟨_, _, h_law_well⟩ := ok_law_well (P := P) (w := w) (base := base) L
  obtain ⟨_, _, h_law_right⟩ := ok_law_right (P := P) (w := w) (base := base) L
  obtain ⟨f, fd, m, F⟩ := L.d_law
  refine ⟨f, fd, m, F, bd_law F, ?_⟩
  refine fng_sem (k := 7) F sc_law fun cdv A outer s H E hr hg => ?_
  exact (ss_one (ss_ret (xBi (cr_gAll rfl) bt_all L.z_all (by rfl) (xA (se_frz (xLc [("_law_at", 1)] rfl sc_law.nd (xR1 L.z_range (by rfl) (xA (xBi (cr_gMax rfl) bt_max L.z_max (by rfl) (xA se_int (xA (xBi (cr_gMin rfl) bt_min L.z_min (by rfl) (xA (xBi cr_gLen bt_len L.z_len (by rfl) (xA (xV 0) sa_nil)) (xA se_int sa_nil))) sa_nil))) sa_nil)) (fun _ _ _ _ _ => (xwNm 1 sc_law.nd)) (fun _ _ _ _ _ => sts_nil) (fun _ _ _ _ _ => (xCall h_law_right (by decide) hr hg takes0 (by rfl) (xA (xCall h_law_well (by decide) hr hg takes0 (by rfl) (xA (xV 0) (xA (xV 1) sa_nil))) sa_nil))) (ok := by exact blkOk_by (show blkC ["_law_script", "_law_at"] (defScope st_law) _ [("_law_at", 1)] = true from by decide +kernel)))) sa_nil))))

end

theorem all_mk {l : PySem.W.OpenLaw} {w : World} {K : PySem.W.Frag} {h : Heap} {mg : Str → Option Value} {fa : Addr} (X : K.In h) (G : h.Ns mainGlobals mg) (hfa : mg "law" = some (.ref fa))
    {f0 : Addr} {od0 an0 : Option Addr} {sl0 : Array (Option Value)} {oc0 kV0 dc0 pm0 cd0 ct0 : Value}
    (a0 : PySem.W.nsIn K mainGlobals "is_whole" = some (some (.ref f0))) (l0 : K.lookup f0 = some ⟨oc0, od0, .func (PySem.W.fnOf "is_whole" "is_whole" (defArgs st_is_whole) (defBody st_is_whole) (defScope st_is_whole) .none kV0 dc0 pm0 an0 cd0 ct0), sl0⟩) (c0 : PySem.W.codeIn K cd0 "is_whole" = true) (k0 : PySem.W.keepIn K (.ref f0) = true)
    {f1 : Addr} {od1 an1 : Option Addr} {sl1 : Array (Option Value)} {oc1 kV1 dc1 pm1 cd1 ct1 : Value}
    (a1 : PySem.W.nsIn K mainGlobals "is_rowed" = some (some (.ref f1))) (l1 : K.lookup f1 = some ⟨oc1, od1, .func (PySem.W.fnOf "is_rowed" "is_rowed" (defArgs st_is_rowed) (defBody st_is_rowed) (defScope st_is_rowed) .none kV1 dc1 pm1 an1 cd1 ct1), sl1⟩) (c1 : PySem.W.codeIn K cd1 "is_rowed" = true) (k1 : PySem.W.keepIn K (.ref f1) = true)
    {f2 : Addr} {od2 an2 : Option Addr} {sl2 : Array (Option Value)} {oc2 kV2 dc2 pm2 cd2 ct2 : Value}
    (a2 : PySem.W.nsIn K mainGlobals "trimmed" = some (some (.ref f2))) (l2 : K.lookup f2 = some ⟨oc2, od2, .func (PySem.W.fnOf "trimmed" "trimmed" (defArgs st_trimmed) (defBody st_trimmed) (defScope st_trimmed) .none kV2 dc2 pm2 an2 cd2 ct2), sl2⟩) (c2 : PySem.W.codeIn K cd2 "trimmed" = true) (k2 : PySem.W.keepIn K (.ref f2) = true)
    {f3 : Addr} {od3 an3 : Option Addr} {sl3 : Array (Option Value)} {oc3 kV3 dc3 pm3 cd3 ct3 : Value}
    (a3 : PySem.W.nsIn K mainGlobals "sum_by" = some (some (.ref f3))) (l3 : K.lookup f3 = some ⟨oc3, od3, .func (PySem.W.fnOf "sum_by" "sum_by" (defArgs st_sum_by) (defBody st_sum_by) (defScope st_sum_by) .none kV3 dc3 pm3 an3 cd3 ct3), sl3⟩) (c3 : PySem.W.codeIn K cd3 "sum_by" = true) (k3 : PySem.W.keepIn K (.ref f3) = true)
    {f4 : Addr} {od4 an4 : Option Addr} {sl4 : Array (Option Value)} {oc4 kV4 dc4 pm4 cd4 ct4 : Value}
    (a4 : PySem.W.nsIn K mainGlobals "scaled" = some (some (.ref f4))) (l4 : K.lookup f4 = some ⟨oc4, od4, .func (PySem.W.fnOf "scaled" "scaled" (defArgs st_scaled) (defBody st_scaled) (defScope st_scaled) .none kV4 dc4 pm4 an4 cd4 ct4), sl4⟩) (c4 : PySem.W.codeIn K cd4 "scaled" = true) (k4 : PySem.W.keepIn K (.ref f4) = true)
    {f5 : Addr} {od5 an5 : Option Addr} {sl5 : Array (Option Value)} {oc5 kV5 dc5 pm5 cd5 ct5 : Value}
    (a5 : PySem.W.nsIn K mainGlobals "gap_by" = some (some (.ref f5))) (l5 : K.lookup f5 = some ⟨oc5, od5, .func (PySem.W.fnOf "gap_by" "gap_by" (defArgs st_gap_by) (defBody st_gap_by) (defScope st_gap_by) .none kV5 dc5 pm5 an5 cd5 ct5), sl5⟩) (c5 : PySem.W.codeIn K cd5 "gap_by" = true) (k5 : PySem.W.keepIn K (.ref f5) = true)
    {f6 : Addr} {od6 an6 : Option Addr} {sl6 : Array (Option Value)} {oc6 kV6 dc6 pm6 cd6 ct6 : Value}
    (a6 : PySem.W.nsIn K mainGlobals "product_by" = some (some (.ref f6))) (l6 : K.lookup f6 = some ⟨oc6, od6, .func (PySem.W.fnOf "product_by" "product_by" (defArgs st_product_by) (defBody st_product_by) (defScope st_product_by) .none kV6 dc6 pm6 an6 cd6 ct6), sl6⟩) (c6 : PySem.W.codeIn K cd6 "product_by" = true) (k6 : PySem.W.keepIn K (.ref f6) = true)
    {f7 : Addr} {od7 an7 : Option Addr} {sl7 : Array (Option Value)} {oc7 kV7 dc7 pm7 cd7 ct7 : Value}
    (a7 : PySem.W.nsIn K mainGlobals "raised" = some (some (.ref f7))) (l7 : K.lookup f7 = some ⟨oc7, od7, .func (PySem.W.fnOf "raised" "raised" (defArgs st_raised) (defBody st_raised) (defScope st_raised) .none kV7 dc7 pm7 an7 cd7 ct7), sl7⟩) (c7 : PySem.W.codeIn K cd7 "raised" = true) (k7 : PySem.W.keepIn K (.ref f7) = true)
    {f8 : Addr} {od8 an8 : Option Addr} {sl8 : Array (Option Value)} {oc8 kV8 dc8 pm8 cd8 ct8 : Value}
    (a8 : PySem.W.nsIn K mainGlobals "top_at" = some (some (.ref f8))) (l8 : K.lookup f8 = some ⟨oc8, od8, .func (PySem.W.fnOf "top_at" "top_at" (defArgs st_top_at) (defBody st_top_at) (defScope st_top_at) .none kV8 dc8 pm8 an8 cd8 ct8), sl8⟩) (c8 : PySem.W.codeIn K cd8 "top_at" = true) (k8 : PySem.W.keepIn K (.ref f8) = true)
    {f9 : Addr} {od9 an9 : Option Addr} {sl9 : Array (Option Value)} {oc9 kV9 dc9 pm9 cd9 ct9 : Value}
    (a9 : PySem.W.nsIn K mainGlobals "determinant_of" = some (some (.ref f9))) (l9 : K.lookup f9 = some ⟨oc9, od9, .func (PySem.W.fnOf "determinant_of" "determinant_of" (defArgs st_determinant_of) (defBody st_determinant_of) (defScope st_determinant_of) .none kV9 dc9 pm9 an9 cd9 ct9), sl9⟩) (c9 : PySem.W.codeIn K cd9 "determinant_of" = true) (k9 : PySem.W.keepIn K (.ref f9) = true)
    {f10 : Addr} {od10 an10 : Option Addr} {sl10 : Array (Option Value)} {oc10 kV10 dc10 pm10 cd10 ct10 : Value}
    (a10 : PySem.W.nsIn K mainGlobals "resultant_by" = some (some (.ref f10))) (l10 : K.lookup f10 = some ⟨oc10, od10, .func (PySem.W.fnOf "resultant_by" "resultant_by" (defArgs st_resultant_by) (defBody st_resultant_by) (defScope st_resultant_by) .none kV10 dc10 pm10 an10 cd10 ct10), sl10⟩) (c10 : PySem.W.codeIn K cd10 "resultant_by" = true) (k10 : PySem.W.keepIn K (.ref f10) = true)
    {f11 : Addr} {od11 an11 : Option Addr} {sl11 : Array (Option Value)} {oc11 kV11 dc11 pm11 cd11 ct11 : Value}
    (a11 : PySem.W.nsIn K mainGlobals "is_polyed" = some (some (.ref f11))) (l11 : K.lookup f11 = some ⟨oc11, od11, .func (PySem.W.fnOf "is_polyed" "is_polyed" (defArgs st_is_polyed) (defBody st_is_polyed) (defScope st_is_polyed) .none kV11 dc11 pm11 an11 cd11 ct11), sl11⟩) (c11 : PySem.W.codeIn K cd11 "is_polyed" = true) (k11 : PySem.W.keepIn K (.ref f11) = true)
    {f12 : Addr} {od12 an12 : Option Addr} {sl12 : Array (Option Value)} {oc12 kV12 dc12 pm12 cd12 ct12 : Value}
    (a12 : PySem.W.nsIn K mainGlobals "cut" = some (some (.ref f12))) (l12 : K.lookup f12 = some ⟨oc12, od12, .func (PySem.W.fnOf "cut" "cut" (defArgs st_cut) (defBody st_cut) (defScope st_cut) .none kV12 dc12 pm12 an12 cd12 ct12), sl12⟩) (c12 : PySem.W.codeIn K cd12 "cut" = true) (k12 : PySem.W.keepIn K (.ref f12) = true)
    {f13 : Addr} {od13 an13 : Option Addr} {sl13 : Array (Option Value)} {oc13 kV13 dc13 pm13 cd13 ct13 : Value}
    (a13 : PySem.W.nsIn K mainGlobals "derived_by" = some (some (.ref f13))) (l13 : K.lookup f13 = some ⟨oc13, od13, .func (PySem.W.fnOf "derived_by" "derived_by" (defArgs st_derived_by) (defBody st_derived_by) (defScope st_derived_by) .none kV13 dc13 pm13 an13 cd13 ct13), sl13⟩) (c13 : PySem.W.codeIn K cd13 "derived_by" = true) (k13 : PySem.W.keepIn K (.ref f13) = true)
    {f14 : Addr} {od14 an14 : Option Addr} {sl14 : Array (Option Value)} {oc14 kV14 dc14 pm14 cd14 ct14 : Value}
    (a14 : PySem.W.nsIn K mainGlobals "exact_by" = some (some (.ref f14))) (l14 : K.lookup f14 = some ⟨oc14, od14, .func (PySem.W.fnOf "exact_by" "exact_by" (defArgs st_exact_by) (defBody st_exact_by) (defScope st_exact_by) .none kV14 dc14 pm14 an14 cd14 ct14), sl14⟩) (c14 : PySem.W.codeIn K cd14 "exact_by" = true) (k14 : PySem.W.keepIn K (.ref f14) = true)
    {f15 : Addr} {od15 an15 : Option Addr} {sl15 : Array (Option Value)} {oc15 kV15 dc15 pm15 cd15 ct15 : Value}
    (a15 : PySem.W.nsIn K mainGlobals "values_at" = some (some (.ref f15))) (l15 : K.lookup f15 = some ⟨oc15, od15, .func (PySem.W.fnOf "values_at" "values_at" (defArgs st_values_at) (defBody st_values_at) (defScope st_values_at) .none kV15 dc15 pm15 an15 cd15 ct15), sl15⟩) (c15 : PySem.W.codeIn K cd15 "values_at" = true) (k15 : PySem.W.keepIn K (.ref f15) = true)
    {f16 : Addr} {od16 an16 : Option Addr} {sl16 : Array (Option Value)} {oc16 kV16 dc16 pm16 cd16 ct16 : Value}
    (a16 : PySem.W.nsIn K mainGlobals "row_through" = some (some (.ref f16))) (l16 : K.lookup f16 = some ⟨oc16, od16, .func (PySem.W.fnOf "row_through" "row_through" (defArgs st_row_through) (defBody st_row_through) (defScope st_row_through) .none kV16 dc16 pm16 an16 cd16 ct16), sl16⟩) (c16 : PySem.W.codeIn K cd16 "row_through" = true) (k16 : PySem.W.keepIn K (.ref f16) = true)
    {f17 : Addr} {od17 an17 : Option Addr} {sl17 : Array (Option Value)} {oc17 kV17 dc17 pm17 cd17 ct17 : Value}
    (a17 : PySem.W.nsIn K mainGlobals "width_of" = some (some (.ref f17))) (l17 : K.lookup f17 = some ⟨oc17, od17, .func (PySem.W.fnOf "width_of" "width_of" (defArgs st_width_of) (defBody st_width_of) (defScope st_width_of) .none kV17 dc17 pm17 an17 cd17 ct17), sl17⟩) (c17 : PySem.W.codeIn K cd17 "width_of" = true) (k17 : PySem.W.keepIn K (.ref f17) = true)
    {f18 : Addr} {od18 an18 : Option Addr} {sl18 : Array (Option Value)} {oc18 kV18 dc18 pm18 cd18 ct18 : Value}
    (a18 : PySem.W.nsIn K mainGlobals "resultant_of" = some (some (.ref f18))) (l18 : K.lookup f18 = some ⟨oc18, od18, .func (PySem.W.fnOf "resultant_of" "resultant_of" (defArgs st_resultant_of) (defBody st_resultant_of) (defScope st_resultant_of) .none kV18 dc18 pm18 an18 cd18 ct18), sl18⟩) (c18 : PySem.W.codeIn K cd18 "resultant_of" = true) (k18 : PySem.W.keepIn K (.ref f18) = true)
    {f19 : Addr} {od19 an19 : Option Addr} {sl19 : Array (Option Value)} {oc19 kV19 dc19 pm19 cd19 ct19 : Value}
    (a19 : PySem.W.nsIn K mainGlobals "discriminant_of" = some (some (.ref f19))) (l19 : K.lookup f19 = some ⟨oc19, od19, .func (PySem.W.fnOf "discriminant_of" "discriminant_of" (defArgs st_discriminant_of) (defBody st_discriminant_of) (defScope st_discriminant_of) .none kV19 dc19 pm19 an19 cd19 ct19), sl19⟩) (c19 : PySem.W.codeIn K cd19 "discriminant_of" = true) (k19 : PySem.W.keepIn K (.ref f19) = true)
    {f20 T20 : Addr} {od20 an20 oT20 : Option Addr} {sl20 sT20 : Array (Option Value)} {nT20 : Nat} {oc20 kV20 dc20 pm20 cd20 ct20 : Value}
    {tD20_0 : Tok}
    (a20 : PySem.W.nsIn K mainGlobals "check_poly" = some (some (.ref f20))) (l20 : K.lookup f20 = some ⟨oc20, od20, .func (PySem.W.fnOf "check_poly" "check_poly" (defArgs st_check_poly) (defBody st_check_poly) (defScope st_check_poly) (.ref T20) kV20 dc20 pm20 an20 cd20 ct20), sl20⟩) (t20 : K.lookup T20 = some ⟨.type "tuple", oT20, .seq #[(.int (0) tD20_0)] nT20, sT20⟩) (c20 : PySem.W.codeIn K cd20 "check_poly" = true) (k20 : PySem.W.keepIn K (.ref f20) = true)
    {f21 : Addr} {od21 an21 : Option Addr} {sl21 : Array (Option Value)} {oc21 kV21 dc21 pm21 cd21 ct21 : Value}
    (a21 : PySem.W.nsIn K mainGlobals "discriminant" = some (some (.ref f21))) (l21 : K.lookup f21 = some ⟨oc21, od21, .func (PySem.W.fnOf "discriminant" "discriminant" (defArgs st_discriminant) (defBody st_discriminant) (defScope st_discriminant) .none kV21 dc21 pm21 an21 cd21 ct21), sl21⟩) (c21 : PySem.W.codeIn K cd21 "discriminant" = true) (k21 : PySem.W.keepIn K (.ref f21) = true)
    {f22 : Addr} {od22 an22 : Option Addr} {sl22 : Array (Option Value)} {oc22 kV22 dc22 pm22 cd22 ct22 : Value}
    (a22 : PySem.W.nsIn K mainGlobals "_law_well" = some (some (.ref f22))) (l22 : K.lookup f22 = some ⟨oc22, od22, .func (PySem.W.fnOf "_law_well" "_law_well" (defArgs st_law_well) (defBody st_law_well) (defScope st_law_well) .none kV22 dc22 pm22 an22 cd22 ct22), sl22⟩) (c22 : PySem.W.codeIn K cd22 "_law_well" = true) (k22 : PySem.W.keepIn K (.ref f22) = true)
    {f23 : Addr} {od23 an23 : Option Addr} {sl23 : Array (Option Value)} {oc23 kV23 dc23 pm23 cd23 ct23 : Value}
    (a23 : PySem.W.nsIn K mainGlobals "_law_draw" = some (some (.ref f23))) (l23 : K.lookup f23 = some ⟨oc23, od23, .func (PySem.W.fnOf "_law_draw" "_law_draw" (defArgs st_law_draw) (defBody st_law_draw) (defScope st_law_draw) .none kV23 dc23 pm23 an23 cd23 ct23), sl23⟩) (c23 : PySem.W.codeIn K cd23 "_law_draw" = true) (k23 : PySem.W.keepIn K (.ref f23) = true)
    {f24 : Addr} {od24 an24 : Option Addr} {sl24 : Array (Option Value)} {oc24 kV24 dc24 pm24 cd24 ct24 : Value}
    (a24 : PySem.W.nsIn K mainGlobals "_law_pick" = some (some (.ref f24))) (l24 : K.lookup f24 = some ⟨oc24, od24, .func (PySem.W.fnOf "_law_pick" "_law_pick" (defArgs st_law_pick) (defBody st_law_pick) (defScope st_law_pick) .none kV24 dc24 pm24 an24 cd24 ct24), sl24⟩) (c24 : PySem.W.codeIn K cd24 "_law_pick" = true) (k24 : PySem.W.keepIn K (.ref f24) = true)
    {f25 : Addr} {od25 an25 : Option Addr} {sl25 : Array (Option Value)} {oc25 kV25 dc25 pm25 cd25 ct25 : Value}
    (a25 : PySem.W.nsIn K mainGlobals "_law_trim" = some (some (.ref f25))) (l25 : K.lookup f25 = some ⟨oc25, od25, .func (PySem.W.fnOf "_law_trim" "_law_trim" (defArgs st_law_trim) (defBody st_law_trim) (defScope st_law_trim) .none kV25 dc25 pm25 an25 cd25 ct25), sl25⟩) (c25 : PySem.W.codeIn K cd25 "_law_trim" = true) (k25 : PySem.W.keepIn K (.ref f25) = true)
    {f26 : Addr} {od26 an26 : Option Addr} {sl26 : Array (Option Value)} {oc26 kV26 dc26 pm26 cd26 ct26 : Value}
    (a26 : PySem.W.nsIn K mainGlobals "_law_scaled" = some (some (.ref f26))) (l26 : K.lookup f26 = some ⟨oc26, od26, .func (PySem.W.fnOf "_law_scaled" "_law_scaled" (defArgs st_law_scaled) (defBody st_law_scaled) (defScope st_law_scaled) .none kV26 dc26 pm26 an26 cd26 ct26), sl26⟩) (c26 : PySem.W.codeIn K cd26 "_law_scaled" = true) (k26 : PySem.W.keepIn K (.ref f26) = true)
    {f27 : Addr} {od27 an27 : Option Addr} {sl27 : Array (Option Value)} {oc27 kV27 dc27 pm27 cd27 ct27 : Value}
    (a27 : PySem.W.nsIn K mainGlobals "_law_row_sum" = some (some (.ref f27))) (l27 : K.lookup f27 = some ⟨oc27, od27, .func (PySem.W.fnOf "_law_row_sum" "_law_row_sum" (defArgs st_law_row_sum) (defBody st_law_row_sum) (defScope st_law_row_sum) .none kV27 dc27 pm27 an27 cd27 ct27), sl27⟩) (c27 : PySem.W.codeIn K cd27 "_law_row_sum" = true) (k27 : PySem.W.keepIn K (.ref f27) = true)
    {f28 : Addr} {od28 an28 : Option Addr} {sl28 : Array (Option Value)} {oc28 kV28 dc28 pm28 cd28 ct28 : Value}
    (a28 : PySem.W.nsIn K mainGlobals "_law_row_less" = some (some (.ref f28))) (l28 : K.lookup f28 = some ⟨oc28, od28, .func (PySem.W.fnOf "_law_row_less" "_law_row_less" (defArgs st_law_row_less) (defBody st_law_row_less) (defScope st_law_row_less) .none kV28 dc28 pm28 an28 cd28 ct28), sl28⟩) (c28 : PySem.W.codeIn K cd28 "_law_row_less" = true) (k28 : PySem.W.keepIn K (.ref f28) = true)
    {f29 : Addr} {od29 an29 : Option Addr} {sl29 : Array (Option Value)} {oc29 kV29 dc29 pm29 cd29 ct29 : Value}
    (a29 : PySem.W.nsIn K mainGlobals "_law_row_times" = some (some (.ref f29))) (l29 : K.lookup f29 = some ⟨oc29, od29, .func (PySem.W.fnOf "_law_row_times" "_law_row_times" (defArgs st_law_row_times) (defBody st_law_row_times) (defScope st_law_row_times) .none kV29 dc29 pm29 an29 cd29 ct29), sl29⟩) (c29 : PySem.W.codeIn K cd29 "_law_row_times" = true) (k29 : PySem.W.keepIn K (.ref f29) = true)
    {f30 : Addr} {od30 an30 : Option Addr} {sl30 : Array (Option Value)} {oc30 kV30 dc30 pm30 cd30 ct30 : Value}
    (a30 : PySem.W.nsIn K mainGlobals "_law_poly_times" = some (some (.ref f30))) (l30 : K.lookup f30 = some ⟨oc30, od30, .func (PySem.W.fnOf "_law_poly_times" "_law_poly_times" (defArgs st_law_poly_times) (defBody st_law_poly_times) (defScope st_law_poly_times) .none kV30 dc30 pm30 an30 cd30 ct30), sl30⟩) (c30 : PySem.W.codeIn K cd30 "_law_poly_times" = true) (k30 : PySem.W.keepIn K (.ref f30) = true)
    {f31 : Addr} {od31 an31 : Option Addr} {sl31 : Array (Option Value)} {oc31 kV31 dc31 pm31 cd31 ct31 : Value}
    (a31 : PySem.W.nsIn K mainGlobals "_law_number" = some (some (.ref f31))) (l31 : K.lookup f31 = some ⟨oc31, od31, .func (PySem.W.fnOf "_law_number" "_law_number" (defArgs st_law_number) (defBody st_law_number) (defScope st_law_number) .none kV31 dc31 pm31 an31 cd31 ct31), sl31⟩) (c31 : PySem.W.codeIn K cd31 "_law_number" = true) (k31 : PySem.W.keepIn K (.ref f31) = true)
    {f32 : Addr} {od32 an32 : Option Addr} {sl32 : Array (Option Value)} {oc32 kV32 dc32 pm32 cd32 ct32 : Value}
    (a32 : PySem.W.nsIn K mainGlobals "_law_row" = some (some (.ref f32))) (l32 : K.lookup f32 = some ⟨oc32, od32, .func (PySem.W.fnOf "_law_row" "_law_row" (defArgs st_law_row) (defBody st_law_row) (defScope st_law_row) .none kV32 dc32 pm32 an32 cd32 ct32), sl32⟩) (c32 : PySem.W.codeIn K cd32 "_law_row" = true) (k32 : PySem.W.keepIn K (.ref f32) = true)
    {f33 : Addr} {od33 an33 : Option Addr} {sl33 : Array (Option Value)} {oc33 kV33 dc33 pm33 cd33 ct33 : Value}
    (a33 : PySem.W.nsIn K mainGlobals "_law_all" = some (some (.ref f33))) (l33 : K.lookup f33 = some ⟨oc33, od33, .func (PySem.W.fnOf "_law_all" "_law_all" (defArgs st_law_all) (defBody st_law_all) (defScope st_law_all) .none kV33 dc33 pm33 an33 cd33 ct33), sl33⟩) (c33 : PySem.W.codeIn K cd33 "_law_all" = true) (k33 : PySem.W.keepIn K (.ref f33) = true)
    {f34 : Addr} {od34 an34 : Option Addr} {sl34 : Array (Option Value)} {oc34 kV34 dc34 pm34 cd34 ct34 : Value}
    (a34 : PySem.W.nsIn K mainGlobals "_law_formula" = some (some (.ref f34))) (l34 : K.lookup f34 = some ⟨oc34, od34, .func (PySem.W.fnOf "_law_formula" "_law_formula" (defArgs st_law_formula) (defBody st_law_formula) (defScope st_law_formula) .none kV34 dc34 pm34 an34 cd34 ct34), sl34⟩) (c34 : PySem.W.codeIn K cd34 "_law_formula" = true) (k34 : PySem.W.keepIn K (.ref f34) = true)
    {f35 : Addr} {od35 an35 : Option Addr} {sl35 : Array (Option Value)} {oc35 kV35 dc35 pm35 cd35 ct35 : Value}
    (a35 : PySem.W.nsIn K mainGlobals "_law_right" = some (some (.ref f35))) (l35 : K.lookup f35 = some ⟨oc35, od35, .func (PySem.W.fnOf "_law_right" "_law_right" (defArgs st_law_right) (defBody st_law_right) (defScope st_law_right) .none kV35 dc35 pm35 an35 cd35 ct35), sl35⟩) (c35 : PySem.W.codeIn K cd35 "_law_right" = true) (k35 : PySem.W.keepIn K (.ref f35) = true)
    {f36 : Addr} {od36 an36 : Option Addr} {sl36 : Array (Option Value)} {oc36 kV36 dc36 pm36 cd36 ct36 : Value}
    (a36 : PySem.W.nsIn K mainGlobals "law" = some (some (.ref f36))) (l36 : K.lookup f36 = some ⟨oc36, od36, .func (PySem.W.fnOf "law" "law" (defArgs st_law) (defBody st_law) (defScope st_law) .none kV36 dc36 pm36 an36 cd36 ct36), sl36⟩) (c36 : PySem.W.codeIn K cd36 "law" = true) (k36 : PySem.W.keepIn K (.ref f36) = true)
    (z_abs : PySem.W.nsIn K mainGlobals "abs" = some none)
    (z_all : PySem.W.nsIn K mainGlobals "all" = some none)
    (z_bool : PySem.W.nsIn K mainGlobals "bool" = some none)
    (z_divmod : PySem.W.nsIn K mainGlobals "divmod" = some none)
    (z_enumerate : PySem.W.nsIn K mainGlobals "enumerate" = some none)
    (z_int : PySem.W.nsIn K mainGlobals "int" = some none)
    (z_isinstance : PySem.W.nsIn K mainGlobals "isinstance" = some none)
    (z_len : PySem.W.nsIn K mainGlobals "len" = some none)
    (z_list : PySem.W.nsIn K mainGlobals "list" = some none)
    (z_max : PySem.W.nsIn K mainGlobals "max" = some none)
    (z_min : PySem.W.nsIn K mainGlobals "min" = some none)
    (z_range : PySem.W.nsIn K mainGlobals "range" = some none)
    (z_repr : PySem.W.nsIn K mainGlobals "repr" = some none)
    (z_tuple : PySem.W.nsIn K mainGlobals "tuple" = some none)
    (z_zip : PySem.W.nsIn K mainGlobals "zip" = some none) :
    ∃ fd : FuncData, (∀ (s : Shared) (u : Value), BindsTo s fd ⟨[u], []⟩ [("_law_script", u)]) ∧ ∀ base : Heap, K.In base → base.Ns mainGlobals mg → FnG l.prog w K mg base 8 fa fd ["_law_script"] (spG K mg 1 f_law) := by
  have L : LE w K mg := ⟨⟨_, _, PySem.W.mg_of X G a0, fun_mk (st := st_is_whole) l0 c0 k0⟩, ⟨_, _, PySem.W.mg_of X G a1, fun_mk (st := st_is_rowed) l1 c1 k1⟩, ⟨_, _, PySem.W.mg_of X G a2, fun_mk (st := st_trimmed) l2 c2 k2⟩, ⟨_, _, PySem.W.mg_of X G a3, fun_mk (st := st_sum_by) l3 c3 k3⟩, ⟨_, _, PySem.W.mg_of X G a4, fun_mk (st := st_scaled) l4 c4 k4⟩, ⟨_, _, PySem.W.mg_of X G a5, fun_mk (st := st_gap_by) l5 c5 k5⟩, ⟨_, _, PySem.W.mg_of X G a6, fun_mk (st := st_product_by) l6 c6 k6⟩, ⟨_, _, PySem.W.mg_of X G a7, fun_mk (st := st_raised) l7 c7 k7⟩, ⟨_, _, PySem.W.mg_of X G a8, fun_mk (st := st_top_at) l8 c8 k8⟩, ⟨_, _, PySem.W.mg_of X G a9, fun_mk (st := st_determinant_of) l9 c9 k9⟩, ⟨_, _, PySem.W.mg_of X G a10, fun_mk (st := st_resultant_by) l10 c10 k10⟩, ⟨_, _, PySem.W.mg_of X G a11, fun_mk (st := st_is_polyed) l11 c11 k11⟩, ⟨_, _, PySem.W.mg_of X G a12, fun_mk (st := st_cut) l12 c12 k12⟩, ⟨_, _, PySem.W.mg_of X G a13, fun_mk (st := st_derived_by) l13 c13 k13⟩, ⟨_, _, PySem.W.mg_of X G a14, fun_mk (st := st_exact_by) l14 c14 k14⟩, ⟨_, _, PySem.W.mg_of X G a15, fun_mk (st := st_values_at) l15 c15 k15⟩, ⟨_, _, PySem.W.mg_of X G a16, fun_mk (st := st_row_through) l16 c16 k16⟩, ⟨_, _, PySem.W.mg_of X G a17, fun_mk (st := st_width_of) l17 c17 k17⟩, ⟨_, _, PySem.W.mg_of X G a18, fun_mk (st := st_resultant_of) l18 c18 k18⟩, ⟨_, _, PySem.W.mg_of X G a19, fun_mk (st := st_discriminant_of) l19 c19 k19⟩, ⟨_, _, PySem.W.mg_of X G a20, fund_mk (st := st_check_poly) (its := [(.int (0) tD20_0)]) l20 t20 (by simp) (.cons ⟨_, rfl⟩ .nil) c20 k20⟩, ⟨_, _, PySem.W.mg_of X G a21, fun_mk (st := st_discriminant) l21 c21 k21⟩, ⟨_, _, PySem.W.mg_of X G a22, fun_mk (st := st_law_well) l22 c22 k22⟩, ⟨_, _, PySem.W.mg_of X G a23, fun_mk (st := st_law_draw) l23 c23 k23⟩, ⟨_, _, PySem.W.mg_of X G a24, fun_mk (st := st_law_pick) l24 c24 k24⟩, ⟨_, _, PySem.W.mg_of X G a25, fun_mk (st := st_law_trim) l25 c25 k25⟩, ⟨_, _, PySem.W.mg_of X G a26, fun_mk (st := st_law_scaled) l26 c26 k26⟩, ⟨_, _, PySem.W.mg_of X G a27, fun_mk (st := st_law_row_sum) l27 c27 k27⟩, ⟨_, _, PySem.W.mg_of X G a28, fun_mk (st := st_law_row_less) l28 c28 k28⟩, ⟨_, _, PySem.W.mg_of X G a29, fun_mk (st := st_law_row_times) l29 c29 k29⟩, ⟨_, _, PySem.W.mg_of X G a30, fun_mk (st := st_law_poly_times) l30 c30 k30⟩, ⟨_, _, PySem.W.mg_of X G a31, fun_mk (st := st_law_number) l31 c31 k31⟩, ⟨_, _, PySem.W.mg_of X G a32, fun_mk (st := st_law_row) l32 c32 k32⟩, ⟨_, _, PySem.W.mg_of X G a33, fun_mk (st := st_law_all) l33 c33 k33⟩, ⟨_, _, PySem.W.mg_of X G a34, fun_mk (st := st_law_formula) l34 c34 k34⟩, ⟨_, _, PySem.W.mg_of X G a35, fun_mk (st := st_law_right) l35 c35 k35⟩, ⟨_, _, PySem.W.mg_of X G a36, fun_mk (st := st_law) l36 c36 k36⟩, PySem.W.mg_none_of X G z_abs, PySem.W.mg_none_of X G z_all, PySem.W.mg_none_of X G z_bool, PySem.W.mg_none_of X G z_divmod, PySem.W.mg_none_of X G z_enumerate, PySem.W.mg_none_of X G z_int, PySem.W.mg_none_of X G z_isinstance, PySem.W.mg_none_of X G z_len, PySem.W.mg_none_of X G z_list, PySem.W.mg_none_of X G z_max, PySem.W.mg_none_of X G z_min, PySem.W.mg_none_of X G z_range, PySem.W.mg_none_of X G z_repr, PySem.W.mg_none_of X G z_tuple, PySem.W.mg_none_of X G z_zip⟩
  have e := hfa.symm.trans (PySem.W.mg_of X G a36)
  cases e
  refine ⟨PySem.W.fnOf "law" "law" (defArgs st_law) (defBody st_law) (defScope st_law) .none kV36 dc36 pm36 an36 cd36 ct36, fun s v => .of_eq rfl, fun base _ _ => ?_⟩
  obtain ⟨f, fd, h⟩ := ok_law (P := l.prog) (w := w) (base := base) L
  have e1 := h.m.symm.trans hfa
  cases e1
  obtain ⟨_, _, _, _, _, _, _, _, _, e2, lk, _⟩ := h.F.ex
  rw [l36] at lk
  have e3 := Option.some.inj lk
  have e4 : PySem.Data.func _ = PySem.Data.func _ := congrArg PySem.Obj.data e3
  have e5 := PySem.Data.func.inj e4
  rw [e5]
  first | exact h.G | (rw [← e2]; exact h.G)
end LW
/-! MR: power series over a ring (rows by their numbers), lists as such. -/
namespace LW
open Lean.Grind
structure PS (R : Type) where
  at_ : Nat → R
namespace PS
variable {R : Type}
theorem ext {f g : PS R} (h : ∀ k, f.at_ k = g.at_ k) : f = g := by
  cases f; cases g
  congr
  exact funext h
def tl (f : PS R) : PS R := ⟨fun k => f.at_ (k + 1)⟩
@[simp] theorem tl_at {f : PS R} {k : Nat} : f.tl.at_ k = f.at_ (k + 1) := rfl
variable [CommRing R]
def cv (f g : PS R) : Nat → R
  | 0 => f.at_ 0 * g.at_ 0
  | k + 1 => f.at_ 0 * g.at_ (k + 1) + cv f.tl g k
def con (r : R) : PS R := ⟨fun k => match k with | 0 => r | _ + 1 => 0⟩
instance : Add (PS R) := ⟨fun f g => ⟨fun k => f.at_ k + g.at_ k⟩⟩
instance : Mul (PS R) := ⟨fun f g => ⟨cv f g⟩⟩
instance : Neg (PS R) := ⟨fun f => ⟨fun k => - f.at_ k⟩⟩
instance : Sub (PS R) := ⟨fun f g => ⟨fun k => f.at_ k - g.at_ k⟩⟩
@[simp] theorem add_at {f g : PS R} {k : Nat} : (f + g).at_ k = f.at_ k + g.at_ k := rfl
@[simp] theorem neg_at {f : PS R} {k : Nat} : (-f).at_ k = - f.at_ k := rfl
@[simp] theorem sub_at {f g : PS R} {k : Nat} : (f - g).at_ k = f.at_ k - g.at_ k := rfl
@[simp] theorem mul_0 {f g : PS R} : (f * g).at_ 0 = f.at_ 0 * g.at_ 0 := rfl
theorem mul_s {f g : PS R} {k : Nat} : (f * g).at_ (k + 1) = f.at_ 0 * g.at_ (k + 1) + (f.tl * g).at_ k := rfl
theorem mul_at {f g : PS R} {k : Nat} : (f * g).at_ k = cv f g k := rfl
@[simp] theorem con_0 {r : R} : (con r).at_ 0 = r := rfl
@[simp] theorem con_s {r : R} {k : Nat} : (con r).at_ (k + 1) = 0 := rfl
@[simp] theorem tl_con {r : R} : (con r).tl = con 0 := ext fun k => by cases k <;> rfl
theorem add_mul' (f g h : PS R) (k : Nat) : ((f + g) * h).at_ k = (f * h).at_ k + (g * h).at_ k := by
  induction k generalizing f g with
  | zero => simp; grind
  | succ k ih =>
    rw [mul_s, mul_s, mul_s, show (f + g).tl = f.tl + g.tl from rfl, ih, add_at]
    grind
theorem mul_con' (f : PS R) (r : R) (k : Nat) : (f * con r).at_ k = f.at_ k * r := by
  induction k generalizing f with
  | zero => simp
  | succ k ih => rw [mul_s, ih, con_s, tl_at]; grind
theorem con_mul' (f : PS R) (r : R) (k : Nat) : (con r * f).at_ k = r * f.at_ k := by
  cases k with
  | zero => simp
  | succ k =>
    rw [mul_s, con_0, tl_con]
    have z : ∀ (k : Nat), (con 0 * f).at_ k = 0 := by
      intro k
      induction k with
      | zero => simp; grind
      | succ k ih => rw [mul_s, tl_con, ih, con_0]; grind
    rw [z]; grind
theorem mul_comm' (f g : PS R) (k : Nat) : (f * g).at_ k = (g * f).at_ k := by
  induction k using Nat.strongRecOn generalizing f g with
  | _ k ih =>
    match k with
    | 0 => simp; grind
    | 1 => rw [mul_s, mul_s]; simp; grind
    | k + 2 =>
      rw [mul_s (f := f), mul_s (f := g), ih (k + 1) (by omega) f.tl g, ih (k + 1) (by omega) g.tl f, mul_s (f := g), mul_s (f := f), ih k (by omega) g.tl f.tl]
      simp only [tl_at]
      grind
theorem smul_mul' (r : R) (f g : PS R) (k : Nat) : ((con r * f) * g).at_ k = r * (f * g).at_ k := by
  induction k generalizing f with
  | zero => simp; grind
  | succ k ih =>
    have e : (con r * f).tl = con r * f.tl := ext fun k => by rw [tl_at, con_mul', con_mul', tl_at]
    rw [mul_s, mul_s, e, ih, con_mul']
    grind
theorem mul_tl (f g : PS R) : (f * g).tl = con (f.at_ 0) * g.tl + f.tl * g := ext fun k => by
  rw [tl_at, mul_s, add_at, con_mul', tl_at]
theorem mul_assoc' (f g h : PS R) (k : Nat) : ((f * g) * h).at_ k = (f * (g * h)).at_ k := by
  induction k generalizing f with
  | zero => simp; grind
  | succ k ih =>
    rw [mul_s, mul_s, mul_tl, add_mul', ih, smul_mul', mul_s (f := g)]
    simp; grind
instance : Zero (PS R) := ⟨con 0⟩
instance : One (PS R) := ⟨con 1⟩
@[simp] theorem zero_at {k : Nat} : (con (0 : R)).at_ k = 0 := by cases k <;> rfl
def nc (n : Nat) : R := Semiring.natCast.natCast n
def ic (n : Int) : R := Ring.intCast.intCast n
def pw (f : PS R) : Nat → PS R
  | 0 => con 1
  | n + 1 => pw f n * f
instance : CommRing (PS R) where
  one_mul f := ext fun k => by
    show (con 1 * f).at_ k = _
    rw [con_mul']; grind
  mul_zero f := ext fun k => by
    show (f * con 0).at_ k = (con 0).at_ k
    rw [mul_con', zero_at]; grind
  right_distrib f g h := ext (add_mul' f g h)
  natCast := ⟨fun n => con (nc n)⟩
  ofNat := fun n => ⟨con (OfNat.ofNat n)⟩
  nsmul := ⟨fun n f => con (nc n) * f⟩
  npow := ⟨fun f n => pw f n⟩
  intCast := ⟨fun n => con (ic n)⟩
  zsmul := ⟨fun n f => con (ic n) * f⟩
  add_zero f := ext fun k => by
    show f.at_ k + (con 0).at_ k = _
    rw [zero_at]; grind
  add_comm f g := ext fun k => by show f.at_ k + g.at_ k = g.at_ k + f.at_ k; grind
  add_assoc f g h := ext fun k => by show f.at_ k + g.at_ k + h.at_ k = f.at_ k + (g.at_ k + h.at_ k); grind
  mul_assoc f g h := ext (mul_assoc' f g h)
  mul_comm f g := ext (mul_comm' f g)
  mul_one f := ext fun k => by
    show (f * con 1).at_ k = _
    rw [mul_con']; grind
  left_distrib f g h := ext fun k => by
    rw [mul_comm', add_mul', add_at, mul_comm' g, mul_comm' h]
  zero_mul f := ext fun k => by
    show (con 0 * f).at_ k = (con 0).at_ k
    rw [con_mul', zero_at]; grind
  pow_zero f := rfl
  pow_succ f n := rfl
  ofNat_succ n := ext fun k => by
    show (con (OfNat.ofNat (n + 1))).at_ k = (con (OfNat.ofNat n)).at_ k + (con 1).at_ k
    cases k with
    | zero => exact Semiring.ofNat_succ n
    | succ k => show (0 : R) = 0 + 0; grind
  ofNat_eq_natCast n := ext fun k => by
    show (con (OfNat.ofNat n)).at_ k = (con (nc n)).at_ k
    cases k with
    | zero => exact Semiring.ofNat_eq_natCast n
    | succ k => rfl
  neg_add_cancel f := ext fun k => by
    show - f.at_ k + f.at_ k = (con 0).at_ k
    rw [zero_at]; grind
  sub_eq_add_neg f g := ext fun k => by show f.at_ k - g.at_ k = f.at_ k + - g.at_ k; grind
  neg_zsmul i f := ext fun k => by
    show (con (ic (-i)) * f).at_ k = - (con (ic i) * f).at_ k
    rw [con_mul', con_mul']
    have : (ic (-i) : R) = - (ic i) := Ring.intCast_neg i
    rw [this]; grind
  zsmul_natCast_eq_nsmul n f := ext fun k => by
    show (con (ic (n : Int)) * f).at_ k = (con (nc n) * f).at_ k
    have : (ic (n : Int) : R) = nc n := Ring.intCast_natCast n
    rw [this]
  intCast_ofNat n := ext fun k => by
    show (con (ic (OfNat.ofNat n))).at_ k = (con (OfNat.ofNat n)).at_ k
    cases k with
    | zero => exact Ring.intCast_ofNat n
    | succ k => rfl
  intCast_neg i := ext fun k => by
    show (con (ic (-i))).at_ k = - (con (ic i)).at_ k
    cases k with
    | zero => exact Ring.intCast_neg i
    | succ k => show (0 : R) = - 0; grind
example (f g h : PS (PS Int)) : (f + g) * h = h * f + g * h := by grind
end PS
end LW
namespace LW
open Lean.Grind
namespace PS
variable {R : Type} [CommRing R]
def X : PS R := ⟨fun k => match k with | 1 => 1 | _ => 0⟩
@[simp] theorem X_0 {f : PS R} : (X * f).at_ 0 = 0 := by
  rw [mul_0]
  show (0 : R) * _ = 0
  grind
@[simp] theorem X_s {f : PS R} {k : Nat} : (X * f).at_ (k + 1) = f.at_ k := by
  rw [mul_s]
  have e : (X : PS R).tl = con 1 := ext fun k => by
    cases k with
    | zero => rfl
    | succ k => rfl
  rw [e, con_mul']
  show (0 : R) * _ + _ = _
  grind
@[simp] theorem zero_at' {k : Nat} : (0 : PS R).at_ k = 0 := zero_at
theorem con_add (a b : R) : con (a + b) = con a + con b := ext fun k => by
  cases k with
  | zero => rfl
  | succ k => show (0 : R) = 0 + 0; grind
theorem con_mul (a b : R) : con (a * b) = con a * con b := ext fun k => by
  rw [con_mul']
  cases k with
  | zero => rfl
  | succ k => show (0 : R) = a * 0; grind
theorem con_zero : con (0 : R) = 0 := rfl
theorem con_one : con (1 : R) = 1 := rfl
theorem con_neg (a : R) : con (-a) = - con a := ext fun k => by
  cases k with
  | zero => rfl
  | succ k => show (0 : R) = - 0; grind
theorem con_sub (a b : R) : con (a - b) = con a - con b := ext fun k => by
  cases k with
  | zero => rfl
  | succ k => show (0 : R) = 0 - 0; grind
/-- a list as a series, its items read by φ -/
def sr {A : Type} (φ : A → R) (z : A) (l : List A) : PS R := ⟨fun k => φ (l.getD k z)⟩
section
variable {A : Type} {φ : A → R} {z : A}
theorem sr_nil (hz : φ z = 0) : sr φ z [] = 0 := ext fun k => by
  rw [zero_at']
  exact hz
theorem sr_cons {x : A} {xs : List A} : sr φ z (x :: xs) = con (φ x) + X * sr φ z xs := ext fun k => by
  cases k with
  | zero => rw [add_at, X_0, con_0]; show φ x = _; grind
  | succ k => rw [add_at, X_s, con_s]; show φ (xs.getD k z) = 0 + φ (xs.getD k z); grind
theorem sr_app {xs ys : List A} (hz : φ z = 0) : sr φ z (xs ++ ys) = sr φ z xs + (X : PS R) ^ xs.length * sr φ z ys := by
  induction xs with
  | nil => rw [sr_nil hz, List.nil_append, List.length_nil]; grind
  | cons x xs ih => rw [List.cons_append, sr_cons, ih, sr_cons, List.length_cons]; grind
theorem sr_zeros (hz : φ z = 0) : ∀ n : Nat, sr φ z (List.replicate n z) = 0 := by
  intro n
  induction n with
  | zero => exact sr_nil hz
  | succ n ih => rw [List.replicate_succ, sr_cons, ih, hz, con_zero]; grind
theorem sr_map {B : Type} {ψ : B → R} {w : B} {f : B → A} {c : R} (hz : φ z = 0) (hw : ψ w = 0) (h : ∀ b, φ (f b) = c * ψ b) (l : List B) : sr φ z (l.map f) = con c * sr ψ w l := by
  induction l with
  | nil => rw [List.map_nil, sr_nil hz, sr_nil hw]; grind
  | cons x xs ih => rw [List.map_cons, sr_cons, sr_cons, ih, h, con_mul]; grind
theorem sr_set {l : List A} {k : Nat} {v : A} (h : k < l.length) : sr φ z (l.set k v) = sr φ z l + (X : PS R) ^ k * con (φ v - φ (l.getD k z)) := by
  induction l generalizing k with
  | nil => cases h
  | cons x xs ih =>
    cases k with
    | zero =>
      rw [List.set_cons_zero, sr_cons, sr_cons, con_sub]
      show _ = _ + _ * (con (φ v) - con (φ x))
      grind
    | succ k =>
      rw [List.set_cons_succ, sr_cons, sr_cons, ih (by simpa using h)]
      show _ = _ + _ * con (φ v - φ (xs.getD k z))
      grind
end
end PS
end LW
/-! MR2: rows and polynomials as lists. -/
namespace LW
open Lean.Grind
def trim : List Int → List Int
  | [] => []
  | x :: xs => match trim xs with
    | [] => if x = 0 then [] else [x]
    | y :: ys => x :: y :: ys
theorem trim_app0 : ∀ xs : List Int, trim (xs ++ [0]) = trim xs
  | [] => rfl
  | x :: xs => by
    show trim (x :: (xs ++ [0])) = _
    unfold trim
    rw [trim_app0 xs]
theorem trim_last : ∀ (xs : List Int) (y : Int), y ≠ 0 → trim (xs ++ [y]) = xs ++ [y]
  | [], y, h => by simp [trim, h]
  | x :: xs, y, h => by
    show trim (x :: (xs ++ [y])) = _
    unfold trim
    rw [trim_last xs y h]
    cases xs <;> rfl
theorem take_succ0 {α : Type} {xs : List α} {n : Nat} (h : n < xs.length) : xs.take (n + 1) = xs.take n ++ [xs[n]] := by
  rw [List.take_add_one, List.getElem?_eq_getElem h]
  rfl
theorem trim_take {xs : List Int} {n : Nat} (hn : n < xs.length) (h : xs[n] = 0) : trim (xs.take (n + 1)) = trim (xs.take n) := by
  rw [take_succ0 hn, h, trim_app0]
theorem trim_take' {xs : List Int} {n : Nat} (hn : n < xs.length) (h : xs[n] ≠ 0) : trim (xs.take (n + 1)) = xs.take (n + 1) := by
  rw [take_succ0 hn, trim_last _ _ h]
theorem trim_mem : ∀ {xs : List Int} {x : Int}, x ∈ trim xs → x ∈ xs
  | [], x, h => h
  | y :: ys, x, h => by
    unfold trim at h
    split at h
    · split at h
      · cases h
      · simp at h
        subst h
        exact List.mem_cons_self
    · rename_i z zs e
      rcases List.mem_cons.mp h with rfl | h
      · exact List.mem_cons_self
      · exact List.mem_cons_of_mem _ (trim_mem (by rw [e]; exact h))
theorem trim_len : ∀ xs : List Int, (trim xs).length ≤ xs.length
  | [] => Nat.le_refl _
  | y :: ys => by
    have ih := trim_len ys
    unfold trim
    split
    · split <;> simp
    · rename_i z zs e
      rw [e] at ih
      simp at ih ⊢
      omega
theorem trim_snoc (l : List Int) (z : Int) : trim (l ++ [z]) = if z = 0 then trim l else l ++ [z] := by
  by_cases h : z = 0
  · rw [if_pos h, h, trim_app0]
  · rw [if_neg h, trim_last _ _ h]
theorem trim_idem (xs : List Int) : trim (trim xs) = trim xs := by
  have gen : ∀ (n : Nat) (xs : List Int), xs.length = n → trim (trim xs) = trim xs := by
    intro n
    induction n with
    | zero => intro xs h; rw [List.length_eq_zero_iff.mp h]; rfl
    | succ n ih =>
      intro xs h
      rcases List.eq_nil_or_concat xs with e | ⟨l, z, e⟩
      · subst e; rfl
      · rw [List.concat_eq_append] at e
        subst e
        rw [trim_snoc]
        split
        · exact ih l (by simpa using h)
        · rename_i hz
          exact trim_last _ _ hz
  exact gen _ xs rfl
/-- a row as a series -/
def rs (a : List Int) : PS Int := PS.sr id 0 a
theorem rs_nil : rs [] = 0 := PS.sr_nil rfl
theorem rs_cons {x : Int} {xs : List Int} : rs (x :: xs) = PS.con x + PS.X * rs xs := PS.sr_cons
theorem rs_app {xs ys : List Int} : rs (xs ++ ys) = rs xs + (PS.X : PS Int) ^ xs.length * rs ys := PS.sr_app rfl
theorem rs_zeros (n : Nat) : rs (List.replicate n 0) = 0 := PS.sr_zeros (φ := (id : Int → Int)) (z := (0 : Int)) rfl n
theorem rs_at {a : List Int} {k : Nat} : (rs a).at_ k = a.getD k 0 := rfl
theorem con0 : PS.con (0 : Int) = 0 := rfl
theorem rs_trim (a : List Int) : rs (trim a) = rs a := by
  induction a with
  | nil => rfl
  | cons x xs ih =>
    unfold trim
    split
    · rename_i e
      rw [e] at ih
      rw [rs_cons, ← ih]
      split
      · rename_i h; rw [h, rs_nil, con0]; grind
      · rw [rs_cons]
    · rename_i y ys e
      rw [rs_cons, ← e, ih, rs_cons]
/-- trimmed rows are told by their numbers -/
theorem trim_eq {a b : List Int} (h : rs a = rs b) : trim a = trim b := by
  have z : ∀ {a : List Int}, rs a = 0 → trim a = [] := by
    intro a h
    induction a with
    | nil => rfl
    | cons x xs ih =>
      have hx : x = 0 := by
        have := congrArg (fun f => f.at_ 0) h
        simpa [rs_at] using this
      have ht : rs xs = 0 := PS.ext fun k => by
        have := congrArg (fun f => f.at_ (k + 1)) h
        simpa [rs_at] using this
      unfold trim
      rw [ih ht, if_pos hx]
  induction a generalizing b with
  | nil =>
    rw [rs_nil] at h
    rw [z h.symm]; rfl
  | cons x xs ih =>
    cases b with
    | nil => rw [rs_nil] at h; rw [z h]; rfl
    | cons y ys =>
      have hx : x = y := by
        have := congrArg (fun f => f.at_ 0) h
        simpa [rs_at] using this
      have ht : rs xs = rs ys := PS.ext fun k => by
        have := congrArg (fun f => f.at_ (k + 1)) h
        simpa [rs_at] using this
      have e := ih ht
      unfold trim
      rw [e, hx]
theorem row_ext {a b : List Int} (ha : trim a = a) (hb : trim b = b) (h : rs a = rs b) : a = b := by
  rw [← ha, ← hb]
  exact trim_eq h
/-- the sum of two rows -/
def addP : List Int → List Int → List Int
  | [], ys => ys
  | x :: xs, [] => x :: xs
  | x :: xs, y :: ys => (x + y) :: addP xs ys
theorem addP_len : ∀ a b : List Int, (addP a b).length = max a.length b.length
  | [], ys => by simp [addP]
  | x :: xs, [] => by simp [addP]
  | x :: xs, y :: ys => by
    have ih := addP_len xs ys
    simp [addP, ih]
theorem addP_get : ∀ (a b : List Int) (k : Nat), k < max a.length b.length → (addP a b)[k]? = some (a.getD k 0 + b.getD k 0)
  | [], ys, k, h => by
    have hk : k < ys.length := by simpa using h
    simp [addP, List.getElem?_eq_getElem hk, List.getD_eq_getElem?_getD]
  | x :: xs, [], k, h => by
    have hk : k < (x :: xs).length := by simpa using h
    simp only [addP]
    rw [List.getElem?_eq_getElem hk, List.getD_eq_getElem?_getD, List.getElem?_eq_getElem hk] <;> simp
  | x :: xs, y :: ys, 0, h => by simp [addP]
  | x :: xs, y :: ys, k + 1, h => by
    have ih := addP_get xs ys k (by simp at h; omega)
    simpa [addP] using ih
theorem rs_addP (a b : List Int) : rs (addP a b) = rs a + rs b := by
  induction a generalizing b with
  | nil => rw [rs_nil]; show rs b = _; grind
  | cons x xs ih =>
    cases b with
    | nil => rw [rs_nil]; show rs (x :: xs) = _; grind
    | cons y ys =>
      show rs ((x + y) :: addP xs ys) = _
      rw [rs_cons, rs_cons, rs_cons, ih, PS.con_add]; grind
theorem rs_scale (k : Int) (a : List Int) : rs (a.map (k * ·)) = PS.con k * rs a := PS.sr_map (φ := (id : Int → Int)) (z := (0 : Int)) (ψ := (id : Int → Int)) (w := (0 : Int)) rfl rfl (fun b => rfl) a
def addAt (c : List Int) (k : Nat) (v : Int) : List Int := c.set k (c.getD k 0 + v)
def inner (i : Nat) (x : Int) : Nat → List Int → List Int → List Int
  | _, [], c => c
  | j, y :: ys, c => inner i x (j + 1) ys (addAt c (i + j) (x * y))
def outer (b : List Int) : Nat → List Int → List Int → List Int
  | _, [], c => c
  | i, x :: xs, c => outer b (i + 1) xs (inner i x 0 b c)
theorem addAt_len {c : List Int} {k : Nat} {v : Int} : (addAt c k v).length = c.length := List.length_set ..
theorem inner_len {i : Nat} {x : Int} : ∀ (ys : List Int) (j : Nat) (c : List Int), (inner i x j ys c).length = c.length
  | [], j, c => rfl
  | y :: ys, j, c => by
    unfold inner
    rw [inner_len ys, addAt_len]
theorem outer_len {b : List Int} : ∀ (xs : List Int) (i : Nat) (c : List Int), (outer b i xs c).length = c.length
  | [], i, c => rfl
  | x :: xs, i, c => by
    unfold outer
    rw [outer_len xs, inner_len]
theorem rs_addAt {c : List Int} {k : Nat} {v : Int} (h : k < c.length) : rs (addAt c k v) = rs c + (PS.X : PS Int) ^ k * PS.con v := by
  unfold rs addAt
  rw [PS.sr_set h]
  congr 3
  simp only [id]
  omega
theorem rs_inner {i : Nat} {x : Int} : ∀ (ys : List Int) (j : Nat) (c : List Int), i + j + ys.length ≤ c.length → rs (inner i x j ys c) = rs c + (PS.X : PS Int) ^ (i + j) * PS.con x * rs ys
  | [], j, c, _ => by
    show rs c = _
    rw [rs_nil]; grind
  | y :: ys, j, c, h => by
    rw [List.length_cons] at h
    unfold inner
    rw [rs_inner ys (j + 1) _ (by rw [addAt_len]; omega), rs_addAt (by omega), rs_cons, PS.con_mul, show i + (j + 1) = (i + j) + 1 by omega]
    grind
theorem rs_outer {b : List Int} : ∀ (xs : List Int) (i : Nat) (c : List Int), (xs = [] ∨ i + xs.length + b.length ≤ c.length + 1) → rs (outer b i xs c) = rs c + (PS.X : PS Int) ^ i * rs xs * rs b
  | [], i, c, _ => by
    show rs c = _
    rw [rs_nil]; grind
  | x :: xs, i, c, h => by
    have h : i + (xs.length + 1) + b.length ≤ c.length + 1 := by
      rcases h with h | h
      · cases h
      · simpa using h
    unfold outer
    rw [rs_outer xs (i + 1) _ (by right; rw [inner_len]; omega), rs_inner b 0 c (by omega), rs_cons]
    grind
/-- the product of two rows -/
def mulP (a b : List Int) : List Int := trim (outer b 0 a (List.replicate (a.length + b.length - 1) 0))
theorem rs_mulP (a b : List Int) : rs (mulP a b) = rs a * rs b := by
  unfold mulP
  rw [rs_trim, rs_outer _ _ _ (by
    rw [List.length_replicate]
    cases a with
    | nil => exact .inl rfl
    | cons x xs => right; rw [List.length_cons]; omega), rs_zeros]
  grind
theorem mulP_trim (a b : List Int) : trim (mulP a b) = mulP a b := trim_idem _
theorem mulP_of {a b c : List Int} (h : rs c = rs a * rs b) : trim c = mulP a b := by
  rw [← mulP_trim]
  exact trim_eq (by rw [h, rs_mulP])
theorem mulP_more {a b : List Int} {N : Nat} (h : a = [] ∨ a.length + b.length ≤ N + 1) : trim (outer b 0 a (List.replicate N 0)) = mulP a b := by
  refine mulP_of ?_
  rw [rs_outer _ _ _ (by rw [List.length_replicate]; rcases h with h | h; exact .inl h; exact .inr (by omega)), rs_zeros]
  grind
theorem mulP_comm (a b : List Int) : mulP a b = mulP b a := row_ext (mulP_trim a b) (mulP_trim b a) (by rw [rs_mulP, rs_mulP]; grind)
theorem mulP_nil {b : List Int} : mulP [] b = [] := by
  unfold mulP
  exact (trim_eq (b := []) (by rw [show outer b 0 [] (List.replicate ([].length + b.length - 1) 0) = List.replicate ([].length + b.length - 1) 0 from rfl, rs_zeros, rs_nil])).trans rfl
theorem mulP_nil' {a : List Int} : mulP a [] = [] := by rw [mulP_comm, mulP_nil]
/-- bounds of numbers: below 2 ^ n -/
def BL (n : Nat) (a : List Int) : Prop := ∀ x ∈ a, x.natAbs < 2 ^ n
theorem BL.trim {n : Nat} {a : List Int} (h : BL n a) : BL n (LW.trim a) := fun x hx => h x (trim_mem hx)
theorem BL.up {n m : Nat} {a : List Int} (h : BL n a) (hm : n ≤ m) : BL m a := fun x hx => Nat.lt_of_lt_of_le (h x hx) (Nat.pow_le_pow_right (by omega) hm)
theorem two_pow {n : Nat} : 2 ^ n + 2 ^ n = 2 ^ (n + 1) := by rw [Nat.pow_succ]; omega
theorem BL.getD {n : Nat} {a : List Int} (h : BL n a) (k : Nat) : (a.getD k 0).natAbs < 2 ^ n := by
  rw [List.getD_eq_getElem?_getD]
  by_cases hk : k < a.length
  · rw [List.getElem?_eq_getElem hk]
    exact h _ (List.getElem_mem hk)
  · rw [List.getElem?_eq_none (by omega)]
    exact Nat.two_pow_pos n
theorem BL.addP {n : Nat} {a b : List Int} (ha : BL n a) (hb : BL n b) : BL (n + 1) (LW.addP a b) := by
  intro x hx
  obtain ⟨k, hk, e⟩ := List.getElem_of_mem hx
  have := addP_get a b k (by rwa [addP_len] at hk)
  rw [List.getElem?_eq_getElem hk, e] at this
  cases this
  have h1 := ha.getD k
  have h2 := hb.getD k
  have := Int.natAbs_add_le (a.getD k 0) (b.getD k 0)
  have := @two_pow n
  omega
theorem BL.scale {n m : Nat} {a : List Int} {k : Int} (ha : BL n a) (hk : k.natAbs ≤ 2 ^ m) : BL (m + n) (a.map (k * ·)) := by
  intro x hx
  obtain ⟨y, hy, rfl⟩ := List.mem_map.mp hx
  show (k * y).natAbs < _
  rw [Int.natAbs_mul, Nat.pow_add]
  have h1 := ha y hy
  have h2 : k.natAbs * y.natAbs ≤ 2 ^ m * y.natAbs := Nat.mul_le_mul_right _ hk
  have h3 : 2 ^ m * y.natAbs < 2 ^ m * 2 ^ n := Nat.mul_lt_mul_of_pos_left h1 (Nat.two_pow_pos m)
  omega
theorem BL.zeros (n m : Nat) : BL n (List.replicate m 0) := fun x hx => by
  rw [List.eq_of_mem_replicate hx]
  exact Nat.two_pow_pos n
/-- numbers at most M -/
def BM (M : Nat) (a : List Int) : Prop := ∀ x ∈ a, x.natAbs ≤ M
theorem BM.getD {M : Nat} {a : List Int} (h : BM M a) (k : Nat) : (a.getD k 0).natAbs ≤ M := by
  rw [List.getD_eq_getElem?_getD]
  by_cases hk : k < a.length
  · rw [List.getElem?_eq_getElem hk]
    exact h _ (List.getElem_mem hk)
  · rw [List.getElem?_eq_none (by omega)]
    simp
theorem BM.addAt {M L : Nat} {c : List Int} {k : Nat} {v : Int} (h : BM M c) (hv : v.natAbs ≤ L) : BM (M + L) (LW.addAt c k v) := by
  intro x hx
  unfold LW.addAt at hx
  rcases List.mem_or_eq_of_mem_set hx with hx | rfl
  · exact Nat.le_trans (h x hx) (by omega)
  · have := h.getD k
    have := Int.natAbs_add_le (c.getD k 0) v
    omega
theorem BM.inner {i : Nat} {x : Int} {M A B : Nat} (hx : x.natAbs ≤ A) : ∀ {ys : List Int} {j : Nat} {c : List Int}, BM B ys → BM M c → BM (M + ys.length * (A * B)) (LW.inner i x j ys c)
  | [], j, c, _, h => by simpa [LW.inner] using h
  | y :: ys, j, c, hy, h => by
    unfold LW.inner
    have hxy : (x * y).natAbs ≤ A * B := by rw [Int.natAbs_mul]; exact Nat.mul_le_mul hx (hy y List.mem_cons_self)
    have := BM.inner (i := i) (j := j + 1) hx (fun z hz => hy z (List.mem_cons_of_mem _ hz)) (h.addAt (k := i + j) hxy)
    intro z hz
    have := this z hz
    rw [List.length_cons, Nat.succ_mul]
    omega
theorem BM.outer {b : List Int} {M A B : Nat} (hb : BM B b) : ∀ {xs : List Int} {i : Nat} {c : List Int}, BM A xs → BM M c → BM (M + xs.length * (b.length * (A * B))) (LW.outer b i xs c)
  | [], i, c, _, h => by simpa [LW.outer] using h
  | x :: xs, i, c, ha, h => by
    unfold LW.outer
    have := BM.outer hb (i := i + 1) (fun z hz => ha z (List.mem_cons_of_mem _ hz)) (BM.inner (i := i) (j := 0) (ha x List.mem_cons_self) hb h)
    intro z hz
    have := this z hz
    rw [List.length_cons, Nat.succ_mul]
    omega
theorem BM.mulP {a b : List Int} {A B : Nat} (ha : BM A a) (hb : BM B b) : BM (a.length * (b.length * (A * B))) (LW.mulP a b) := by
  intro x hx
  unfold LW.mulP at hx
  have z : BM 0 (List.replicate (a.length + b.length - 1) 0) := fun x hx => by rw [List.eq_of_mem_replicate hx]; simp
  have := (BM.outer (i := 0) hb ha z) x (trim_mem hx)
  omega
theorem mulP_len (a b : List Int) : (mulP a b).length ≤ a.length + b.length - 1 := by
  unfold mulP
  have := trim_len (outer b 0 a (List.replicate (a.length + b.length - 1) 0))
  rw [outer_len, List.length_replicate] at this
  exact this
end LW
/-! MR3: fractions and values. -/
namespace LW
open Lean.Grind
theorem lean_num {a b : Int} (hb : 0 < b) : ((a : Rat) / (b : Rat)).num = a / (Nat.gcd a.natAbs b.natAbs : Int) ∧ ((((a : Rat) / (b : Rat)).den : Nat) : Int) = b / (Nat.gcd a.natAbs b.natAbs : Int) := by
  rw [← Rat.divInt_eq_div, Rat.num_divInt, Rat.den_divInt]
  have e : Int.gcd b a = Nat.gcd a.natAbs b.natAbs := by rw [Int.gcd_comm]; rfl
  rw [e, Int.sign_eq_one_of_pos hb, Int.one_mul, if_neg (by omega)]
  refine ⟨rfl, ?_⟩
  rw [Int.natCast_ediv]
  congr 1
  omega
theorem num_div_den (q : Rat) : q = (q.num : Rat) / ((q.den : Int) : Rat) := by
  rw [← Rat.divInt_eq_div]
  exact (Rat.num_divInt_den q).symm
theorem den_pos (q : Rat) : (0 : Int) < (q.den : Int) := by
  have := q.den_pos
  omega
theorem den_ne (q : Rat) : ((q.den : Int) : Rat) ≠ 0 := by
  intro h
  have : ((q.den : Int) : Rat) = ((0 : Int) : Rat) := h
  rw [Rat.intCast_inj] at this
  have := den_pos q
  omega
theorem add_div (p q : Rat) : p + q = ((p.num * q.den + q.num * p.den : Int) : Rat) / ((p.den * q.den : Int) : Rat) := by
  have hp := num_div_den p
  have hq := num_div_den q
  have np := den_ne p
  have nq := den_ne q
  rw [Rat.intCast_add, Rat.intCast_mul, Rat.intCast_mul, Rat.intCast_mul]
  generalize (p.num : Rat) = a at *
  generalize ((p.den : Int) : Rat) = b at *
  generalize (q.num : Rat) = c at *
  generalize ((q.den : Int) : Rat) = d at *
  subst hp hq
  grind
theorem mul_div (p q : Rat) : p * q = ((p.num * q.num : Int) : Rat) / ((p.den * q.den : Int) : Rat) := by
  have hp := num_div_den p
  have hq := num_div_den q
  have np := den_ne p
  have nq := den_ne q
  rw [Rat.intCast_mul, Rat.intCast_mul]
  generalize (p.num : Rat) = a at *
  generalize ((p.den : Int) : Rat) = b at *
  generalize (q.num : Rat) = c at *
  generalize ((q.den : Int) : Rat) = d at *
  subst hp hq
  grind
/-- how great a fraction's numbers are -/
def RB (k : Nat) (q : Rat) : Prop := q.num.natAbs ≤ 2 ^ k ∧ q.den ≤ 2 ^ k
theorem RB.up {k l : Nat} {q : Rat} (h : RB k q) (hl : k ≤ l) : RB l q := ⟨Nat.le_trans h.1 (Nat.pow_le_pow_right (by omega) hl), Nat.le_trans h.2 (Nat.pow_le_pow_right (by omega) hl)⟩
theorem RB.of_div {a b : Int} {k : Nat} (hb : 0 < b) (ha : a.natAbs ≤ 2 ^ k) (h : b.natAbs ≤ 2 ^ k) : RB k ((a : Rat) / (b : Rat)) := by
  obtain ⟨e1, e2⟩ := lean_num (a := a) hb
  constructor
  · rw [e1]
    exact Nat.le_trans (Int.natAbs_ediv_le_natAbs a _) ha
  · have := Int.natAbs_ediv_le_natAbs b (Nat.gcd a.natAbs b.natAbs : Int)
    rw [← e2] at this
    have : ((a : Rat) / (b : Rat)).den ≤ b.natAbs := by simpa using this
    omega
theorem RB.add {k l : Nat} {p q : Rat} (hp : RB k p) (hq : RB l q) : RB (k + l + 1) (p + q) := by
  rw [add_div]
  refine .of_div (Int.mul_pos (den_pos p) (den_pos q)) ?_ ?_
  · have h1 : (p.num * (q.den : Int)).natAbs ≤ 2 ^ k * 2 ^ l := by
      rw [Int.natAbs_mul]
      exact Nat.mul_le_mul hp.1 (by simpa using hq.2)
    have h2 : (q.num * (p.den : Int)).natAbs ≤ 2 ^ k * 2 ^ l := by
      rw [Int.natAbs_mul, Nat.mul_comm (2 ^ k)]
      exact Nat.mul_le_mul hq.1 (by simpa using hp.2)
    have := Int.natAbs_add_le (p.num * (q.den : Int)) (q.num * (p.den : Int))
    rw [← Nat.pow_add] at h1 h2
    have := @two_pow (k + l)
    omega
  · rw [Int.natAbs_mul, show k + l + 1 = k + (l + 1) by omega, Nat.pow_add]
    refine Nat.mul_le_mul (by simpa using hp.2) (Nat.le_trans (by simpa using hq.2) (Nat.pow_le_pow_right (by omega) (by omega)))
theorem RB.mul {k l : Nat} {p q : Rat} (hp : RB k p) (hq : RB l q) : RB (k + l) (p * q) := by
  rw [mul_div]
  refine .of_div (Int.mul_pos (den_pos p) (den_pos q)) ?_ ?_
  · rw [Int.natAbs_mul, Nat.pow_add]
    exact Nat.mul_le_mul hp.1 hq.1
  · rw [Int.natAbs_mul, Nat.pow_add]
    exact Nat.mul_le_mul (by simpa using hp.2) (by simpa using hq.2)
theorem RB.int {k : Nat} {a : Int} (h : a.natAbs ≤ 2 ^ k) : RB k (a : Rat) := ⟨by rw [Rat.num_intCast]; exact h, by rw [Rat.den_intCast]; exact Nat.one_le_two_pow⟩
theorem RB.zero : RB 0 (0 : Rat) := ⟨by decide, by decide⟩
/-- the value of a row -/
def ev (q : Rat) : List Int → Rat
  | [] => 0
  | c :: cs => (c : Rat) + q * ev q cs
theorem ev_trim (q : Rat) (a : List Int) : ev q (trim a) = ev q a := by
  induction a with
  | nil => rfl
  | cons x xs ih =>
    unfold trim
    split
    · rename_i e
      rw [e] at ih
      show _ = (x : Rat) + q * ev q xs
      rw [← ih]
      split
      · rename_i h
        subst h
        show (0 : Rat) = ((0 : Int) : Rat) + q * 0
        have : ((0 : Int) : Rat) = 0 := rfl
        rw [this]; grind
      · rfl
    · rename_i y ys e
      show (x : Rat) + q * ev q (y :: ys) = (x : Rat) + q * ev q xs
      rw [← e, ih]
theorem ev_addP (q : Rat) (a b : List Int) : ev q (addP a b) = ev q a + ev q b := by
  induction a generalizing b with
  | nil => show ev q b = 0 + ev q b; grind
  | cons x xs ih =>
    cases b with
    | nil => show ev q (x :: xs) = ev q (x :: xs) + 0; grind
    | cons y ys =>
      show ((x + y : Int) : Rat) + q * ev q (addP xs ys) = ((x : Rat) + q * ev q xs) + ((y : Rat) + q * ev q ys)
      rw [ih, Rat.intCast_add]; grind
theorem ev_scale (q : Rat) (k : Int) (a : List Int) : ev q (a.map (k * ·)) = (k : Rat) * ev q a := by
  induction a with
  | nil => show (0 : Rat) = (k : Rat) * 0; grind
  | cons x xs ih =>
    show ((k * x : Int) : Rat) + q * ev q (xs.map (k * ·)) = (k : Rat) * ((x : Rat) + q * ev q xs)
    rw [ih, Rat.intCast_mul]; grind
theorem ev_set (q : Rat) {l : List Int} {k : Nat} {v : Int} (h : k < l.length) : ev q (l.set k v) = ev q l + q ^ k * ((v : Rat) - ((l.getD k 0 : Int) : Rat)) := by
  induction l generalizing k with
  | nil => cases h
  | cons x xs ih =>
    cases k with
    | zero =>
      show (v : Rat) + q * ev q xs = ((x : Rat) + q * ev q xs) + q ^ 0 * ((v : Rat) - (x : Rat))
      grind
    | succ k =>
      show (x : Rat) + q * ev q (xs.set k v) = ((x : Rat) + q * ev q xs) + q ^ (k + 1) * ((v : Rat) - ((xs.getD k 0 : Int) : Rat))
      rw [ih (by simpa using h)]
      grind
theorem ev_addAt (q : Rat) {c : List Int} {k : Nat} {v : Int} (h : k < c.length) : ev q (addAt c k v) = ev q c + q ^ k * (v : Rat) := by
  unfold addAt
  rw [ev_set q h, Rat.intCast_add]; grind
theorem ev_inner (q : Rat) {i : Nat} {x : Int} : ∀ (ys : List Int) (j : Nat) (c : List Int), i + j + ys.length ≤ c.length → ev q (inner i x j ys c) = ev q c + q ^ (i + j) * (x : Rat) * ev q ys
  | [], j, c, _ => by show ev q c = ev q c + q ^ (i + j) * (x : Rat) * 0; grind
  | y :: ys, j, c, h => by
    rw [List.length_cons] at h
    unfold inner
    rw [ev_inner q ys (j + 1) _ (by rw [addAt_len]; omega), ev_addAt q (by omega), Rat.intCast_mul, show i + (j + 1) = (i + j) + 1 by omega]
    show _ = ev q c + q ^ (i + j) * (x : Rat) * ((y : Rat) + q * ev q ys)
    grind
theorem ev_outer (q : Rat) {b : List Int} : ∀ (xs : List Int) (i : Nat) (c : List Int), (xs = [] ∨ i + xs.length + b.length ≤ c.length + 1) → ev q (outer b i xs c) = ev q c + q ^ i * ev q xs * ev q b
  | [], i, c, _ => by show ev q c = ev q c + q ^ i * 0 * ev q b; grind
  | x :: xs, i, c, h => by
    have h : i + (xs.length + 1) + b.length ≤ c.length + 1 := by
      rcases h with h | h
      · cases h
      · simpa using h
    unfold outer
    rw [ev_outer q xs (i + 1) _ (by right; rw [inner_len]; omega), ev_inner q b 0 c (by omega)]
    show _ = ev q c + q ^ i * ((x : Rat) + q * ev q xs) * ev q b
    grind
theorem ev_zeros (q : Rat) : ∀ n : Nat, ev q (List.replicate n 0) = 0
  | 0 => rfl
  | n + 1 => by
    rw [List.replicate_succ]
    show ((0 : Int) : Rat) + q * ev q (List.replicate n 0) = 0
    rw [ev_zeros q n, show ((0 : Int) : Rat) = 0 from rfl]; grind
theorem ev_mulP (q : Rat) (a b : List Int) : ev q (mulP a b) = ev q a * ev q b := by
  unfold mulP
  rw [ev_trim, ev_outer q _ _ _ (by
    rw [List.length_replicate]
    cases a with
    | nil => exact .inl rfl
    | cons x xs => right; rw [List.length_cons]; omega), ev_zeros]
  grind
theorem RB.ev {k m : Nat} {q : Rat} (hq : RB k q) : ∀ {a : List Int}, BM (2 ^ m) a → RB (a.length * (k + m + 1)) (ev q a)
  | [], _ => by simpa [LW.ev] using RB.zero
  | c :: cs, h => by
    have h1 := RB.ev hq (a := cs) fun x hx => h x (List.mem_cons_of_mem _ hx)
    have := (RB.int (h c List.mem_cons_self)).add (hq.mul h1)
    refine this.up ?_
    rw [List.length_cons, Nat.succ_mul]
    omega
/-- the value's upper part, step by step -/
def hrn (n d : Int) (cs : List Int) : Int × Int := cs.foldl (fun f c => (f.1 * n + c * f.2, f.2 * d)) (0, 1)
theorem hrn_snoc {n d : Int} {cs : List Int} {c : Int} : hrn n d (cs ++ [c]) = ((hrn n d cs).1 * n + c * (hrn n d cs).2, (hrn n d cs).2 * d) := by
  unfold hrn
  rw [List.foldl_append]
  rfl
theorem hrn_pow {n d : Int} (cs : List Int) : (hrn n d cs).2 = d ^ cs.length := by
  have gen : ∀ (cs : List Int) (f p : Int), (cs.foldl (fun f c => (f.1 * n + c * f.2, f.2 * d)) (f, p)).2 = p * d ^ cs.length := by
    intro cs
    induction cs with
    | nil => intro f p; simp
    | cons c cs ih =>
      intro f p
      rw [List.foldl_cons, ih, List.length_cons, Int.pow_succ, Int.mul_assoc, Int.mul_comm d]
  have := gen cs 0 1
  rw [Int.one_mul] at this
  exact this
theorem hrn_ev {n d : Int} (hd : d ≠ 0) : ∀ a : List Int, ((hrn n d a.reverse).1 : Rat) * (d : Rat) = (d : Rat) ^ a.length * ev ((n : Rat) / (d : Rat)) a
  | [] => by
    show ((0 : Int) : Rat) * (d : Rat) = (d : Rat) ^ 0 * 0
    rw [show ((0 : Int) : Rat) = 0 from rfl]; grind
  | c :: cs => by
    have ih := hrn_ev (n := n) hd cs
    have hd' : (d : Rat) ≠ 0 := fun h => hd (by
      have : ((d : Int) : Rat) = ((0 : Int) : Rat) := h
      rwa [Rat.intCast_inj] at this)
    rw [List.reverse_cons, hrn_snoc, List.length_cons, hrn_pow, List.length_reverse]
    show (((hrn n d cs.reverse).1 * n + c * d ^ cs.length : Int) : Rat) * (d : Rat) = (d : Rat) ^ (cs.length + 1) * ((c : Rat) + (n : Rat) / (d : Rat) * ev ((n : Rat) / (d : Rat)) cs)
    rw [Rat.intCast_add, Rat.intCast_mul, Rat.intCast_mul, Rat.intCast_pow, show (d : Rat) ^ (cs.length + 1) = (d : Rat) ^ cs.length * (d : Rat) by grind]
    generalize ev ((n : Rat) / (d : Rat)) cs = e at *
    generalize ((hrn n d cs.reverse).1 : Rat) = f at *
    generalize (d : Rat) ^ cs.length = p at ih ⊢
    generalize (d : Rat) = d' at *
    grind
theorem hrn_val {n d : Int} (hd : d ≠ 0) (a : List Int) : ((hrn n d a.reverse).1 : Rat) / (((d ^ (a.length - 1) : Int)) : Rat) = ev ((n : Rat) / (d : Rat)) a := by
  have h := hrn_ev (n := n) hd a
  have hd' : (d : Rat) ≠ 0 := fun h => hd (by
    have : ((d : Int) : Rat) = ((0 : Int) : Rat) := h
    rwa [Rat.intCast_inj] at this)
  cases a with
  | nil =>
    show ((0 : Int) : Rat) / _ = 0
    rw [show ((0 : Int) : Rat) = 0 from rfl]
    grind
  | cons c cs =>
    rw [List.length_cons] at h ⊢
    rw [Nat.add_sub_cancel, Rat.intCast_pow]
    have hp : (d : Rat) ^ cs.length ≠ 0 := by
      clear h
      induction cs.length with
      | zero => rw [show (d : Rat) ^ 0 = 1 by grind]; decide
      | succ k ih => grind
    rw [show (d : Rat) ^ (cs.length + 1) = (d : Rat) ^ cs.length * (d : Rat) by grind] at h
    generalize ev ((n : Rat) / (d : Rat)) (c :: cs) = e at *
    generalize ((hrn n d (c :: cs).reverse).1 : Rat) = f at *
    generalize (d : Rat) ^ cs.length = p at *
    generalize (d : Rat) = d' at *
    grind
theorem hrn_le {n d : Int} {k : Nat} (hn : n.natAbs ≤ 2 ^ k) (hd : d.natAbs ≤ 2 ^ k) {M : Nat} : ∀ {cs : List Int}, BM (2 ^ M) cs → (hrn n d cs).1.natAbs ≤ 2 ^ (cs.length * (k + 1) + M) ∧ (hrn n d cs).2.natAbs ≤ 2 ^ (cs.length * k) := by
  intro cs
  have gen : ∀ (j : Nat), BM (2 ^ M) cs → j ≤ cs.length → (hrn n d (cs.take j)).1.natAbs ≤ 2 ^ (j * (k + 1) + M) ∧ (hrn n d (cs.take j)).2.natAbs ≤ 2 ^ (j * k) := by
    intro j hb
    induction j with
    | zero => intro _; exact ⟨Nat.zero_le _, by simp [hrn]⟩
    | succ j ih =>
      intro hj
      obtain ⟨i1, i2⟩ := ih (by omega)
      rw [take_succ0 (show j < cs.length by omega), hrn_snoc]
      have hc := hb _ (List.getElem_mem (show j < cs.length by omega))
      constructor
      · show ((hrn n d (cs.take j)).1 * n + cs[j] * (hrn n d (cs.take j)).2).natAbs ≤ _
        have a1 : ((hrn n d (cs.take j)).1 * n).natAbs ≤ 2 ^ (j * (k + 1) + M) * 2 ^ k := by rw [Int.natAbs_mul]; exact Nat.mul_le_mul i1 hn
        have a2 : (cs[j] * (hrn n d (cs.take j)).2).natAbs ≤ 2 ^ M * 2 ^ (j * k) := by rw [Int.natAbs_mul]; exact Nat.mul_le_mul hc i2
        have a3 := Int.natAbs_add_le ((hrn n d (cs.take j)).1 * n) (cs[j] * (hrn n d (cs.take j)).2)
        rw [← Nat.pow_add] at a1 a2
        have a4 : 2 ^ (M + j * k) ≤ 2 ^ (j * (k + 1) + M + k) := Nat.pow_le_pow_right (by omega) (by rw [Nat.mul_succ]; omega)
        have a5 := @two_pow (j * (k + 1) + M + k)
        have a6 : (j + 1) * (k + 1) + M = j * (k + 1) + M + k + 1 := by rw [Nat.succ_mul]; omega
        rw [a6]
        omega
      · show ((hrn n d (cs.take j)).2 * d).natAbs ≤ _
        rw [Int.natAbs_mul, Nat.succ_mul, Nat.pow_add]
        exact Nat.mul_le_mul i2 hd
  intro hb
  have := gen cs.length hb (Nat.le_refl _)
  rwa [List.take_length] at this
end LW
/-! MR4: polynomials of two letters. -/
namespace LW
open Lean.Grind
abbrev Pol := List (List Int)
def trimP : Pol → Pol
  | [] => []
  | x :: xs => match trimP xs with
    | [] => if x = [] then [] else [x]
    | y :: ys => x :: y :: ys
theorem trimP_app0 : ∀ xs : Pol, trimP (xs ++ [[]]) = trimP xs
  | [] => rfl
  | x :: xs => by
    show trimP (x :: (xs ++ [[]])) = _
    unfold trimP
    rw [trimP_app0 xs]
theorem trimP_last : ∀ (xs : Pol) (y : List Int), y ≠ [] → trimP (xs ++ [y]) = xs ++ [y]
  | [], y, h => by simp [trimP, h]
  | x :: xs, y, h => by
    show trimP (x :: (xs ++ [y])) = _
    unfold trimP
    rw [trimP_last xs y h]
    cases xs <;> rfl
theorem trimP_take {xs : Pol} {n : Nat} (hn : n < xs.length) (h : xs[n] = []) : trimP (xs.take (n + 1)) = trimP (xs.take n) := by
  rw [take_succ0 hn, h, trimP_app0]
theorem trimP_take' {xs : Pol} {n : Nat} (hn : n < xs.length) (h : xs[n] ≠ []) : trimP (xs.take (n + 1)) = xs.take (n + 1) := by
  rw [take_succ0 hn, trimP_last _ _ h]
theorem trimP_snoc (l : Pol) (z : List Int) : trimP (l ++ [z]) = if z = [] then trimP l else l ++ [z] := by
  by_cases h : z = []
  · rw [if_pos h, h, trimP_app0]
  · rw [if_neg h, trimP_last _ _ h]
theorem trimP_idem (xs : Pol) : trimP (trimP xs) = trimP xs := by
  have gen : ∀ (n : Nat) (xs : Pol), xs.length = n → trimP (trimP xs) = trimP xs := by
    intro n
    induction n with
    | zero => intro xs h; rw [List.length_eq_zero_iff.mp h]; rfl
    | succ n ih =>
      intro xs h
      rcases List.eq_nil_or_concat xs with e | ⟨l, z, e⟩
      · subst e; rfl
      · rw [List.concat_eq_append] at e
        subst e
        rw [trimP_snoc]
        split
        · exact ih l (by simpa using h)
        · rename_i hz
          exact trimP_last _ _ hz
  exact gen _ xs rfl
theorem trimP_mem : ∀ {xs : Pol} {x : List Int}, x ∈ trimP xs → x ∈ xs
  | [], x, h => h
  | y :: ys, x, h => by
    unfold trimP at h
    split at h
    · split at h
      · cases h
      · simp at h
        subst h
        exact List.mem_cons_self
    · rename_i z zs e
      rcases List.mem_cons.mp h with rfl | h
      · exact List.mem_cons_self
      · exact List.mem_cons_of_mem _ (trimP_mem (by rw [e]; exact h))
theorem trimP_len : ∀ xs : Pol, (trimP xs).length ≤ xs.length
  | [] => Nat.le_refl _
  | y :: ys => by
    have ih := trimP_len ys
    unfold trimP
    split
    · split <;> simp
    · rename_i z zs e
      rw [e] at ih
      simp at ih ⊢
      omega
/-- all rows trimmed -/
def TR (P : Pol) : Prop := ∀ r ∈ P, trim r = r
/-- .. and the last one not nought -/
def TP (P : Pol) : Prop := trimP P = P ∧ TR P
theorem TR.trimP {P : Pol} (h : TR P) : TP (LW.trimP P) := ⟨trimP_idem P, fun r hr => h r (trimP_mem hr)⟩
theorem TR.cons {r : List Int} {P : Pol} (hr : trim r = r) (h : TR P) : TR (r :: P) := fun x hx => by
  rcases List.mem_cons.mp hx with rfl | hx
  · exact hr
  · exact h x hx
theorem TP.nil : TP [] := ⟨rfl, fun r hr => by cases hr⟩
/-- a polynomial as a series of series -/
def ps (P : Pol) : PS (PS Int) := PS.sr rs [] P
theorem ps_nil : ps [] = 0 := PS.sr_nil rs_nil
theorem ps_cons {x : List Int} {xs : Pol} : ps (x :: xs) = PS.con (rs x) + PS.X * ps xs := PS.sr_cons
theorem ps_at {P : Pol} {k : Nat} : (ps P).at_ k = rs (P.getD k []) := rfl
theorem ps_app {xs ys : Pol} : ps (xs ++ ys) = ps xs + (PS.X : PS (PS Int)) ^ xs.length * ps ys := PS.sr_app rs_nil
theorem ps_zeros (n : Nat) : ps (List.replicate n []) = 0 := PS.sr_zeros (φ := rs) (z := []) rs_nil n
theorem con0' : PS.con (0 : PS Int) = 0 := rfl
theorem ps_trim (P : Pol) : ps (trimP P) = ps P := by
  induction P with
  | nil => rfl
  | cons x xs ih =>
    unfold trimP
    split
    · rename_i e
      rw [e] at ih
      rw [ps_cons, ← ih]
      split
      · rename_i h; rw [h, rs_nil, ps_nil, con0']; grind
      · rw [ps_cons]
    · rename_i y ys e
      rw [ps_cons, ← e, ih, ps_cons]
theorem rs_zero {a : List Int} (ht : trim a = a) (h : rs a = 0) : a = [] := row_ext ht rfl (by rw [h, rs_nil])
theorem trimP_eq {P Q : Pol} (hP : TR P) (hQ : TR Q) (h : ps P = ps Q) : trimP P = trimP Q := by
  have z : ∀ {P : Pol}, TR P → ps P = 0 → trimP P = [] := by
    intro P hP h
    induction P with
    | nil => rfl
    | cons x xs ih =>
      have hx : rs x = 0 := by
        have := congrArg (fun f => f.at_ 0) h
        simpa [ps_at] using this
      have ht : ps xs = 0 := PS.ext fun k => by
        have := congrArg (fun f => f.at_ (k + 1)) h
        simpa [ps_at] using this
      unfold trimP
      rw [ih (fun r hr => hP r (List.mem_cons_of_mem _ hr)) ht, if_pos (rs_zero (hP x List.mem_cons_self) hx)]
  induction P generalizing Q with
  | nil =>
    rw [ps_nil] at h
    rw [z hQ h.symm]; rfl
  | cons x xs ih =>
    cases Q with
    | nil => rw [ps_nil] at h; rw [z hP h]; rfl
    | cons y ys =>
      have hx : x = y := row_ext (hP x List.mem_cons_self) (hQ y List.mem_cons_self) (by
        have := congrArg (fun f => f.at_ 0) h
        simpa [ps_at] using this)
      have ht : ps xs = ps ys := PS.ext fun k => by
        have := congrArg (fun f => f.at_ (k + 1)) h
        simpa [ps_at] using this
      have e := ih (fun r hr => hP r (List.mem_cons_of_mem _ hr)) (fun r hr => hQ r (List.mem_cons_of_mem _ hr)) ht
      unfold trimP
      rw [e, hx]
theorem pol_ext {P Q : Pol} (hP : TP P) (hQ : TP Q) (h : ps P = ps Q) : P = Q := by
  rw [← hP.1, ← hQ.1]
  exact trimP_eq hP.2 hQ.2 h
/-- sums -/
def addPP : Pol → Pol → Pol
  | [], Q => Q
  | x :: xs, [] => x :: xs
  | x :: xs, y :: ys => trim (addP x y) :: addPP xs ys
theorem addPP_len : ∀ P Q : Pol, (addPP P Q).length = max P.length Q.length
  | [], ys => by simp [addPP]
  | x :: xs, [] => by simp [addPP]
  | x :: xs, y :: ys => by
    have ih := addPP_len xs ys
    simp [addPP, ih]
theorem addP_nil (a : List Int) : addP a [] = a := by cases a <;> rfl
theorem addPP_get : ∀ (P Q : Pol) (k : Nat), TR P → TR Q → k < max P.length Q.length → (addPP P Q)[k]? = some (trim (addP (P.getD k []) (Q.getD k [])))
  | [], ys, k, _, hQ, h => by
    have hk : k < ys.length := by simpa using h
    have e := hQ _ (List.getElem_mem hk)
    simp [addPP, List.getElem?_eq_getElem hk, List.getD_eq_getElem?_getD, addP, e]
  | x :: xs, [], k, hP, _, h => by
    have hk : k < (x :: xs).length := by simpa using h
    have e := hP _ (List.getElem_mem hk)
    simp only [addPP]
    rw [List.getElem?_eq_getElem hk, List.getD_eq_getElem?_getD, List.getElem?_eq_getElem hk]
    show some (x :: xs)[k] = some (trim (addP (x :: xs)[k] []))
    rw [addP_nil, e]
  | x :: xs, y :: ys, 0, _, _, h => by simp [addPP]
  | x :: xs, y :: ys, k + 1, hP, hQ, h => by
    have ih := addPP_get xs ys k (fun r hr => hP r (List.mem_cons_of_mem _ hr)) (fun r hr => hQ r (List.mem_cons_of_mem _ hr)) (by simp at h; omega)
    simpa [addPP] using ih
theorem TR.addPP : ∀ {P Q : Pol}, TR P → TR Q → TR (LW.addPP P Q)
  | [], Q, _, hQ => hQ
  | x :: xs, [], hP, _ => hP
  | x :: xs, y :: ys, hP, hQ => .cons (trim_idem _) (TR.addPP (fun r hr => hP r (List.mem_cons_of_mem _ hr)) (fun r hr => hQ r (List.mem_cons_of_mem _ hr)))
theorem ps_addPP (P Q : Pol) : ps (addPP P Q) = ps P + ps Q := by
  induction P generalizing Q with
  | nil => rw [ps_nil]; show ps Q = _; grind
  | cons x xs ih =>
    cases Q with
    | nil => rw [ps_nil]; show ps (x :: xs) = _; grind
    | cons y ys =>
      show ps (trim (addP x y) :: addPP xs ys) = _
      rw [ps_cons, ps_cons, ps_cons, ih, rs_trim, rs_addP, PS.con_add]; grind
def sumPP (P Q : Pol) : Pol := trimP (addPP P Q)
theorem sumPP_TP {P Q : Pol} (hP : TR P) (hQ : TR Q) : TP (sumPP P Q) := (hP.addPP hQ).trimP
theorem ps_sumPP (P Q : Pol) : ps (sumPP P Q) = ps P + ps Q := by unfold sumPP; rw [ps_trim, ps_addPP]
theorem sumPP_comm {P Q : Pol} (hP : TR P) (hQ : TR Q) : sumPP P Q = sumPP Q P := pol_ext (sumPP_TP hP hQ) (sumPP_TP hQ hP) (by rw [ps_sumPP, ps_sumPP]; grind)
/-- products: the law's own loops -/
def addAtP (c : Pol) (k : Nat) (v : List Int) : Pol := c.set k (trim (addP (c.getD k []) v))
def innerP (i : Nat) (x : List Int) : Nat → Pol → Pol → Pol
  | _, [], c => c
  | j, y :: ys, c => innerP i x (j + 1) ys (addAtP c (i + j) (mulP x y))
def outerP (b : Pol) : Nat → Pol → Pol → Pol
  | _, [], c => c
  | i, x :: xs, c => outerP b (i + 1) xs (innerP i x 0 b c)
theorem addAtP_len {c : Pol} {k : Nat} {v : List Int} : (addAtP c k v).length = c.length := List.length_set ..
theorem innerP_len {i : Nat} {x : List Int} : ∀ (ys : Pol) (j : Nat) (c : Pol), (innerP i x j ys c).length = c.length
  | [], j, c => rfl
  | y :: ys, j, c => by
    unfold innerP
    rw [innerP_len ys, addAtP_len]
theorem outerP_len {b : Pol} : ∀ (xs : Pol) (i : Nat) (c : Pol), (outerP b i xs c).length = c.length
  | [], i, c => rfl
  | x :: xs, i, c => by
    unfold outerP
    rw [outerP_len xs, innerP_len]
theorem TR.addAtP {c : Pol} (h : TR c) (k : Nat) (v : List Int) : TR (LW.addAtP c k v) := fun r hr => by
  unfold LW.addAtP at hr
  rcases List.mem_or_eq_of_mem_set hr with hr | rfl
  · exact h r hr
  · exact trim_idem _
theorem TR.innerP {i : Nat} {x : List Int} : ∀ (ys : Pol) (j : Nat) {c : Pol}, TR c → TR (LW.innerP i x j ys c)
  | [], j, c, h => h
  | y :: ys, j, c, h => by
    unfold LW.innerP
    exact TR.innerP ys (j + 1) (h.addAtP _ _)
theorem TR.outerP {b : Pol} : ∀ (xs : Pol) (i : Nat) {c : Pol}, TR c → TR (LW.outerP b i xs c)
  | [], i, c, h => h
  | x :: xs, i, c, h => by
    unfold LW.outerP
    exact TR.outerP xs (i + 1) (TR.innerP b 0 h)
theorem TR.zeros (n : Nat) : TR (List.replicate n []) := fun r hr => by rw [List.eq_of_mem_replicate hr]; rfl
theorem ps_addAtP {c : Pol} {k : Nat} {v : List Int} (h : k < c.length) : ps (addAtP c k v) = ps c + (PS.X : PS (PS Int)) ^ k * PS.con (rs v) := by
  unfold ps addAtP
  rw [PS.sr_set h, rs_trim, rs_addP]
  congr 2
  congr 1
  grind
theorem ps_innerP {i : Nat} {x : List Int} : ∀ (ys : Pol) (j : Nat) (c : Pol), i + j + ys.length ≤ c.length → ps (innerP i x j ys c) = ps c + (PS.X : PS (PS Int)) ^ (i + j) * PS.con (rs x) * ps ys
  | [], j, c, _ => by
    show ps c = _
    rw [ps_nil]; grind
  | y :: ys, j, c, h => by
    rw [List.length_cons] at h
    unfold innerP
    rw [ps_innerP ys (j + 1) _ (by rw [addAtP_len]; omega), ps_addAtP (by omega), ps_cons, rs_mulP, PS.con_mul, show i + (j + 1) = (i + j) + 1 by omega]
    grind
theorem ps_outerP {b : Pol} : ∀ (xs : Pol) (i : Nat) (c : Pol), (xs = [] ∨ i + xs.length + b.length ≤ c.length + 1) → ps (outerP b i xs c) = ps c + (PS.X : PS (PS Int)) ^ i * ps xs * ps b
  | [], i, c, _ => by
    show ps c = _
    rw [ps_nil]; grind
  | x :: xs, i, c, h => by
    have h : i + (xs.length + 1) + b.length ≤ c.length + 1 := by
      rcases h with h | h
      · cases h
      · simpa using h
    unfold outerP
    rw [ps_outerP xs (i + 1) _ (by right; rw [innerP_len]; omega), ps_innerP b 0 c (by omega), ps_cons]
    grind
def mulPP (P Q : Pol) : Pol := trimP (outerP Q 0 P (List.replicate (P.length + Q.length) []))
theorem mulPP_TP (P Q : Pol) : TP (mulPP P Q) := (TR.outerP P 0 (TR.zeros _)).trimP
theorem ps_mulPP (P Q : Pol) : ps (mulPP P Q) = ps P * ps Q := by
  unfold mulPP
  rw [ps_trim, ps_outerP _ _ _ (by right; rw [List.length_replicate]; omega), ps_zeros]
  grind
theorem mulPP_comm (P Q : Pol) : mulPP P Q = mulPP Q P := pol_ext (mulPP_TP P Q) (mulPP_TP Q P) (by rw [ps_mulPP, ps_mulPP]; grind)
/-- a polynomial times a row -/
def rowP (P : Pol) (r : List Int) : Pol := trimP (P.map (mulP · r))
theorem rowP_TP (P : Pol) (r : List Int) : TP (rowP P r) := TR.trimP fun x hx => by
  obtain ⟨y, _, rfl⟩ := List.mem_map.mp hx
  exact mulP_trim _ _
theorem ps_rowP (P : Pol) (r : List Int) : ps (rowP P r) = ps P * PS.con (rs r) := by
  unfold rowP
  rw [ps_trim]
  have := PS.sr_map (φ := rs) (z := ([] : List Int)) (ψ := rs) (w := ([] : List Int)) (f := (mulP · r)) (c := rs r) rs_nil rs_nil (fun b => by rw [rs_mulP]; grind) P
  unfold ps
  rw [this]; grind
def shiftP (P : Pol) (k : Nat) : Pol := if P = [] then [] else List.replicate k [] ++ P
theorem ps_shiftP (P : Pol) (k : Nat) : ps (shiftP P k) = (PS.X : PS (PS Int)) ^ k * ps P := by
  unfold shiftP
  split
  · rename_i h
    rw [h, ps_nil]; grind
  · rw [ps_app, ps_zeros, List.length_replicate]; grind
theorem TR.shiftP {P : Pol} (h : TR P) (k : Nat) : TR (LW.shiftP P k) := by
  unfold LW.shiftP
  split
  · exact TP.nil.2
  · intro r hr
    rcases List.mem_append.mp hr with hr | hr
    · exact TR.zeros k r hr
    · exact h r hr
/-- the program's product: rows of the second one, one by one -/
def prodP (P : Pol) : Nat → Pol → Pol → Pol
  | _, [], c => c
  | i, x :: xs, c => prodP P (i + 1) xs (sumPP c (shiftP (rowP P x) i))
theorem prodP_TP {P : Pol} : ∀ (Q : Pol) (i : Nat) {c : Pol}, TP c → TP (prodP P i Q c)
  | [], i, c, h => h
  | x :: xs, i, c, h => by
    unfold prodP
    exact prodP_TP xs (i + 1) (sumPP_TP h.2 ((rowP_TP P x).2.shiftP i))
theorem ps_prodP {P : Pol} : ∀ (Q : Pol) (i : Nat) (c : Pol), ps (prodP P i Q c) = ps c + (PS.X : PS (PS Int)) ^ i * ps P * ps Q
  | [], i, c => by
    show ps c = _
    rw [ps_nil]; grind
  | x :: xs, i, c => by
    unfold prodP
    rw [ps_prodP xs, ps_sumPP, ps_shiftP, ps_rowP, ps_cons]; grind
theorem prodP_eq (P Q : Pol) : prodP P 0 Q [] = mulPP P Q := pol_ext (prodP_TP Q 0 TP.nil) (mulPP_TP P Q) (by rw [ps_prodP, ps_mulPP, ps_nil]; grind)
theorem rowP_eq (P : Pol) (r : List Int) : rowP P r = mulPP P [r] := pol_ext (rowP_TP P r) (mulPP_TP P [r]) (by rw [ps_rowP, ps_mulPP, ps_cons, ps_nil]; grind)
end LW
/-! MR5: letters exchanged, derivatives, values at two fractions. -/
namespace LW
open Lean.Grind
theorem ev_congr {q : Rat} {a b : List Int} (h : rs a = rs b) : ev q a = ev q b := by
  rw [← ev_trim q a, trim_eq h, ev_trim]
/-- the value at a place -/
def ev2 (x y : Rat) : Pol → Rat
  | [] => 0
  | r :: P => ev x r + y * ev2 x y P
theorem ev2_zero {x y : Rat} : ∀ {P : Pol}, ps P = 0 → ev2 x y P = 0
  | [], _ => rfl
  | r :: P, h => by
    have hx : rs r = rs [] := by
      rw [rs_nil]
      have := congrArg (fun f => f.at_ 0) h
      simpa [ps_at] using this
    have ht : ps P = 0 := PS.ext fun k => by
      have := congrArg (fun f => f.at_ (k + 1)) h
      simpa [ps_at] using this
    show ev x r + y * ev2 x y P = 0
    rw [ev2_zero ht, ev_congr hx]
    show (0 : Rat) + y * 0 = 0
    grind
theorem ev2_congr {x y : Rat} : ∀ {P Q : Pol}, ps P = ps Q → ev2 x y P = ev2 x y Q
  | [], Q, h => by rw [ps_nil] at h; rw [ev2_zero h.symm]; rfl
  | r :: P, [], h => by rw [ps_nil] at h; rw [ev2_zero h]; rfl
  | r :: P, s :: Q, h => by
    have hx : rs r = rs s := by
      have := congrArg (fun f => f.at_ 0) h
      simpa [ps_at] using this
    have ht : ps P = ps Q := PS.ext fun k => by
      have := congrArg (fun f => f.at_ (k + 1)) h
      simpa [ps_at] using this
    show ev x r + y * ev2 x y P = ev x s + y * ev2 x y Q
    rw [ev2_congr ht, ev_congr hx]
theorem ev2_trim {x y : Rat} {P : Pol} : ev2 x y (trimP P) = ev2 x y P := ev2_congr (ps_trim P)
theorem ev2_addPP {x y : Rat} (P Q : Pol) : ev2 x y (addPP P Q) = ev2 x y P + ev2 x y Q := by
  induction P generalizing Q with
  | nil => show ev2 x y Q = 0 + ev2 x y Q; grind
  | cons r P ih =>
    cases Q with
    | nil => show ev2 x y (r :: P) = ev2 x y (r :: P) + 0; grind
    | cons s Q =>
      show ev x (trim (addP r s)) + y * ev2 x y (addPP P Q) = (ev x r + y * ev2 x y P) + (ev x s + y * ev2 x y Q)
      rw [ih, ev_trim, ev_addP]; grind
theorem ev2_sumPP {x y : Rat} (P Q : Pol) : ev2 x y (sumPP P Q) = ev2 x y P + ev2 x y Q := by unfold sumPP; rw [ev2_trim, ev2_addPP]
theorem ev2_set {x y : Rat} {l : Pol} {k : Nat} {v : List Int} (h : k < l.length) : ev2 x y (l.set k v) = ev2 x y l + y ^ k * (ev x v - ev x (l.getD k [])) := by
  induction l generalizing k with
  | nil => cases h
  | cons r P ih =>
    cases k with
    | zero =>
      show ev x v + y * ev2 x y P = (ev x r + y * ev2 x y P) + y ^ 0 * (ev x v - ev x r)
      grind
    | succ k =>
      show ev x r + y * ev2 x y (P.set k v) = (ev x r + y * ev2 x y P) + y ^ (k + 1) * (ev x v - ev x (P.getD k []))
      rw [ih (by simpa using h)]
      grind
theorem ev2_addAtP {x y : Rat} {c : Pol} {k : Nat} {v : List Int} (h : k < c.length) : ev2 x y (addAtP c k v) = ev2 x y c + y ^ k * ev x v := by
  unfold addAtP
  rw [ev2_set h, ev_trim, ev_addP]; grind
theorem ev2_innerP {x y : Rat} {i : Nat} {r : List Int} : ∀ (Q : Pol) (j : Nat) (c : Pol), i + j + Q.length ≤ c.length → ev2 x y (innerP i r j Q c) = ev2 x y c + y ^ (i + j) * ev x r * ev2 x y Q
  | [], j, c, _ => by show ev2 x y c = ev2 x y c + y ^ (i + j) * ev x r * 0; grind
  | s :: Q, j, c, h => by
    rw [List.length_cons] at h
    unfold innerP
    rw [ev2_innerP Q (j + 1) _ (by rw [addAtP_len]; omega), ev2_addAtP (by omega), ev_mulP, show i + (j + 1) = (i + j) + 1 by omega]
    show _ = ev2 x y c + y ^ (i + j) * ev x r * (ev x s + y * ev2 x y Q)
    grind
theorem ev2_outerP {x y : Rat} {Q : Pol} : ∀ (P : Pol) (i : Nat) (c : Pol), (P = [] ∨ i + P.length + Q.length ≤ c.length + 1) → ev2 x y (outerP Q i P c) = ev2 x y c + y ^ i * ev2 x y P * ev2 x y Q
  | [], i, c, _ => by show ev2 x y c = ev2 x y c + y ^ i * 0 * ev2 x y Q; grind
  | r :: P, i, c, h => by
    have h : i + (P.length + 1) + Q.length ≤ c.length + 1 := by
      rcases h with h | h
      · cases h
      · simpa using h
    unfold outerP
    rw [ev2_outerP P (i + 1) _ (by right; rw [innerP_len]; omega), ev2_innerP Q 0 c (by omega)]
    show _ = ev2 x y c + y ^ i * (ev x r + y * ev2 x y P) * ev2 x y Q
    grind
theorem ev2_zeros {x y : Rat} : ∀ n : Nat, ev2 x y (List.replicate n []) = 0
  | 0 => rfl
  | n + 1 => by
    rw [List.replicate_succ]
    show (0 : Rat) + y * ev2 x y (List.replicate n []) = 0
    rw [ev2_zeros n]; grind
theorem ev2_mulPP {x y : Rat} (P Q : Pol) : ev2 x y (mulPP P Q) = ev2 x y P * ev2 x y Q := by
  unfold mulPP
  rw [ev2_trim, ev2_outerP _ _ _ (by right; rw [List.length_replicate]; omega), ev2_zeros]
  grind
/-- the greatest length of a row -/
def wid (P : Pol) : Nat := P.foldl (fun m r => max m r.length) 0
theorem wid_le {P : Pol} {r : List Int} (h : r ∈ P) : r.length ≤ wid P := by
  have gen : ∀ (P : Pol) (m : Nat), (m ≤ P.foldl (fun m r => max m r.length) m) ∧ (r ∈ P → r.length ≤ P.foldl (fun m r => max m r.length) m) := by
    intro P
    induction P with
    | nil => intro m; exact ⟨Nat.le_refl _, fun h => by cases h⟩
    | cons s P ih =>
      intro m
      obtain ⟨h1, h2⟩ := ih (max m s.length)
      refine ⟨by rw [List.foldl_cons]; omega, fun h => ?_⟩
      rw [List.foldl_cons]
      rcases List.mem_cons.mp h with rfl | h
      · omega
      · exact h2 h
  exact (gen P 0).2 h
theorem wid_most {P : Pol} {n : Nat} (h : ∀ r ∈ P, r.length ≤ n) : wid P ≤ n := by
  have gen : ∀ (P : Pol) (m : Nat), (∀ r ∈ P, r.length ≤ n) → m ≤ n → P.foldl (fun m r => max m r.length) m ≤ n := by
    intro P
    induction P with
    | nil => intro m _ h; exact h
    | cons s P ih =>
      intro m h hm
      rw [List.foldl_cons]
      exact ih _ (fun r hr => h r (List.mem_cons_of_mem _ hr)) (by have := h s List.mem_cons_self; omega)
  exact gen P 0 h (Nat.zero_le _)
def col (P : Pol) (j : Nat) : List Int := P.map fun r => r.getD j 0
theorem col_getD (P : Pol) (j k : Nat) : (col P j).getD k 0 = (P.getD k []).getD j 0 := by
  unfold col
  rw [List.getD_eq_getElem?_getD, List.getElem?_map, List.getD_eq_getElem?_getD (l := P)]
  cases P[k]? with
  | none => rfl
  | some r => rfl
/-- letters exchanged -/
def exch (P : Pol) : Pol := trimP ((List.range (wid P)).map fun j => trim (col P j))
theorem exch_TP (P : Pol) : TP (exch P) := TR.trimP fun r hr => by
  obtain ⟨j, _, rfl⟩ := List.mem_map.mp hr
  exact trim_idem _
theorem ps_exch {P : Pol} {j k : Nat} : ((ps (exch P)).at_ j).at_ k = ((ps P).at_ k).at_ j := by
  unfold exch
  rw [ps_trim, ps_at, ps_at]
  by_cases hj : j < wid P
  · have e : ((List.range (wid P)).map fun j => trim (col P j)).getD j [] = trim (col P j) := by
      rw [List.getD_eq_getElem?_getD, List.getElem?_map, List.getElem?_range hj]; rfl
    rw [e, rs_trim, rs_at, rs_at, col_getD]
  · have e : ((List.range (wid P)).map fun j => trim (col P j)).getD j [] = [] := by
      rw [List.getD_eq_getElem?_getD, List.getElem?_eq_none (by rw [List.length_map, List.length_range]; omega)]; rfl
    rw [e, rs_at, rs_at]
    have : (P.getD k []).length ≤ j := by
      rw [List.getD_eq_getElem?_getD]
      by_cases hk : k < P.length
      · rw [List.getElem?_eq_getElem hk]
        have := wid_le (List.getElem_mem hk)
        show P[k].length ≤ j
        omega
      · rw [List.getElem?_eq_none (by omega)]; simp
    rw [List.getD_eq_getElem?_getD (l := P.getD k []), List.getElem?_eq_none this]
    simp
theorem exch_exch {P : Pol} (h : TP P) : exch (exch P) = P := pol_ext (exch_TP _) h (PS.ext fun j => PS.ext fun k => by rw [ps_exch, ps_exch])
def consCol : List Int → Pol → Pol
  | [], Q => Q.map (0 :: ·)
  | r :: a, [] => [r] :: consCol a []
  | r :: a, q :: Q => (r :: q) :: consCol a Q
theorem ev2_consCol {x y : Rat} : ∀ (a : List Int) (Q : Pol), ev2 y x (consCol a Q) = ev x a + y * ev2 y x Q
  | [], [] => by show (0 : Rat) = 0 + y * 0; grind
  | [], q :: Q => by
    have := ev2_consCol (x := x) (y := y) [] Q
    show ((0 : Int) : Rat) + y * ev y q + x * ev2 y x (consCol [] Q) = 0 + y * (ev y q + x * ev2 y x Q)
    rw [this, show ((0 : Int) : Rat) = 0 from rfl, show ev x [] = 0 from rfl]; grind
  | r :: a, [] => by
    have := ev2_consCol (x := x) (y := y) a []
    show ((r : Rat) + y * 0) + x * ev2 y x (consCol a []) = ((r : Rat) + x * ev x a) + y * 0
    rw [this, show ev2 y x [] = 0 from rfl]; grind
  | r :: a, q :: Q => by
    have := ev2_consCol (x := x) (y := y) a Q
    show ((r : Rat) + y * ev y q) + x * ev2 y x (consCol a Q) = ((r : Rat) + x * ev x a) + y * (ev y q + x * ev2 y x Q)
    rw [this]; grind
theorem consCol_at : ∀ (a : List Int) (Q : Pol) (j : Nat), ((consCol a Q).getD j []).getD 0 0 = a.getD j 0 ∧ ∀ k, ((consCol a Q).getD j []).getD (k + 1) 0 = (Q.getD j []).getD k 0
  | [], Q, j => by
    show ((Q.map (0 :: ·)).getD j []).getD 0 0 = 0 ∧ ∀ k, ((Q.map (0 :: ·)).getD j []).getD (k + 1) 0 = (Q.getD j []).getD k 0
    rw [List.getD_eq_getElem?_getD (l := Q.map (0 :: ·)), List.getElem?_map, List.getD_eq_getElem?_getD (l := Q)]
    cases Q[j]? with
    | none => exact ⟨rfl, fun k => rfl⟩
    | some r => exact ⟨rfl, fun k => rfl⟩
  | r :: a, [], 0 => ⟨rfl, fun k => rfl⟩
  | r :: a, [], j + 1 => consCol_at a [] j
  | r :: a, q :: Q, 0 => ⟨rfl, fun k => rfl⟩
  | r :: a, q :: Q, j + 1 => consCol_at a Q j
def exch' : Pol → Pol
  | [] => []
  | r :: P => consCol r (exch' P)
theorem exch'_at : ∀ (P : Pol) (j k : Nat), ((exch' P).getD j []).getD k 0 = (P.getD k []).getD j 0
  | [], j, k => by simp [exch']
  | r :: P, j, 0 => (consCol_at r (exch' P) j).1
  | r :: P, j, k + 1 => ((consCol_at r (exch' P) j).2 k).trans (exch'_at P j k)
theorem ev2_exch {x y : Rat} (P : Pol) : ev2 y x (exch P) = ev2 x y P := by
  have e : ps (exch P) = ps (exch' P) := PS.ext fun j => PS.ext fun k => by
    rw [ps_exch, ps_at, ps_at, rs_at, rs_at, exch'_at]
  rw [ev2_congr e]
  clear e
  induction P with
  | nil => rfl
  | cons r P ih =>
    show ev2 y x (consCol r (exch' P)) = ev x r + y * ev2 x y P
    rw [ev2_consCol, ih]
/-- bounds -/
def PB (M : Nat) (P : Pol) : Prop := ∀ r ∈ P, BM M r
def PL (n : Nat) (P : Pol) : Prop := ∀ r ∈ P, r.length ≤ n
theorem BM.up {M N : Nat} {a : List Int} (h : BM M a) (hM : M ≤ N) : BM N a := fun x hx => Nat.le_trans (h x hx) hM
theorem BM.trim {M : Nat} {a : List Int} (h : BM M a) : BM M (LW.trim a) := fun x hx => h x (trim_mem hx)
theorem BM.addP {A B : Nat} {a b : List Int} (ha : BM A a) (hb : BM B b) : BM (A + B) (LW.addP a b) := by
  intro x hx
  obtain ⟨k, hk, e⟩ := List.getElem_of_mem hx
  have := addP_get a b k (by rwa [addP_len] at hk)
  rw [List.getElem?_eq_getElem hk, e] at this
  cases this
  have h1 := ha.getD k
  have h2 := hb.getD k
  have := Int.natAbs_add_le (a.getD k 0) (b.getD k 0)
  omega
theorem PB.up {M N : Nat} {P : Pol} (h : PB M P) (hM : M ≤ N) : PB N P := fun r hr => (h r hr).up hM
theorem PB.trimP {M : Nat} {P : Pol} (h : PB M P) : PB M (LW.trimP P) := fun r hr => h r (trimP_mem hr)
theorem PL.trimP {n : Nat} {P : Pol} (h : PL n P) : PL n (LW.trimP P) := fun r hr => h r (trimP_mem hr)
theorem PL.up {n m : Nat} {P : Pol} (h : PL n P) (hm : n ≤ m) : PL m P := fun r hr => Nat.le_trans (h r hr) hm
theorem PB.getD {M : Nat} {P : Pol} (h : PB M P) (k : Nat) : BM M (P.getD k []) := by
  rw [List.getD_eq_getElem?_getD]
  by_cases hk : k < P.length
  · rw [List.getElem?_eq_getElem hk]
    exact h _ (List.getElem_mem hk)
  · rw [List.getElem?_eq_none (by omega)]
    intro x hx; cases hx
theorem PL.getD {n : Nat} {P : Pol} (h : PL n P) (k : Nat) : (P.getD k []).length ≤ n := by
  rw [List.getD_eq_getElem?_getD]
  by_cases hk : k < P.length
  · rw [List.getElem?_eq_getElem hk]
    exact h _ (List.getElem_mem hk)
  · rw [List.getElem?_eq_none (by omega)]
    simp
theorem PB.addPP {A B : Nat} : ∀ {P Q : Pol}, PB A P → PB B Q → PB (A + B) (LW.addPP P Q)
  | [], Q, _, hQ => hQ.up (by omega)
  | x :: xs, [], hP, _ => hP.up (by omega)
  | x :: xs, y :: ys, hP, hQ => fun r hr => by
    rcases List.mem_cons.mp hr with rfl | hr
    · exact ((hP x List.mem_cons_self).addP (hQ y List.mem_cons_self)).trim
    · exact PB.addPP (fun r hr => hP r (List.mem_cons_of_mem _ hr)) (fun r hr => hQ r (List.mem_cons_of_mem _ hr)) r hr
theorem PL.addPP {n : Nat} : ∀ {P Q : Pol}, PL n P → PL n Q → PL n (LW.addPP P Q)
  | [], Q, _, hQ => hQ
  | x :: xs, [], hP, _ => hP
  | x :: xs, y :: ys, hP, hQ => fun r hr => by
    rcases List.mem_cons.mp hr with rfl | hr
    · have h1 := trim_len (addP x y)
      have h2 := hP x List.mem_cons_self
      have h3 := hQ y List.mem_cons_self
      rw [addP_len] at h1
      omega
    · exact PL.addPP (fun r hr => hP r (List.mem_cons_of_mem _ hr)) (fun r hr => hQ r (List.mem_cons_of_mem _ hr)) r hr
theorem PB.addAtP {M L : Nat} {c : Pol} {k : Nat} {v : List Int} (h : PB M c) (hv : BM L v) : PB (M + L) (LW.addAtP c k v) := fun r hr => by
  unfold LW.addAtP at hr
  rcases List.mem_or_eq_of_mem_set hr with hr | rfl
  · exact (h r hr).up (by omega)
  · exact ((h.getD k).addP hv).trim
theorem PL.addAtP {n : Nat} {c : Pol} {k : Nat} {v : List Int} (h : PL n c) (hv : v.length ≤ n) : PL n (LW.addAtP c k v) := fun r hr => by
  unfold LW.addAtP at hr
  rcases List.mem_or_eq_of_mem_set hr with hr | rfl
  · exact h r hr
  · have h1 := trim_len (addP (c.getD k []) v)
    have h2 := h.getD k
    rw [addP_len] at h1
    omega
theorem PB.innerP {i : Nat} {x : List Int} {M A B n : Nat} (hx : BM A x) (lx : x.length ≤ n) : ∀ {ys : Pol} {j : Nat} {c : Pol}, PB B ys → PL n ys → PB M c → PB (M + ys.length * (n * (n * (A * B)))) (LW.innerP i x j ys c)
  | [], j, c, _, _, h => by simpa [LW.innerP] using h
  | y :: ys, j, c, hy, ly, h => by
    unfold LW.innerP
    have hxy := hx.mulP (hy y List.mem_cons_self)
    have hl : x.length * (y.length * (A * B)) ≤ n * (n * (A * B)) := Nat.mul_le_mul lx (Nat.mul_le_mul_right _ (ly y List.mem_cons_self))
    refine (PB.innerP (i := i) (j := j + 1) hx lx (fun z hz => hy z (List.mem_cons_of_mem _ hz)) (fun z hz => ly z (List.mem_cons_of_mem _ hz)) (h.addAtP (k := i + j) (hxy.up hl))).up ?_
    rw [List.length_cons, Nat.succ_mul]
    omega
theorem PB.outerP {b : Pol} {M A B n : Nat} (hb : PB B b) (lb : PL n b) : ∀ {xs : Pol} {i : Nat} {c : Pol}, PB A xs → PL n xs → PB M c → PB (M + xs.length * (b.length * (n * (n * (A * B))))) (LW.outerP b i xs c)
  | [], i, c, _, _, h => by simpa [LW.outerP] using h
  | x :: xs, i, c, ha, la, h => by
    unfold LW.outerP
    refine (PB.outerP hb lb (i := i + 1) (fun z hz => ha z (List.mem_cons_of_mem _ hz)) (fun z hz => la z (List.mem_cons_of_mem _ hz)) (PB.innerP (i := i) (j := 0) (ha x List.mem_cons_self) (la x List.mem_cons_self) hb lb h)).up ?_
    rw [List.length_cons, Nat.succ_mul]
    omega
theorem PB.mulPP {P Q : Pol} {A B n : Nat} (hP : PB A P) (hQ : PB B Q) (lP : PL n P) (lQ : PL n Q) : PB (P.length * (Q.length * (n * (n * (A * B))))) (LW.mulPP P Q) := by
  have z : PB 0 (List.replicate (P.length + Q.length) []) := fun r hr => by rw [List.eq_of_mem_replicate hr]; intro x hx; cases hx
  have := (PB.outerP (i := 0) hQ lQ hP lP z).trimP
  rw [Nat.zero_add] at this
  exact this
theorem PL.innerP {i : Nat} {x : List Int} {n m : Nat} (lx : x.length ≤ n) (hm : n + n ≤ m + 1) : ∀ {ys : Pol} {j : Nat} {c : Pol}, PL n ys → PL m c → PL m (LW.innerP i x j ys c)
  | [], j, c, _, h => h
  | y :: ys, j, c, ly, h => by
    unfold LW.innerP
    have := mulP_len x y
    have := ly y List.mem_cons_self
    exact PL.innerP lx hm (fun z hz => ly z (List.mem_cons_of_mem _ hz)) (h.addAtP (by omega))
theorem PL.outerP {b : Pol} {n m : Nat} (lb : PL n b) (hm : n + n ≤ m + 1) : ∀ {xs : Pol} {i : Nat} {c : Pol}, PL n xs → PL m c → PL m (LW.outerP b i xs c)
  | [], i, c, _, h => h
  | x :: xs, i, c, la, h => by
    unfold LW.outerP
    exact PL.outerP lb hm (fun z hz => la z (List.mem_cons_of_mem _ hz)) (PL.innerP (la x List.mem_cons_self) hm lb h)
theorem PL.mulPP {P Q : Pol} {n m : Nat} (lP : PL n P) (lQ : PL n Q) (hm : n + n ≤ m + 1) : PL m (LW.mulPP P Q) := by
  have z : PL m (List.replicate (P.length + Q.length) []) := fun r hr => by rw [List.eq_of_mem_replicate hr]; simp
  exact (PL.outerP (i := 0) lQ hm lP z).trimP
theorem mulPP_len (P Q : Pol) : (mulPP P Q).length ≤ P.length + Q.length := by
  unfold mulPP
  have := trimP_len (outerP Q 0 P (List.replicate (P.length + Q.length) []))
  rwa [outerP_len, List.length_replicate] at this
theorem col_BM {P : Pol} {M : Nat} (h : PB M P) (j : Nat) : BM M (col P j) := fun x hx => by
  obtain ⟨r, hr, rfl⟩ := List.mem_map.mp hx
  exact (h r hr).getD j
theorem PB.exch {P : Pol} {M : Nat} (h : PB M P) : PB M (LW.exch P) := PB.trimP fun r hr => by
  obtain ⟨j, _, rfl⟩ := List.mem_map.mp hr
  exact (col_BM h j).trim
theorem PL.exch {P : Pol} {n : Nat} (h : P.length ≤ n) : PL n (LW.exch P) := PL.trimP fun r hr => by
  obtain ⟨j, _, rfl⟩ := List.mem_map.mp hr
  have := trim_len (col P j)
  unfold col at this
  rw [List.length_map] at this
  exact Nat.le_trans this h
theorem exch_len {P : Pol} {n : Nat} (h : PL n P) : (exch P).length ≤ n := by
  have := trimP_len ((List.range (wid P)).map fun j => trim (col P j))
  rw [List.length_map, List.length_range] at this
  exact Nat.le_trans this (wid_most h)
/-- the derivative in y -/
def ledF : Nat → Pol → Pol
  | _, [] => []
  | k, r :: P => trim (r.map ((k : Int) * ·)) :: ledF (k + 1) P
def led (P : Pol) : Pol := trimP (ledF 1 (P.drop 1))
theorem ledF_len : ∀ (k : Nat) (P : Pol), (ledF k P).length = P.length
  | _, [] => rfl
  | k, r :: P => by simp [ledF, ledF_len (k + 1) P]
theorem ledF_get : ∀ (i : Nat) (P : Pol) (k : Nat), (ledF i P)[k]? = P[k]?.map fun r => trim (r.map (((i + k : Nat) : Int) * ·))
  | i, [], k => by simp [ledF]
  | i, r :: P, 0 => by simp [ledF]
  | i, r :: P, k + 1 => by
    have := ledF_get (i + 1) P k
    simp only [ledF, List.getElem?_cons_succ]
    rw [this, show i + 1 + k = i + (k + 1) by omega]
theorem led_TP (P : Pol) : TP (led P) := TR.trimP fun r hr => by
  obtain ⟨k, hk, e⟩ := List.getElem_of_mem hr
  have := ledF_get 1 (P.drop 1) k
  rw [List.getElem?_eq_getElem hk, e] at this
  rw [ledF_len] at hk
  rw [List.getElem?_eq_getElem hk] at this
  cases this
  exact trim_idem _
theorem PB.led {P : Pol} {M N : Nat} (h : PB M P) (hl : P.length ≤ N) : PB (N * M) (LW.led P) := PB.trimP fun r hr => by
  obtain ⟨k, hk, e⟩ := List.getElem_of_mem hr
  have := ledF_get 1 (P.drop 1) k
  rw [List.getElem?_eq_getElem hk, e] at this
  rw [ledF_len] at hk
  rw [List.getElem?_eq_getElem hk] at this
  cases this
  refine BM.trim fun x hx => ?_
  obtain ⟨y, hy, rfl⟩ := List.mem_map.mp hx
  rw [List.length_drop] at hk
  show (((1 + k : Nat) : Int) * y).natAbs ≤ N * M
  rw [Int.natAbs_mul]
  exact Nat.mul_le_mul (by omega) (h _ (List.mem_of_mem_drop (List.getElem_mem _)) y hy)
theorem PL.led {P : Pol} {n : Nat} (h : PL n P) : PL n (LW.led P) := PL.trimP fun r hr => by
  obtain ⟨k, hk, e⟩ := List.getElem_of_mem hr
  have := ledF_get 1 (P.drop 1) k
  rw [List.getElem?_eq_getElem hk, e] at this
  rw [ledF_len] at hk
  rw [List.getElem?_eq_getElem hk] at this
  cases this
  have := trim_len ((P.drop 1)[k].map (((1 + k : Nat) : Int) * ·))
  rw [List.length_map] at this
  exact Nat.le_trans this (h _ (List.mem_of_mem_drop (List.getElem_mem _)))
theorem led_len (P : Pol) : (led P).length ≤ P.length := by
  unfold led
  have := trimP_len (ledF 1 (P.drop 1))
  rw [ledF_len, List.length_drop] at this
  omega
theorem RB.ev2 {kx ky m n : Nat} {x y : Rat} (hx : RB kx x) (hy : RB ky y) : ∀ {P : Pol}, PB (2 ^ m) P → PL n P → RB (P.length * (n * (kx + m + 1) + ky + 1)) (LW.ev2 x y P)
  | [], _, _ => by simpa [LW.ev2] using RB.zero
  | r :: P, h, l => by
    have h1 := RB.ev2 hx hy (P := P) (fun s hs => h s (List.mem_cons_of_mem _ hs)) (fun s hs => l s (List.mem_cons_of_mem _ hs))
    have h2 := RB.ev hx (h r List.mem_cons_self)
    have h3 : r.length * (kx + m + 1) ≤ n * (kx + m + 1) := Nat.mul_le_mul_right _ (l r List.mem_cons_self)
    refine (h2.add (hy.mul h1)).up ?_
    rw [List.length_cons, Nat.succ_mul]
    omega
end LW
/-! MR6: the least number under fractions. -/
namespace LW
/-- the least whole number that makes fractions whole, step by step -/
def und (qs : List Rat) : Nat := qs.foldl (fun f q => f / Nat.gcd f q.den * q.den) 1
theorem und_snoc (qs : List Rat) (q : Rat) : und (qs ++ [q]) = und qs / Nat.gcd (und qs) q.den * q.den := by
  unfold und
  rw [List.foldl_append]
  rfl
theorem und_le {K : Nat} : ∀ (qs : List Rat), (∀ q ∈ qs, RB K q) → und qs ≤ 2 ^ (qs.length * K) := by
  have gen : ∀ (n : Nat) (qs : List Rat), qs.length = n → (∀ q ∈ qs, RB K q) → und qs ≤ 2 ^ (qs.length * K) := by
    intro n
    induction n with
    | zero => intro qs h _; rw [List.length_eq_zero_iff.mp h]; show 1 ≤ 2 ^ (0 * K); rw [Nat.zero_mul]; exact Nat.le_refl _
    | succ n ih =>
      intro qs h hq
      rcases List.eq_nil_or_concat qs with e | ⟨l, z, e⟩
      · subst e; simp at h
      · rw [List.concat_eq_append] at e
        subst e
        have h1 := ih l (by simpa using h) fun q hq' => hq q (List.mem_append_left _ hq')
        have h2 := (hq z (by simp)).2
        rw [und_snoc, List.length_append, List.length_singleton, Nat.succ_mul, Nat.pow_add]
        exact Nat.mul_le_mul (Nat.le_trans (Nat.div_le_self _ _) h1) h2
  exact fun qs => gen _ qs rfl
theorem und_law (f e : Nat) : f / Nat.gcd f e * e = f * e / Nat.gcd f e := by
  obtain ⟨c, hc⟩ := Nat.gcd_dvd_left f e
  by_cases h0 : Nat.gcd f e = 0
  · rw [h0]; simp
  · have hp : 0 < Nat.gcd f e := Nat.pos_of_ne_zero h0
    rw [Nat.mul_comm f e, Nat.mul_div_assoc e (Nat.gcd_dvd_left f e), Nat.mul_comm]
def vals (P : Pol) (x : Rat) : List Rat := P.map (ev x)
/-- the row of the values, cleared -/
def clr (P : Pol) (x : Rat) : List Int := (vals P x).map fun q => q.num * ((und (vals P x) : Int) / (q.den : Int))
theorem vals_RB {P : Pol} {x : Rat} {k m n : Nat} (hx : RB k x) (hP : PB (2 ^ m) P) (hl : PL n P) : ∀ q ∈ vals P x, RB (n * (k + m + 1)) q := by
  intro q hq
  obtain ⟨r, hr, rfl⟩ := List.mem_map.mp hq
  exact (hx.ev (hP r hr)).up (Nat.mul_le_mul_right _ (hl r hr))
theorem clr_BM {P : Pol} {x : Rat} {K : Nat} (h : ∀ q ∈ vals P x, RB K q) : BM (2 ^ (K + P.length * K)) (clr P x) := by
  intro y hy
  obtain ⟨q, hq, rfl⟩ := List.mem_map.mp hy
  have h1 := und_le _ h
  unfold vals at h1
  rw [List.length_map] at h1
  have h2 := (h q hq).1
  have h3 : ((und (vals P x) : Int) / (q.den : Int)).natAbs ≤ und (vals P x) := by
    have := Int.natAbs_ediv_le_natAbs (und (vals P x) : Int) (q.den : Int)
    simpa using this
  show (q.num * ((und (vals P x) : Int) / (q.den : Int))).natAbs ≤ _
  rw [Int.natAbs_mul, Nat.pow_add]
  exact Nat.mul_le_mul h2 (Nat.le_trans h3 h1)
end LW
/-! MF: polynomial functions of a whole number; the row through values. -/
namespace LW
def hv (x : Int) : List Int → Int
  | [] => 0
  | c :: r => c + x * hv x r
def addL : List Int → List Int → List Int
  | [], b => b
  | a, [] => a
  | x :: a, y :: b => (x + y) :: addL a b
theorem hv_addL {x : Int} : ∀ a b : List Int, hv x (addL a b) = hv x a + hv x b
  | [], b => by simp [addL, hv]
  | x :: a, [] => by simp [addL, hv]
  | u :: a, v :: b => by
    show (u + v) + x * hv x (addL a b) = (u + x * hv x a) + (v + x * hv x b)
    rw [hv_addL a b]
    grind
theorem addL_len : ∀ a b : List Int, (addL a b).length ≤ max a.length b.length
  | [], b => by simp [addL]
  | x :: a, [] => by simp [addL]
  | u :: a, v :: b => by
    have := addL_len a b
    simp only [addL, List.length_cons]
    omega
theorem hv_scl {x k : Int} : ∀ a : List Int, hv x (a.map (k * ·)) = k * hv x a
  | [] => by simp [hv]
  | c :: r => by
    show k * c + x * hv x (r.map (k * ·)) = k * (c + x * hv x r)
    rw [hv_scl r]
    grind
def mulL : List Int → List Int → List Int
  | [], _ => []
  | x :: a, b => addL (b.map (x * ·)) (0 :: mulL a b)
theorem hv_mulL {x : Int} (b : List Int) : ∀ a : List Int, hv x (mulL a b) = hv x a * hv x b
  | [] => by simp [mulL, hv]
  | c :: r => by
    show hv x (addL (b.map (c * ·)) (0 :: mulL r b)) = (c + x * hv x r) * hv x b
    rw [hv_addL, hv_scl]
    show c * hv x b + (0 + x * hv x (mulL r b)) = _
    rw [hv_mulL b r]
    grind
theorem mulL_len (b : List Int) : ∀ a : List Int, (mulL a b).length ≤ a.length + (b.length - 1)
  | [] => Nat.zero_le _
  | c :: r => by
    have h1 := addL_len (b.map (c * ·)) (0 :: mulL r b)
    have h2 := mulL_len b r
    rw [List.length_map, List.length_cons] at h1
    show (addL (b.map (c * ·)) (0 :: mulL r b)).length ≤ _
    rw [List.length_cons]
    omega
/-- a polynomial function of degree up to n -/
def IsP (n : Nat) (f : Int → Int) : Prop := ∃ a : List Int, a.length ≤ n + 1 ∧ ∀ x, f x = hv x a
theorem IsP.zero {n : Nat} : IsP n fun _ => 0 := ⟨[], Nat.zero_le _, fun x => rfl⟩
theorem IsP.const {n : Nat} {c : Int} : IsP n fun _ => c := ⟨[c], by simp, fun x => by simp [hv]⟩
theorem IsP.up {n m : Nat} {f : Int → Int} (h : IsP n f) (hm : n ≤ m) : IsP m f := h.imp fun a q => ⟨by omega, q.2⟩
theorem IsP.add {n : Nat} {f g : Int → Int} (h : IsP n f) (k : IsP n g) : IsP n fun x => f x + g x := by
  obtain ⟨a, a1, a2⟩ := h
  obtain ⟨b, b1, b2⟩ := k
  exact ⟨addL a b, Nat.le_trans (addL_len a b) (by omega), fun x => by show f x + g x = _; rw [hv_addL, a2, b2]⟩
theorem IsP.mul {n m : Nat} {f g : Int → Int} (h : IsP n f) (k : IsP m g) : IsP (n + m) fun x => f x * g x := by
  obtain ⟨a, a1, a2⟩ := h
  obtain ⟨b, b1, b2⟩ := k
  exact ⟨mulL a b, Nat.le_trans (mulL_len b a) (by omega), fun x => by show f x * g x = _; rw [hv_mulL, a2, b2]⟩
theorem IsP.sum {n : Nat} {f : Int → Nat → Int} : ∀ {m : Nat}, (∀ i, i < m → IsP n fun x => f x i) → IsP n fun x => sumN m (f x)
  | 0, _ => IsP.zero
  | m + 1, h => (IsP.sum fun i hi => h i (by omega)).add (h m (by omega))
def sumW : Nat → (Nat → Nat) → Nat
  | 0, _ => 0
  | n + 1, w => sumW n w + w n
theorem sumW_congr {f g : Nat → Nat} : ∀ {n : Nat}, (∀ i, i < n → f i = g i) → sumW n f = sumW n g
  | 0, _ => rfl
  | n + 1, h => by
    show sumW n f + f n = sumW n g + g n
    rw [sumW_congr fun i hi => h i (by omega), h n (by omega)]
theorem sumW_skip {w : Nat → Nat} : ∀ {n i : Nat}, i < n + 1 → sumW (n + 1) w = w i + sumW n fun r => w (skip i r)
  | 0, i, h => by
    have : i = 0 := by omega
    subst this
    simp [sumW]
  | n + 1, i, h => by
    by_cases hi : i = n + 1
    · subst hi
      show sumW (n + 1) w + w (n + 1) = w (n + 1) + sumW (n + 1) _
      rw [sumW_congr (f := fun r => w (skip (n + 1) r)) (g := w) fun r hr => by
        have : skip (n + 1) r = r := by unfold skip; rw [if_pos hr]
        rw [this]]
      omega
    · have ih := sumW_skip (w := w) (n := n) (i := i) (by omega)
      show sumW (n + 1) w + w (n + 1) = w i + (sumW n (fun r => w (skip i r)) + w (skip i n))
      have : skip i n = n + 1 := by unfold skip; rw [if_neg (by omega)]
      rw [ih, this]
      omega
theorem det_IsP : ∀ {m : Nat} {w : Nat → Nat} {A : Int → Nat → Nat → Int}, (∀ r c, r < m → c < m → IsP (w r) fun x => A x r c) → IsP (sumW m w) fun x => det m (A x)
  | 0, w, A, _ => IsP.const
  | m + 1, w, A, h => by
    show IsP _ fun x => sumN (m + 1) fun i => sg i * A x i 0 * det m fun r c => A x (skip i r) (c + 1)
    refine IsP.sum fun i hi => ?_
    have h1 := h i 0 hi (by omega)
    have h2 := det_IsP (m := m) (w := fun r => w (skip i r)) (A := fun x r c => A x (skip i r) (c + 1)) fun r c hr hc => h (skip i r) (c + 1) (skip_lt hr) (by omega)
    rw [sumW_skip hi]
    have h3 := (IsP.const (n := 0) (c := sg i)).mul h1
    rw [Nat.zero_add] at h3
    exact h3.mul h2
/-! ### as many places as there are numbers -/
def syn (r : Int) : List Int → List Int
  | [] => []
  | _ :: a => hv r a :: syn r a
theorem hv_syn {r x : Int} : ∀ a : List Int, hv x a = (x - r) * hv x (syn r a) + hv r a
  | [] => by simp [syn, hv]
  | c :: a => by
    show c + x * hv x a = (x - r) * (hv r a + x * hv x (syn r a)) + (c + r * hv r a)
    have := hv_syn (r := r) (x := x) a
    grind
theorem syn_zero {r : Int} : ∀ {a : List Int}, (∀ y ∈ syn r a, y = 0) → hv r a = 0 → ∀ y ∈ a, y = 0
  | [], _, _, y, hy => by cases hy
  | c :: a, h, h0, y, hy => by
    have h1 : hv r a = 0 := h _ List.mem_cons_self
    have h2 : c + r * hv r a = 0 := h0
    rw [h1, Int.mul_zero, Int.add_zero] at h2
    rcases List.mem_cons.mp hy with rfl | hy
    · exact h2
    · exact syn_zero (fun z hz => h z (List.mem_cons_of_mem _ hz)) h1 y hy
theorem syn_len {r : Int} : ∀ a : List Int, (syn r a).length = a.length
  | [] => rfl
  | _ :: a => congrArg (· + 1) (syn_len a)
theorem syn_last {r : Int} {a : List Int} (h : a ≠ []) : ∃ b, syn r a = b ++ [0] := by
  induction a with
  | nil => exact absurd rfl h
  | cons c a ih =>
    cases a with
    | nil => exact ⟨[], rfl⟩
    | cons d a =>
      obtain ⟨b, hb⟩ := ih (by simp)
      exact ⟨hv r (d :: a) :: b, by show hv r (d :: a) :: syn r (d :: a) = _; rw [hb]; rfl⟩
theorem hv_snoc0 {x : Int} : ∀ b : List Int, hv x (b ++ [0]) = hv x b
  | [] => by simp [hv]
  | c :: b => by
    show c + x * hv x (b ++ [0]) = c + x * hv x b
    rw [hv_snoc0 b]
/-- nought at the places from lo on, as many as numbers -/
theorem zero_of : ∀ (n : Nat) {a : List Int} {lo : Int}, a.length ≤ n → (∀ i : Nat, i < n → hv (lo + i) a = 0) → ∀ y ∈ a, y = 0
  | 0, a, lo, hl, _ => by
    have : a = [] := List.length_eq_zero_iff.mp (by omega)
    subst this
    intro y hy
    cases hy
  | n + 1, a, lo, hl, h => by
    by_cases ha : a = []
    · subst ha
      intro y hy
      cases hy
    · obtain ⟨b, hb⟩ := syn_last (r := lo) ha
      have h0 : hv lo a = 0 := by
        have := h 0 (by omega)
        simpa using this
      have hbl : b.length ≤ n := by
        have := congrArg List.length hb
        rw [syn_len, List.length_append, List.length_singleton] at this
        omega
      have hz := zero_of n (a := b) (lo := lo + 1) hbl fun i hi => by
        have h1 := hv_syn (r := lo) (x := lo + ((i + 1 : Nat) : Int)) a
        rw [h (i + 1) (by omega), h0, hb, hv_snoc0, Int.add_zero] at h1
        have h2 : (lo + ((i + 1 : Nat) : Int) - lo) = ((i + 1 : Nat) : Int) := by omega
        rw [h2] at h1
        have h3 : hv (lo + ((i + 1 : Nat) : Int)) b = 0 := by
          rcases Int.mul_eq_zero.mp h1.symm with q | q
          · omega
          · exact q
        rw [show lo + 1 + (i : Int) = lo + ((i + 1 : Nat) : Int) by omega]
        exact h3
      refine syn_zero (r := lo) ?_ h0
      intro y hy
      rw [hb] at hy
      rcases List.mem_append.mp hy with hy | hy
      · exact hz y hy
      · exact List.mem_singleton.mp hy
/-! ### differences -/
def dl (v : Nat → Int) : Nat → Int := fun i => v (i + 1) - v i
def dn : Nat → (Nat → Int) → Nat → Int
  | 0, v => v
  | j + 1, v => dn j (dl v)
def bin : Nat → Nat → Int
  | _, 0 => 1
  | 0, _ + 1 => 0
  | n + 1, k + 1 => bin n k + bin n (k + 1)
theorem bin_zero (n : Nat) : bin n 0 = 1 := by cases n <;> rfl
theorem newton : ∀ (k : Nat) {N : Nat} {v : Nat → Int}, k ≤ N → v k = sumN (N + 1) fun j => bin k j * dn j v 0
  | 0, N, v, _ => by
    rw [sumN_head, sumN_zero fun i hi => by show bin 0 (i + 1) * _ = 0; exact Int.zero_mul _]
    show v 0 = bin 0 0 * v 0 + 0
    rw [bin_zero]
    omega
  | k + 1, N, v, h => by
    obtain ⟨M, rfl⟩ : ∃ M, N = M + 1 := ⟨N - 1, by omega⟩
    have h1 := newton k (N := M + 1) (v := v) (by omega)
    have h2 := newton k (N := M) (v := dl v) (by omega)
    have e : v (k + 1) = v k + dl v k := by unfold dl; omega
    rw [e, h1, h2, sumN_head (f := fun j => bin k j * dn j v 0) (M + 1), sumN_head (f := fun j => bin (k + 1) j * dn j v 0) (M + 1)]
    show bin k 0 * v 0 + sumN (M + 1) (fun j => bin k (j + 1) * dn j (dl v) 0) + sumN (M + 1) (fun j => bin k j * dn j (dl v) 0) = bin (k + 1) 0 * v 0 + sumN (M + 1) fun j => (bin k j + bin k (j + 1)) * dn j (dl v) 0
    rw [bin_zero, bin_zero]
    have l := sumN_lin (f := fun j => bin k (j + 1) * dn j (dl v) 0) (g := fun j => bin k j * dn j (dl v) 0) (x := 1) (y := 1) (M + 1)
    rw [sumN_congr (f := fun j => (bin k j + bin k (j + 1)) * dn j (dl v) 0) (g := fun j => 1 * (bin k (j + 1) * dn j (dl v) 0) + 1 * (bin k j * dn j (dl v) 0)) fun j hj => by grind, l]
    omega
def fac : Nat → Int
  | 0 => 1
  | n + 1 => fac n * (n + 1 : Nat)
theorem fac_pos : ∀ n, 0 < fac n
  | 0 => by decide
  | n + 1 => Int.mul_pos (fac_pos n) (by omega)
/-- k (k - 1) .. of j factors -/
def ffl (k : Int) : Nat → Int
  | 0 => 1
  | j + 1 => ffl k j * (k - j)
theorem ffl_succ {k : Int} : ∀ j : Nat, ffl (k + 1) (j + 1) = (k + 1) * ffl k j
  | 0 => by simp [ffl]
  | j + 1 => by
    show ffl (k + 1) (j + 1) * (k + 1 - ((j + 1 : Nat) : Int)) = (k + 1) * (ffl k j * (k - j))
    rw [ffl_succ j]
    have : k + 1 - ((j + 1 : Nat) : Int) = k - j := by omega
    rw [this]
    grind
theorem bin_fac : ∀ (k j : Nat), bin k j * fac j = ffl (k : Int) j
  | k, 0 => by rw [bin_zero]; rfl
  | 0, j + 1 => by
    show 0 * fac (j + 1) = ffl 0 (j + 1)
    have : ∀ j : Nat, ffl 0 (j + 1) = 0 := fun j => by
      induction j with
      | zero => rfl
      | succ j ih =>
        show ffl 0 (j + 1) * (0 - ((j + 1 : Nat) : Int)) = 0
        rw [ih, Int.zero_mul]
    rw [this, Int.zero_mul]
  | k + 1, j + 1 => by
    show (bin k j + bin k (j + 1)) * (fac j * ((j + 1 : Nat) : Int)) = ffl (((k + 1 : Nat)) : Int) (j + 1)
    have h1 := bin_fac k j
    have h2 := bin_fac k (j + 1)
    have e : (((k + 1 : Nat)) : Int) = (k : Int) + 1 := by omega
    rw [e, ffl_succ]
    have h3 : bin k (j + 1) * (fac j * ((j + 1 : Nat) : Int)) = ffl (k : Int) j * (k - j) := h2
    have e2 : ((j + 1 : Nat) : Int) = (j : Int) + 1 := by omega
    rw [e2] at h3 ⊢
    grind
theorem addL_getD : ∀ (a b : List Int) (i : Nat), (addL a b).getD i 0 = a.getD i 0 + b.getD i 0
  | [], b, i => by simp [addL]
  | x :: a, [], i => by simp [addL]
  | x :: a, y :: b, 0 => by simp [addL]
  | x :: a, y :: b, i + 1 => by
    have := addL_getD a b i
    simp only [List.getD_eq_getElem?_getD] at this
    simp [addL, List.getD_eq_getElem?_getD, this]
theorem zero_getD {a : List Int} (h : ∀ y ∈ a, y = 0) (i : Nat) : a.getD i 0 = 0 := by
  rw [List.getD_eq_getElem?_getD]
  cases hi : a[i]? with
  | none => rfl
  | some y => exact h y (List.mem_of_getElem? hi)
theorem scl_getD {k : Int} (a : List Int) (i : Nat) : (a.map (k * ·)).getD i 0 = k * a.getD i 0 := by
  rw [List.getD_eq_getElem?_getD, List.getD_eq_getElem?_getD, List.getElem?_map]
  cases a[i]? <;> simp
/-- rows that agree at as many places as they have numbers are one -/
theorem coef_eq {N : Nat} {a b : List Int} (la : a.length ≤ N + 1) (lb : b.length ≤ N + 1) (h : ∀ k : Nat, k ≤ N → hv (k : Int) a = hv (k : Int) b) (i : Nat) : a.getD i 0 = b.getD i 0 := by
  have z := zero_of (N + 1) (a := addL a (b.map ((-1) * ·))) (lo := 0) (Nat.le_trans (addL_len _ _) (by rw [List.length_map]; omega)) fun k hk => by
    rw [hv_addL, hv_scl, Int.zero_add, h k (by omega)]
    omega
  have := zero_getD z i
  rw [addL_getD, scl_getD] at this
  omega
/-- values of a row at all whole numbers, by its coefficients -/
theorem hv_ext {x : Int} : ∀ {a b : List Int}, (∀ i, a.getD i 0 = b.getD i 0) → hv x a = hv x b
  | [], [], _ => rfl
  | [], y :: b, h => by
    have h0 := h 0
    have : hv x [] = hv x b := hv_ext fun i => by have := h (i + 1); simpa using this
    show 0 = y + x * hv x b
    rw [← this]
    simp [hv]
    simpa using h0
  | y :: a, [], h => by
    have h0 := h 0
    have : hv x a = hv x [] := hv_ext fun i => by have := h (i + 1); simpa using this
    show y + x * hv x a = 0
    rw [this]
    simp [hv]
    simpa using h0
  | y :: a, z :: b, h => by
    have h0 : y = z := by have := h 0; simpa using this
    have : hv x a = hv x b := hv_ext fun i => by have := h (i + 1); simpa using this
    show y + x * hv x a = z + x * hv x b
    rw [this, h0]
/-- the sum of Newton at the places -/
theorem newton_at {N k : Nat} {v : Nat → Int} {sh : Nat → Int} (hs : ∀ j, j ≤ N → sh j * fac j = fac N) (hk : k ≤ N) : sumN (N + 1) (fun j => dn j v 0 * sh j * ffl (k : Int) j) = fac N * v k := by
  rw [newton k (v := v) hk]
  rw [← sumN_mul]
  refine sumN_congr fun j hj => ?_
  rw [← bin_fac, ← hs j (by omega)]
  grind
end LW
/-! MG: values of rows; the row through values is the row. -/
namespace LW
theorem rs_addL : ∀ a b : List Int, rs (addL a b) = rs a + rs b
  | [], b => by
    rw [rs_nil, show addL [] b = b by simp [addL]]
    grind
  | x :: a, [] => by
    rw [rs_nil, show addL (x :: a) [] = x :: a by simp [addL]]
    grind
  | x :: a, y :: b => PS.ext fun k => by
    show (addL (x :: a) (y :: b)).getD k 0 = (x :: a).getD k 0 + (y :: b).getD k 0
    exact addL_getD _ _ k
theorem rs_mulL (b : List Int) : ∀ a : List Int, rs (mulL a b) = rs a * rs b
  | [] => by
    rw [rs_nil, show mulL [] b = [] from rfl, rs_nil]
    grind
  | x :: a => by
    show rs (addL (b.map (x * ·)) (0 :: mulL a b)) = _
    rw [rs_addL, rs_scale, rs_cons, rs_cons, con0, rs_mulL b a]
    grind
theorem hv_rs {x : Int} {a b : List Int} (h : rs a = rs b) : hv x a = hv x b := hv_ext fun i => by
  rw [← rs_at, ← rs_at, h]
theorem hv_trim {x : Int} (a : List Int) : hv x (trim a) = hv x a := hv_rs (rs_trim a)
theorem hv_addP {x : Int} (a b : List Int) : hv x (addP a b) = hv x a + hv x b := by
  rw [← hv_addL]
  exact hv_rs (by rw [rs_addP, rs_addL])
theorem hv_mulP {x : Int} (a b : List Int) : hv x (mulP a b) = hv x a * hv x b := by
  rw [← hv_mulL]
  exact hv_rs (by rw [rs_mulP, rs_mulL])
/-- a row all of whose numbers are f times those of D, divided by f, is D -/
theorem div_row {f : Int} (hf : f ≠ 0) {a D : List Int} (ha : trim a = a) (h : ∀ i, a.getD i 0 = f * D.getD i 0) : a.map (· / f) = trim D := by
  have e : a = (trim D).map (f * ·) := by
    have ht : trim ((trim D).map (f * ·)) = (trim D).map (f * ·) := by
      rcases List.eq_nil_or_concat (trim D) with e | ⟨l, z, e⟩
      · rw [e]; rfl
      · rw [List.concat_eq_append] at e
        have hz : z ≠ 0 := fun hz => by
          have t := trim_idem D
          rw [e, trim_snoc, if_pos hz] at t
          have := trim_len l
          rw [t, List.length_append, List.length_singleton] at this
          omega
        rw [e, List.map_append, List.map_singleton]
        exact trim_last _ _ (Int.mul_ne_zero hf hz)
    refine row_ext ha ht (PS.ext fun k => ?_)
    rw [rs_at, rs_at, h, scl_getD]
    congr 1
    rw [← rs_at, ← rs_at, rs_trim]
  rw [e, List.map_map]
  have : ((fun x => x / f) ∘ fun x => f * x) = fun x : Int => x := by
    funext x
    show f * x / f = x
    exact Int.mul_ediv_cancel_left _ hf
  rw [this]
  exact List.map_id' _
/-- the row through the values of D -/
theorem through {N : Nat} {a D : List Int} (ha : trim a = a) (la : a.length ≤ N + 1) (lD : D.length ≤ N + 1) (h : ∀ k : Nat, k ≤ N → hv (k : Int) a = fac N * hv (k : Int) D) : a.map (· / fac N) = trim D := by
  have hf : fac N ≠ 0 := by have := fac_pos N; omega
  refine div_row hf ha fun i => ?_
  have := coef_eq (N := N) (a := a) (b := D.map (fac N * ·)) la (by rw [List.length_map]; exact lD) (fun k hk => by rw [h k hk, hv_scl]) i
  rw [this, scl_getD]
end LW
/-! MH: rows moved to the front; Sylvester's table and its exchange. -/
namespace LW
theorem sg_add (a b : Nat) : sg (a + b) = sg a * sg b := by
  unfold sg
  repeat' split
  all_goals first | rfl | omega
/-- the row k put first -/
def mv (k r : Nat) : Nat := if r = 0 then k else if r ≤ k then r - 1 else r
theorem det_mv {n : Nat} : ∀ (k : Nat) {A : Nat → Nat → Int}, k < n → det n (fun r c => A (mv k r) c) = sg k * det n A
  | 0, A, h => by
    rw [show sg 0 = 1 from rfl, Int.one_mul]
    refine det_congr fun r c _ _ => ?_
    have : mv 0 r = r := by unfold mv; split <;> (try split) <;> omega
    rw [this]
  | k + 1, A, h => by
    have ih := det_mv (n := n) k (A := fun r c => A (tau k r) c) (by omega)
    have s := det_swap (A := A) (n := n) (k := k) h
    have e : det n (fun r c => A (mv (k + 1) r) c) = det n fun r c => A (tau k (mv k r)) c := det_congr fun r c _ _ => by
      have : mv (k + 1) r = tau k (mv k r) := by
        unfold mv tau
        repeat' split
        all_goals omega
      rw [this]
    rw [e, ih, s, sg_succ]
    grind
/-- the last j rows of m + n put first -/
def rot (m n j r : Nat) : Nat := if r < j then r + (m + n - j) else r - j
theorem det_rot {m n : Nat} : ∀ (j : Nat) {A : Nat → Nat → Int}, j ≤ n → det (m + n) (fun r c => A (rot m n j r) c) = sg (j * (m + n - 1)) * det (m + n) A
  | 0, A, _ => by
    rw [Nat.zero_mul, show sg 0 = 1 from rfl, Int.one_mul]
    refine det_congr fun r c _ _ => ?_
    have : rot m n 0 r = r := by unfold rot; rw [if_neg (by omega)]; omega
    rw [this]
  | j + 1, A, h => by
    have ih := det_rot (m := m) (n := n) j (A := A) (by omega)
    have s := det_mv (n := m + n) (m + n - 1) (A := fun r c => A (rot m n j r) c) (by omega)
    have e : det (m + n) (fun r c => A (rot m n (j + 1) r) c) = det (m + n) fun r c => A (rot m n j (mv (m + n - 1) r)) c := det_congr fun r c hr _ => by
      have : rot m n (j + 1) r = rot m n j (mv (m + n - 1) r) := by
        unfold rot mv
        repeat' split
        all_goals omega
      rw [this]
    rw [e, s, ih, Nat.succ_mul, sg_add]
    grind
theorem sg_par {a b : Nat} (h : a % 2 = b % 2) : sg a = sg b := by
  unfold sg
  rw [h]
/-- Sylvester's table of f (degree n) and g (degree m) -/
def sylE (n m : Nat) (f g : Nat → Int) (r c : Nat) : Int :=
  if r < m then (if r ≤ c ∧ c ≤ r + n then f (n - (c - r)) else 0) else if r - m ≤ c ∧ c ≤ r - m + m then g (m - (c - (r - m))) else 0
def res (n m : Nat) (f g : Nat → Int) : Int := det (n + m) (sylE n m f g)
theorem res_swap (n m : Nat) (f g : Nat → Int) : res m n g f = sg (n * m) * res n m f g := by
  have s := det_rot (m := m) (n := n) n (A := sylE n m f g) (Nat.le_refl _)
  have e : det (m + n) (sylE m n g f) = det (m + n) fun r c => sylE n m f g (rot m n n r) c := det_congr fun r c hr _ => by
    unfold sylE rot
    by_cases hn : r < n
    · rw [if_pos hn, if_pos hn, if_neg (show ¬ r + (m + n - n) < m by omega)]
      rw [show r + (m + n - n) - m = r by omega]
    · rw [if_neg hn, if_neg hn, if_pos (show r - n < m by omega)]
  unfold res
  rw [e, s, Nat.add_comm n m]
  congr 1
  refine sg_par ?_
  have h1 : n * (m + n - 1) % 2 = n * m % 2 := by
    cases n with
    | zero => simp
    | succ k =>
      have : (k + 1) * (m + (k + 1) - 1) = (k + 1) * m + (k + 1) * k := by
        rw [show m + (k + 1) - 1 = m + k by omega, Nat.mul_add]
      rw [this, Nat.add_mod]
      have hk : (k + 1) * k % 2 = 0 := by
        rw [Nat.mul_mod]
        rcases Nat.mod_two_eq_zero_or_one k with q | q
        · rw [q]; simp
        · have : (k + 1) % 2 = 0 := by omega
          rw [this]; simp
      rw [hk]
      simp
  exact h1
/-- .. as a polynomial function -/
theorem res_IsP {n m u v : Nat} {f g : Int → Nat → Int} (hf : ∀ i, IsP u fun x => f x i) (hg : ∀ i, IsP v fun x => g x i) : IsP (m * u + n * v) fun x => res n m (f x) (g x) := by
  have key := det_IsP (m := n + m) (w := fun r => if r < m then u else v) (A := fun x => sylE n m (f x) (g x)) fun r c hr hc => by
    show IsP (if r < m then u else v) fun x => sylE n m (f x) (g x) r c
    unfold sylE
    by_cases hr : r < m
    · rw [if_pos hr]
      by_cases h2 : r ≤ c ∧ c ≤ r + n
      · have : (fun x => if r < m then (if r ≤ c ∧ c ≤ r + n then f x (n - (c - r)) else 0) else if r - m ≤ c ∧ c ≤ r - m + m then g x (m - (c - (r - m))) else 0) = fun x => f x (n - (c - r)) := by
          funext x
          rw [if_pos hr, if_pos h2]
        rw [this]
        exact hf _
      · have : (fun x => if r < m then (if r ≤ c ∧ c ≤ r + n then f x (n - (c - r)) else 0) else if r - m ≤ c ∧ c ≤ r - m + m then g x (m - (c - (r - m))) else 0) = fun _ => 0 := by
          funext x
          rw [if_pos hr, if_neg h2]
        rw [this]
        exact IsP.zero
    · rw [if_neg hr]
      by_cases h2 : r - m ≤ c ∧ c ≤ r - m + m
      · have : (fun x => if r < m then (if r ≤ c ∧ c ≤ r + n then f x (n - (c - r)) else 0) else if r - m ≤ c ∧ c ≤ r - m + m then g x (m - (c - (r - m))) else 0) = fun x => g x (m - (c - (r - m))) := by
          funext x
          rw [if_neg hr, if_pos h2]
        rw [this]
        exact hg _
      · have : (fun x => if r < m then (if r ≤ c ∧ c ≤ r + n then f x (n - (c - r)) else 0) else if r - m ≤ c ∧ c ≤ r - m + m then g x (m - (c - (r - m))) else 0) = fun _ => 0 := by
          funext x
          rw [if_neg hr, if_neg h2]
        rw [this]
        exact IsP.zero
  have hw : ∀ k, sumW (k + m) (fun r => if r < m then u else v) = m * u + k * v := fun k => by
    induction k with
    | zero =>
      rw [Nat.zero_add]
      have : ∀ j, j ≤ m → sumW j (fun r => if r < m then u else v) = j * u := fun j => by
        induction j with
        | zero => intro _; simp [sumW]
        | succ j ih =>
          intro h
          show sumW j _ + (if j < m then u else v) = (j + 1) * u
          rw [ih (by omega), if_pos (by omega), Nat.succ_mul]
      rw [this m (Nat.le_refl _)]
      simp
    | succ k ih =>
      rw [show k + 1 + m = (k + m) + 1 by omega]
      show sumW (k + m) _ + (if k + m < m then u else v) = _
      rw [ih, if_neg (by omega), Nat.succ_mul]
      omega
  rw [hw n] at key
  exact key
end LW
/-! MI: MG, MH and ML together. -/
namespace LW
theorem res_eq (n m : Nat) (f g : Nat → Int) : res n m f g = det (n + m) (sylE n m f g) := rfl
end LW
/-! MN: series over a ring without divisors of nought have none; products of polynomials other than nought. -/
namespace LW
open Lean.Grind
namespace PS
variable {R : Type} [CommRing R]
def tls (f : PS R) : Nat → PS R
  | 0 => f
  | n + 1 => (tls f n).tl
theorem tls_at {f : PS R} : ∀ (n k : Nat), (tls f n).at_ k = f.at_ (n + k)
  | 0, k => by rw [Nat.zero_add]; rfl
  | n + 1, k => by
    show (tls f n).at_ (k + 1) = _
    rw [tls_at n (k + 1)]
    congr 1
    omega
theorem mul_tls {f g : PS R} : ∀ (i j : Nat), (∀ a, a < i → f.at_ a = 0) → (f * g).at_ (i + j) = (tls f i * g).at_ j
  | 0, j, _ => by rw [Nat.zero_add]; rfl
  | i + 1, j, h => by
    have e : ∀ (i : Nat) (f : PS R), tls f.tl i = tls f (i + 1) := by
      intro i
      induction i with
      | zero => intro f; rfl
      | succ i ih =>
        intro f
        show (tls f.tl i).tl = (tls f (i + 1)).tl
        rw [ih]
    have ih := mul_tls (f := f.tl) (g := g) i j fun a ha => h (a + 1) (by omega)
    rw [show i + 1 + j = (i + j) + 1 by omega, mul_s, h 0 (by omega), ih, e]
    grind
theorem nz (hR : ∀ a b : R, a * b = 0 → a = 0 ∨ b = 0) {f g : PS R} (h : ∀ k, (f * g).at_ k = 0) (hf : ∃ i, f.at_ i ≠ 0) : ∀ j, g.at_ j = 0 := by
  obtain ⟨i0, hi0⟩ := hf
  have ex : ∃ i, f.at_ i ≠ 0 ∧ ∀ a, a < i → f.at_ a = 0 := by
    have gen : ∀ (n : Nat) (i : Nat), i ≤ n → f.at_ i ≠ 0 → ∃ i, f.at_ i ≠ 0 ∧ ∀ a, a < i → f.at_ a = 0 := by
      intro n
      induction n with
      | zero =>
        intro i hi h
        have : i = 0 := by omega
        subst this
        exact ⟨0, h, fun a ha => by omega⟩
      | succ n ih =>
        intro i hi h
        by_cases hz : ∀ a, a < i → f.at_ a = 0
        · exact ⟨i, h, hz⟩
        · obtain ⟨a, ha⟩ := Classical.not_forall.mp hz
          have ha := Classical.not_imp.mp ha
          exact ih a (by omega) ha.2
    exact gen i0 i0 (Nat.le_refl _) hi0
  obtain ⟨i, hi, hz⟩ := ex
  intro j
  induction j using Nat.strongRecOn with
  | _ j ih =>
    have h1 := h (i + j)
    rw [mul_tls i j hz, mul_comm', show j = j + 0 by omega, mul_tls j 0 fun a ha => ih a ha, mul_0, tls_at, tls_at, Nat.add_zero, Nat.add_zero] at h1
    rcases hR _ _ h1 with h2 | h2
    · exact h2
    · exact absurd h2 hi
end PS
theorem int_nz (a b : Int) (h : a * b = 0) : a = 0 ∨ b = 0 := Int.mul_eq_zero.mp h
theorem ps_nz (a b : PS Int) (h : a * b = 0) : a = 0 ∨ b = 0 := by
  have h' : ∀ k, (a * b).at_ k = 0 := fun k => by rw [h]; cases k <;> rfl
  by_cases ha : ∃ i, a.at_ i ≠ 0
  · right
    have := PS.nz int_nz h' ha
    exact PS.ext fun k => by rw [this k]; cases k <;> rfl
  · left
    exact PS.ext fun k => by
      have := Classical.byContradiction fun z => ha ⟨k, z⟩
      rw [this]
      cases k <;> rfl
theorem rs_ne {a : List Int} (h : trim a = a) (hne : a ≠ []) : rs a ≠ 0 := fun z => hne (row_ext h rfl (by rw [z, rs_nil]))
theorem mulP_ne {a b : List Int} (ha : trim a = a) (hb : trim b = b) (na : a ≠ []) (nb : b ≠ []) : mulP a b ≠ [] := fun z => by
  have := rs_mulP a b
  rw [z, rs_nil] at this
  rcases ps_nz _ _ this.symm with h | h
  · exact rs_ne ha na h
  · exact rs_ne hb nb h
theorem mulPP_ne {P Q : Pol} (hP : TP P) (hQ : TP Q) (nP : P ≠ []) (nQ : Q ≠ []) : mulPP P Q ≠ [] := fun z => by
  have e := ps_mulPP P Q
  rw [z, ps_nil] at e
  have h' : ∀ k, (ps P * ps Q).at_ k = 0 := fun k => by
    rw [← e]
    cases k <;> rfl
  have key : ∀ {P : Pol}, TP P → P ≠ [] → ∃ i, (ps P).at_ i ≠ 0 := fun {P} hP nP => by
    refine Classical.byContradiction fun z => nP (pol_ext hP TP.nil ?_)
    rw [ps_nil]
    exact PS.ext fun k => by
      have := Classical.byContradiction fun y => z ⟨k, y⟩
      rw [this]
      cases k <;> rfl
  have hQ0 := PS.nz ps_nz h' (key hP nP)
  obtain ⟨i, hi⟩ := key hQ nQ
  exact hi (hQ0 i)
theorem PL.innerP2 {i : Nat} {x : List Int} {n n2 m : Nat} (lx : x.length ≤ n) (hm : n + n2 ≤ m + 1) : ∀ {ys : Pol} {j : Nat} {c : Pol}, PL n2 ys → PL m c → PL m (LW.innerP i x j ys c)
  | [], j, c, _, h => h
  | y :: ys, j, c, ly, h => by
    unfold LW.innerP
    have := mulP_len x y
    have := ly y List.mem_cons_self
    exact PL.innerP2 lx hm (fun z hz => ly z (List.mem_cons_of_mem _ hz)) (h.addAtP (by omega))
theorem PL.outerP2 {b : Pol} {n n2 m : Nat} (lb : PL n2 b) (hm : n + n2 ≤ m + 1) : ∀ {xs : Pol} {i : Nat} {c : Pol}, PL n xs → PL m c → PL m (LW.outerP b i xs c)
  | [], i, c, _, h => h
  | x :: xs, i, c, la, h => by
    unfold LW.outerP
    exact PL.outerP2 lb hm (fun z hz => la z (List.mem_cons_of_mem _ hz)) (PL.innerP2 (la x List.mem_cons_self) hm lb h)
theorem PL.mulPP2 {P Q : Pol} {n n2 m : Nat} (lP : PL n P) (lQ : PL n2 Q) (hm : n + n2 ≤ m + 1) : PL m (LW.mulPP P Q) := by
  have z : PL m (List.replicate (P.length + Q.length) []) := fun r hr => by rw [List.eq_of_mem_replicate hr]; simp
  exact (PL.outerP2 (i := 0) lQ hm lP z).trimP
/-- rows with the same values are one -/
theorem row_hv {a b : List Int} (ha : trim a = a) (hb : trim b = b) (h : ∀ k : Nat, hv (k : Int) a = hv (k : Int) b) : a = b := by
  refine row_ext ha hb (PS.ext fun i => ?_)
  rw [rs_at, rs_at]
  exact coef_eq (N := a.length + b.length) (by omega) (by omega) (fun k _ => h k) i
end LW
/-! MQ: sums of products of letters, worked out by the kernel. -/
namespace LW
namespace Q
def madd : List Nat → List Nat → List Nat
  | [], b => b
  | a, [] => a
  | x :: a, y :: b => (x + y) :: madd a b
def mden (e : Nat → Int) : Nat → List Nat → Int
  | _, [] => 1
  | i, x :: r => e i ^ x * mden e (i + 1) r
theorem mden_add (e : Nat → Int) : ∀ (a b : List Nat) (i : Nat), mden e i (madd a b) = mden e i a * mden e i b
  | [], b, i => by simp [madd, mden]
  | x :: a, [], i => by simp [madd, mden]
  | x :: a, y :: b, i => by
    show e i ^ (x + y) * mden e (i + 1) (madd a b) = e i ^ x * mden e (i + 1) a * (e i ^ y * mden e (i + 1) b)
    rw [mden_add e a b (i + 1), Int.pow_add]
    grind
def mlt : List Nat → List Nat → Bool
  | x :: a, y :: b => if x == y then mlt a b else Nat.blt y x
  | _, _ => false
abbrev MP := List (Int × List Nat)
def den (e : Nat → Int) : MP → Int
  | [] => 0
  | (c, m) :: r => c * mden e 0 m + den e r
def add : Nat → MP → MP → MP
  | 0, p, q => p ++ q
  | _ + 1, [], q => q
  | _ + 1, p, [] => p
  | n + 1, (c, m) :: p, (d, k) :: q => if m == k then (if c + d == 0 then add n p q else (c + d, m) :: add n p q) else if mlt m k then (c, m) :: add n p ((d, k) :: q) else (d, k) :: add n ((c, m) :: p) q
theorem den_app (e : Nat → Int) : ∀ p q : MP, den e (p ++ q) = den e p + den e q
  | [], q => by simp [den]
  | (c, m) :: p, q => by
    show c * mden e 0 m + den e (p ++ q) = c * mden e 0 m + den e p + den e q
    rw [den_app e p q]
    omega
theorem den_add (e : Nat → Int) : ∀ (n : Nat) (p q : MP), den e (add n p q) = den e p + den e q
  | 0, p, q => den_app e p q
  | n + 1, [], q => by simp [add, den]
  | n + 1, (c, m) :: p, [] => by simp [add, den]
  | n + 1, (c, m) :: p, (d, k) :: q => by
    unfold add
    by_cases h : (m == k) = true
    · rw [if_pos h]
      have hm : m = k := by simpa using h
      subst hm
      by_cases h2 : (c + d == 0) = true
      · rw [if_pos h2, den_add e n p q]
        have : c + d = 0 := by simpa using h2
        have hd : d = -c := by omega
        subst hd
        show _ = c * mden e 0 m + den e p + (-c * mden e 0 m + den e q)
        grind
      · rw [if_neg h2]
        show (c + d) * mden e 0 m + den e (add n p q) = c * mden e 0 m + den e p + (d * mden e 0 m + den e q)
        rw [den_add e n p q]
        grind
    · rw [if_neg h]
      split
      · show c * mden e 0 m + den e (add n p ((d, k) :: q)) = c * mden e 0 m + den e p + den e ((d, k) :: q)
        rw [den_add e n p _]
        omega
      · show d * mden e 0 k + den e (add n ((c, m) :: p) q) = den e ((c, m) :: p) + (d * mden e 0 k + den e q)
        rw [den_add e n _ q]
        omega
def plus (p q : MP) : MP := add (p.length + q.length) p q
theorem den_plus (e : Nat → Int) (p q : MP) : den e (plus p q) = den e p + den e q := den_add e _ p q
def scl (c : Int) (m : List Nat) (p : MP) : MP := p.map fun t => (c * t.1, madd m t.2)
theorem den_scl (e : Nat → Int) (c : Int) (m : List Nat) : ∀ p : MP, den e (scl c m p) = c * mden e 0 m * den e p
  | [] => by simp [scl, den]
  | (d, k) :: p => by
    show c * d * mden e 0 (madd m k) + den e (scl c m p) = c * mden e 0 m * (d * mden e 0 k + den e p)
    rw [den_scl e c m p, mden_add]
    grind
def mul : MP → MP → MP
  | [], _ => []
  | (c, m) :: p, q => plus (scl c m q) (mul p q)
theorem den_mul (e : Nat → Int) (q : MP) : ∀ p : MP, den e (mul p q) = den e p * den e q
  | [] => by simp [mul, den]
  | (c, m) :: p => by
    show den e (plus (scl c m q) (mul p q)) = (c * mden e 0 m + den e p) * den e q
    rw [den_plus, den_scl, den_mul e q p]
    grind
def nul (n : Nat) : List Nat := List.replicate n 0
def num (v : Nat) (c : Int) : MP := if c == 0 then [] else [(c, nul v)]
theorem mden_nul (e : Nat → Int) : ∀ (n i : Nat), mden e i (nul n) = 1
  | 0, i => rfl
  | n + 1, i => by
    show e i ^ 0 * mden e (i + 1) (nul n) = 1
    rw [mden_nul e n (i + 1)]
    simp
theorem den_num (e : Nat → Int) (v : Nat) (c : Int) : den e (num v c) = c := by
  unfold num
  split
  · rename_i h
    have : c = 0 := by simpa using h
    rw [this]
    rfl
  · show c * mden e 0 (nul v) + 0 = c
    rw [mden_nul]
    omega
def ltr : Nat → Nat → List Nat
  | 0, _ => []
  | v + 1, 0 => 1 :: nul v
  | v + 1, i + 1 => 0 :: ltr v i
theorem mden_ltr (e : Nat → Int) : ∀ (v i j : Nat), i < v → mden e j (ltr v i) = e (j + i)
  | v + 1, 0, j, _ => by
    show e j ^ 1 * mden e (j + 1) (nul v) = e (j + 0)
    rw [mden_nul, Int.pow_succ, Int.pow_zero, Int.one_mul, Int.mul_one]
    rfl
  | v + 1, i + 1, j, h => by
    show e j ^ 0 * mden e (j + 1) (ltr v i) = e (j + (i + 1))
    rw [mden_ltr e v i (j + 1) (by omega), show j + 1 + i = j + (i + 1) by omega]
    simp
def x (v i : Nat) : MP := [(1, ltr v i)]
theorem den_x (e : Nat → Int) {v i : Nat} (h : i < v) : den e (x v i) = e i := by
  show 1 * mden e 0 (ltr v i) + 0 = e i
  rw [mden_ltr e v i 0 h, Nat.zero_add]
  omega
def neg (v : Nat) (p : MP) : MP := scl (-1) (nul v) p
theorem den_neg (e : Nat → Int) (v : Nat) (p : MP) : den e (neg v p) = - den e p := by
  unfold neg
  rw [den_scl, mden_nul]
  omega
def sumP : Nat → (Nat → MP) → MP
  | 0, _ => []
  | n + 1, f => plus (sumP n f) (f n)
theorem den_sum (e : Nat → Int) (f : Nat → MP) : ∀ n, den e (sumP n f) = sumN n fun i => den e (f i)
  | 0 => rfl
  | n + 1 => by
    show den e (plus (sumP n f) (f n)) = sumN n _ + _
    rw [den_plus, den_sum e f n]
def detP (v : Nat) : Nat → (Nat → Nat → MP) → MP
  | 0, _ => num v 1
  | n + 1, A => sumP (n + 1) fun i => match A i 0 with
    | [] => []
    | t :: r => mul (scl (sg i) (nul v) (t :: r)) (detP v n fun r c => A (skip i r) (c + 1))
theorem den_det (e : Nat → Int) (v : Nat) : ∀ (n : Nat) (A : Nat → Nat → MP), den e (detP v n A) = det n fun r c => den e (A r c)
  | 0, A => den_num e v 1
  | n + 1, A => by
    show den e (sumP (n + 1) _) = sumN (n + 1) _
    rw [den_sum]
    refine sumN_congr fun i hi => ?_
    have key : ∀ (p : MP) (d : MP), den e (match p with
        | [] => []
        | t :: r => mul (scl (sg i) (nul v) (t :: r)) d) = sg i * den e p * den e d := fun p d => by
      cases p with
      | nil => simp [den]
      | cons t r =>
        show den e (mul (scl (sg i) (nul v) (t :: r)) d) = _
        rw [den_mul, den_scl, mden_nul]
        simp
    show den e (match A i 0 with
        | [] => []
        | t :: r => mul (scl (sg i) (nul v) (t :: r)) (detP v n fun r c => A (skip i r) (c + 1))) = sg i * den e (A i 0) * det n fun r c => den e (A (skip i r) (c + 1))
    rw [key, den_det e v n]
/-- equal when worked out -/
def same (v : Nat) (p q : MP) : Bool := (plus p (neg v q)).isEmpty
theorem of_same (e : Nat → Int) {v : Nat} {p q : MP} (h : same v p q = true) : den e p = den e q := by
  have h1 : plus p (neg v q) = [] := List.isEmpty_iff.mp h
  have h2 := den_plus e p (neg v q)
  rw [h1, den_neg] at h2
  show den e p = den e q
  have : den e ([] : MP) = 0 := rfl
  omega
def sylP (n m : Nat) (f g : Nat → MP) (r c : Nat) : MP :=
  if r < m then (if r ≤ c ∧ c ≤ r + n then f (n - (c - r)) else []) else if r - m ≤ c ∧ c ≤ r - m + m then g (m - (c - (r - m))) else []
theorem den_syl (e : Nat → Int) {n m : Nat} {f g : Nat → MP} {r c : Nat} : den e (sylP n m f g r c) = sylE n m (fun k => den e (f k)) (fun k => den e (g k)) r c := by
  unfold sylP sylE
  repeat' split
  all_goals rfl
theorem den_res (e : Nat → Int) (v : Nat) {n m : Nat} {f g : Nat → MP} : den e (detP v (n + m) (sylP n m f g)) = res n m (fun k => den e (f k)) fun k => den e (g k) := by
  rw [den_det]
  exact det_congr fun r c _ _ => den_syl e
end Q
theorem res_congr {n m : Nat} {f f' g g' : Nat → Int} (hf : ∀ k, k ≤ n → f k = f' k) (hg : ∀ k, k ≤ m → g k = g' k) : res n m f g = res n m f' g' := by
  refine det_congr fun r c hr hc => ?_
  unfold sylE
  repeat' split
  · exact hf _ (by omega)
  · rfl
  · exact hg _ (by omega)
  · rfl
end LW
/-! MQ2: discriminants of degrees up to four: from the resultant, and of a product with one more linear factor. -/
namespace LW
namespace Q
def pw (v : Nat) (p : MP) : Nat → MP
  | 0 => num v 1
  | n + 1 => mul p (pw v p n)
theorem den_pw (e : Nat → Int) (v : Nat) (p : MP) : ∀ n, den e (pw v p n) = den e p ^ n
  | 0 => by
    rw [Int.pow_zero]
    exact den_num e v 1
  | n + 1 => by
    show den e (mul p (pw v p n)) = _
    rw [den_mul, den_pw e v p n, Int.pow_succ, Int.mul_comm]
def msub (v : Nat) (f : Nat → MP) : Nat → List Nat → MP
  | _, [] => num v 1
  | i, x :: r => mul (pw v (f i) x) (msub v f (i + 1) r)
theorem den_msub (e : Nat → Int) (v : Nat) (f : Nat → MP) : ∀ (m : List Nat) (i : Nat), den e (msub v f i m) = mden (fun k => den e (f k)) i m
  | [], i => den_num e v 1
  | x :: r, i => by
    show den e (mul (pw v (f i) x) (msub v f (i + 1) r)) = den e (f i) ^ x * mden _ (i + 1) r
    rw [den_mul, den_pw, den_msub e v f r (i + 1)]
def sub (v : Nat) (f : Nat → MP) : MP → MP
  | [] => []
  | (c, m) :: p => plus (scl c (nul v) (msub v f 0 m)) (sub v f p)
theorem den_sub (e : Nat → Int) (v : Nat) (f : Nat → MP) : ∀ p : MP, den e (sub v f p) = den (fun k => den e (f k)) p
  | [] => rfl
  | (c, m) :: p => by
    show den e (plus (scl c (nul v) (msub v f 0 m)) (sub v f p)) = c * mden _ 0 m + den _ p
    rw [den_plus, den_scl, mden_nul, den_msub, den_sub e v f p]
    simp
def D1 : MP := num 2 1
def D2 : MP := [(1, [0, 2, 0]), (-4, [1, 0, 1])]
def D3 : MP := [(1, [0, 2, 2, 0]), (-4, [0, 3, 0, 1]), (-4, [1, 0, 3, 0]), (-27, [2, 0, 0, 2]), (18, [1, 1, 1, 1])]
def D4 : MP := [(256, [3, 0, 0, 0, 3]), (-192, [2, 1, 0, 1, 2]), (-128, [2, 0, 2, 0, 2]), (144, [1, 2, 1, 0, 2]), (-27, [0, 4, 0, 0, 2]), (144, [2, 0, 1, 2, 1]), (-6, [1, 2, 0, 2, 1]), (-80, [1, 1, 2, 1, 1]), (18, [0, 3, 1, 1, 1]), (16, [1, 0, 4, 0, 1]), (-4, [0, 2, 3, 0, 1]), (-27, [2, 0, 0, 4, 0]), (18, [1, 1, 1, 3, 0]), (-4, [0, 3, 0, 3, 0]), (-4, [1, 0, 3, 2, 0]), (1, [0, 2, 2, 2, 0])]
/-- the discriminant's letters -/
def Dn : Nat → MP
  | 2 => D2
  | 3 => D3
  | 4 => D4
  | _ => D1
def sd : Nat → Int
  | 2 => -1
  | 3 => -1
  | _ => 1
def chk (n : Nat) : Bool := same (n + 1) (detP (n + 1) (n + (n - 1)) (sylP n (n - 1) (fun k => x (n + 1) k) fun k => scl (k + 1 : Nat) (nul (n + 1)) (x (n + 1) (k + 1)))) (scl (sd n) (nul (n + 1)) (mul (x (n + 1) n) (sub (n + 1) (x (n + 1)) (Dn n))))
theorem chk1 : chk 1 = true := by decide +kernel
theorem chk2 : chk 2 = true := by decide +kernel
theorem chk3 : chk 3 = true := by decide +kernel
theorem chk4 : chk 4 = true := by decide +kernel
/-- c times u y + v, the letters c 0 .. c n, u, v -/
def cl (n k : Nat) : MP := plus (if k ≤ n then mul (x (n + 3) k) (x (n + 3) (n + 2)) else []) (if k = 0 then [] else mul (x (n + 3) (k - 1)) (x (n + 3) (n + 1)))
def hP (n : Nat) : MP := sumP (n + 1) fun j => mul (x (n + 3) j) (mul (pw (n + 3) (neg (n + 3) (x (n + 3) (n + 2))) j) (pw (n + 3) (x (n + 3) (n + 1)) (n - j)))
def chl (n : Nat) : Bool := same (n + 3) (sub (n + 3) (cl n) (Dn (n + 1))) (mul (sub (n + 3) (x (n + 3)) (Dn n)) (mul (hP n) (hP n)))
theorem chl1 : chl 1 = true := by decide +kernel
theorem chl2 : chl 2 = true := by decide +kernel
theorem chl3 : chl 3 = true := by decide +kernel
theorem mden_congr {e f : Nat → Int} : ∀ (m : List Nat) (i : Nat), (∀ j, j < m.length → e (i + j) = f (i + j)) → mden e i m = mden f i m
  | [], _, _ => rfl
  | x :: r, i, h => by
    show e i ^ x * mden e (i + 1) r = f i ^ x * mden f (i + 1) r
    have h0 := h 0 (Nat.zero_lt_succ _)
    rw [Nat.add_zero] at h0
    have key := mden_congr (e := e) (f := f) r (i + 1) (fun j hj => by
      have := h (j + 1) (Nat.succ_lt_succ hj)
      rwa [show i + (j + 1) = i + 1 + j by omega] at this)
    rw [h0, key]
theorem den_congr {e f : Nat → Int} {L : Nat} (h : ∀ j, j < L → e j = f j) : ∀ p : MP, p.all (fun t => decide (t.2.length ≤ L)) = true → den e p = den f p
  | [], _ => rfl
  | (c, m) :: p, q => by
    rw [List.all_cons, Bool.and_eq_true] at q
    have hl : m.length ≤ L := of_decide_eq_true q.1
    show c * mden e 0 m + den e p = c * mden f 0 m + den f p
    have key := mden_congr (e := e) (f := f) m 0 (fun j hj => by rw [Nat.zero_add]; exact h j (by omega))
    rw [den_congr h p q.2, key]
/-- the discriminant of degree n -/
def disc (n : Nat) (c : Nat → Int) : Int := den c (Dn n)
theorem disc_congr {n : Nat} {c d : Nat → Int} (hn : 1 ≤ n) (h4 : n ≤ 4) (h : ∀ k, k ≤ n → c k = d k) : disc n c = disc n d := by
  refine den_congr (L := n + 1) (fun j hj => h j (by omega)) _ ?_
  match n, hn, h4 with
  | 1, _, _ => decide
  | 2, _, _ => decide
  | 3, _, _ => decide
  | 4, _, _ => decide
theorem chk_all {n : Nat} (hn : 1 ≤ n) (h4 : n ≤ 4) : chk n = true := by
  match n, hn, h4 with
  | 1, _, _ => exact chk1
  | 2, _, _ => exact chk2
  | 3, _, _ => exact chk3
  | 4, _, _ => exact chk4
theorem chl_all {n : Nat} (hn : 1 ≤ n) (h3 : n ≤ 3) : chl n = true := by
  match n, hn, h3 with
  | 1, _, _ => exact chl1
  | 2, _, _ => exact chl2
  | 3, _, _ => exact chl3
/-- the resultant with the derivative -/
theorem res_disc {n : Nat} {c : Nat → Int} (hn : 1 ≤ n) (h4 : n ≤ 4) : res n (n - 1) c (fun k => ((k + 1 : Nat) : Int) * c (k + 1)) = sd n * (c n * disc n c) := by
  have h := of_same c (chk_all hn h4)
  rw [den_res, den_scl, mden_nul, den_mul, den_x c (by omega), den_sub] at h
  rw [Int.mul_one] at h
  have e1 : den (fun k => den c (x (n + 1) k)) (Dn n) = disc n c := disc_congr hn h4 fun k hk => den_x c (by omega)
  rw [e1] at h
  rw [← h]
  refine res_congr (fun k hk => (den_x c (by omega)).symm) fun k hk => ?_
  rw [den_scl, mden_nul, den_x c (by omega), Int.mul_one]
/-- a polynomial at - v, u -/
def hom (n : Nat) (c : Nat → Int) (u v : Int) : Int := sumN (n + 1) fun j => c j * ((-v) ^ j * u ^ (n - j))
/-- the numbers of a product with u y + v -/
def cul (n : Nat) (c : Nat → Int) (u v : Int) (k : Nat) : Int := (if k ≤ n then c k * v else 0) + if k = 0 then 0 else c (k - 1) * u
theorem disc_mul {n : Nat} {c : Nat → Int} {u v : Int} (hn : 1 ≤ n) (h3 : n ≤ 3) : disc (n + 1) (cul n c u v) = disc n c * (hom n c u v * hom n c u v) := by
  have h := of_same (fun i => if i ≤ n then c i else if i = n + 1 then u else v) (chl_all hn h3)
  generalize he : (fun i => if i ≤ n then c i else if i = n + 1 then u else v) = e at h
  have hx : ∀ k, k ≤ n → den e (x (n + 3) k) = c k := fun k hk => by
    rw [den_x e (by omega), ← he]
    exact if_pos hk
  have hu : den e (x (n + 3) (n + 1)) = u := by
    rw [den_x e (by omega), ← he]
    show (if n + 1 ≤ n then _ else if n + 1 = n + 1 then u else v) = u
    rw [if_neg (by omega), if_pos rfl]
  have hv : den e (x (n + 3) (n + 2)) = v := by
    rw [den_x e (by omega), ← he]
    show (if n + 2 ≤ n then _ else if n + 2 = n + 1 then u else v) = v
    rw [if_neg (by omega), if_neg (by omega)]
  rw [den_sub, den_mul, den_mul, den_sub] at h
  have e1 : den (fun k => den e (cl n k)) (Dn (n + 1)) = disc (n + 1) (cul n c u v) := disc_congr (by omega) (by omega) fun k hk => by
    unfold cl cul
    rw [den_plus]
    congr 1
    · split
      · rename_i h1
        rw [den_mul, hx k h1, hv]
      · rfl
    · split
      · rfl
      · rw [den_mul, hx (k - 1) (by omega), hu]
  have e2 : den (fun k => den e (x (n + 3) k)) (Dn n) = disc n c := disc_congr hn (by omega) hx
  have e3 : den e (hP n) = hom n c u v := by
    unfold hP hom
    rw [den_sum]
    refine sumN_congr fun j hj => ?_
    rw [den_mul, den_mul, den_pw, den_pw, den_neg, hx j (by omega), hu, hv]
  rw [e1, e2, e3] at h
  exact h
end Q
end LW
/-! MO: heads of products, exact division of rows, derivatives' values. -/
namespace LW
open Lean.Grind
namespace PS
variable {R : Type} [CommRing R]
theorem zero_mul_at {f g : PS R} (h : ∀ a, f.at_ a = 0) : ∀ k, (f * g).at_ k = 0 := by
  intro k
  induction k generalizing f with
  | zero => rw [mul_0, h 0]; grind
  | succ k ih => rw [mul_s, h 0, ih fun a => h (a + 1)]; grind
theorem mul_top {g : PS R} {j : Nat} (hg : ∀ b, j < b → g.at_ b = 0) : ∀ (i : Nat) {f : PS R}, (∀ a, i < a → f.at_ a = 0) → (f * g).at_ (i + j) = f.at_ i * g.at_ j
  | 0, f, hf => by
    rw [Nat.zero_add]
    cases j with
    | zero => rfl
    | succ j =>
      rw [mul_s, zero_mul_at (f := f.tl) fun a => hf (a + 1) (by omega)]
      grind
  | i + 1, f, hf => by
    rw [show i + 1 + j = i + j + 1 by omega, mul_s, mul_top hg i (f := f.tl) fun a ha => hf (a + 1) (by omega), hg (i + j + 1) (by omega), tl_at]
    grind
theorem mul_high {g : PS R} {j : Nat} (hg : ∀ b, j < b → g.at_ b = 0) : ∀ (i : Nat) {f : PS R} {k : Nat}, (∀ a, i < a → f.at_ a = 0) → i + j < k → (f * g).at_ k = 0
  | 0, f, 0, hf, h => by omega
  | 0, f, k + 1, hf, h => by
    rw [mul_s, zero_mul_at (f := f.tl) fun a => hf (a + 1) (by omega), hg (k + 1) (by omega)]
    grind
  | i + 1, f, 0, hf, h => by omega
  | i + 1, f, k + 1, hf, h => by
    rw [mul_s, mul_high hg i (f := f.tl) (k := k) (fun a ha => hf (a + 1) (by omega)) (by omega), hg (k + 1) (by omega)]
    grind
end PS
theorem getD_over {a : List Int} {k : Nat} (h : a.length ≤ k) : a.getD k 0 = 0 := by
  rw [List.getD_eq_getElem?_getD, List.getElem?_eq_none h]
  rfl
theorem head_of {a : List Int} (ht : trim a = a) {n : Nat} (h1 : a.getD n 0 ≠ 0) (h2 : ∀ k, n < k → a.getD k 0 = 0) : ∃ l, a = l ++ [a.getD n 0] ∧ l.length = n := by
  rcases List.eq_nil_or_concat a with e | ⟨l, z, e⟩
  · subst e
    exact absurd rfl h1
  · rw [List.concat_eq_append] at e
    have hz : z ≠ 0 := fun hz => by
      rw [e, trim_snoc, if_pos hz] at ht
      have := trim_len l
      rw [ht, List.length_append, List.length_singleton] at this
      omega
    have g : a.getD l.length 0 = z := by
      rw [e, List.getD_eq_getElem?_getD, List.getElem?_append_right (Nat.le_refl _), Nat.sub_self]
      rfl
    have hl : l.length = n := by
      have a1 : ¬ n < l.length := fun hn => hz (by rw [← g]; exact h2 _ hn)
      have a2 : ¬ l.length < n := fun hn => h1 (getD_over (by rw [e, List.length_append, List.length_singleton]; omega))
      omega
    exact ⟨l, by rw [← hl, g]; exact e, hl⟩
theorem snoc_last {l : List Int} {x : Int} : (l ++ [x]).getD l.length 0 = x := by
  rw [List.getD_eq_getElem?_getD, List.getElem?_append_right (Nat.le_refl _), Nat.sub_self]
  rfl
theorem snoc_high {l : List Int} {x : Int} {k : Nat} (h : l.length < k) : (l ++ [x]).getD k 0 = 0 := getD_over (by rw [List.length_append, List.length_singleton]; omega)
/-- the head of a product -/
theorem mulP_top {l1 l2 : List Int} {x y : Int} (hx : x ≠ 0) (hy : y ≠ 0) : ∃ l, mulP (l1 ++ [x]) (l2 ++ [y]) = l ++ [x * y] ∧ l.length = l1.length + l2.length := by
  have hf : ∀ a, l1.length < a → (rs (l1 ++ [x])).at_ a = 0 := fun a ha => by rw [rs_at]; exact snoc_high ha
  have hg : ∀ a, l2.length < a → (rs (l2 ++ [y])).at_ a = 0 := fun a ha => by rw [rs_at]; exact snoc_high ha
  have top : (mulP (l1 ++ [x]) (l2 ++ [y])).getD (l1.length + l2.length) 0 = x * y := by
    rw [← rs_at, rs_mulP, PS.mul_top hg l1.length hf, rs_at, rs_at, snoc_last, snoc_last]
  have high : ∀ k, l1.length + l2.length < k → (mulP (l1 ++ [x]) (l2 ++ [y])).getD k 0 = 0 := fun k hk => by
    rw [← rs_at, rs_mulP, PS.mul_high hg l1.length hf hk]
  obtain ⟨l, e, hl⟩ := head_of (mulP_trim _ _) (by rw [top]; exact Int.mul_ne_zero hx hy) high
  rw [top] at e
  exact ⟨l, e, hl⟩
/-- dividing part · q by part: found so far, what is left of q -/
structure Exa (part q F G : List Int) : Prop where
  ft : trim F = F
  gt : trim G = G
  gb : ∀ x ∈ G, x ∈ q
  s : rs q = rs F + rs G
  fl : F.length ≤ q.length
  gl : G.length ≤ q.length
theorem Exa.start {part q : List Int} (hq : trim q = q) : Exa part q [] q := ⟨rfl, hq, fun x h => h, by rw [rs_nil]; grind, Nat.zero_le _, Nat.le_refl _⟩
theorem Exa.done {part q F : List Int} (h : Exa part q F []) (hq : trim q = q) : F = q := row_ext h.ft hq (by rw [h.s, rs_nil]; grind)
def stp (n : Nat) (g : Int) : List Int := List.replicate n 0 ++ [g]
theorem stp_trim {n : Nat} {g : Int} (hg : g ≠ 0) : trim (stp n g) = stp n g := trim_last _ _ hg
theorem trim_pre : ∀ (a : List Int) (x : Int), x ∈ trim a → x ∈ a := fun a x h => trim_mem h
theorem Exa.next {part q F G0 : List Int} {g : Int} (h : Exa part q F (G0 ++ [g])) : Exa part q (trim (addP F (stp G0.length g))) (trim G0) := by
  have es : rs (G0 ++ [g]) = rs G0 + rs (stp G0.length g) := by
    unfold stp
    rw [rs_app, rs_app, rs_zeros, List.length_replicate]
    grind
  refine ⟨trim_idem _, trim_idem _, fun x hx => h.gb x (List.mem_append_left _ (trim_mem hx)), ?_, ?_, ?_⟩
  · rw [rs_trim, rs_trim, rs_addP, h.s, es]
    grind
  · have h1 := trim_len (addP F (stp G0.length g))
    have h2 := h.fl
    have h3 := h.gl
    have h4 : (stp G0.length g).length = G0.length + 1 := by simp [stp]
    rw [addP_len, h4] at h1
    rw [List.length_append, List.length_singleton] at h3
    omega
  · have h1 := trim_len G0
    have h3 := h.gl
    rw [List.length_append, List.length_singleton] at h3
    omega
theorem rest_next {part G0 : List Int} {g : Int} : trim (addP (mulP part (G0 ++ [g])) (trim ((mulP (stp G0.length g) part).map ((-1 : Int) * ·)))) = mulP part (trim G0) := by
  refine row_ext (trim_idem _) (mulP_trim _ _) ?_
  have es : rs (G0 ++ [g]) = rs G0 + rs (stp G0.length g) := by
    unfold stp
    rw [rs_app, rs_app, rs_zeros, List.length_replicate]
    grind
  rw [rs_trim, rs_addP, rs_trim, rs_scale, rs_mulP, rs_mulP, rs_mulP, rs_trim, es]
  have : (PS.con (-1 : Int) : PS Int) = -1 := PS.ext fun k => by
    cases k with
    | zero => rfl
    | succ k => exact (Int.neg_zero).symm
  rw [this]
  grind
/-- the derivative's rows at a place -/
theorem led_val {P : List (List Int)} {x : Int} (k : Nat) : hv x ((led P).getD k []) = ((k + 1 : Nat) : Int) * hv x (P.getD (k + 1) []) := by
  have hn : hv x [] = 0 := rfl
  have e1 : rs ((led P).getD k []) = rs ((ledF 1 (P.drop 1)).getD k []) := by
    rw [← ps_at, ← ps_at]
    unfold led
    rw [ps_trim]
  rw [hv_rs e1, List.getD_eq_getElem?_getD, ledF_get, List.getElem?_drop, List.getD_eq_getElem?_getD, Nat.add_comm 1 k]
  cases P[k + 1]? with
  | none => show hv x [] = _ * hv x []; rw [hn, Int.mul_zero]
  | some r =>
    show hv x (trim (r.map (((k + 1 : Nat) : Int) * ·))) = ((k + 1 : Nat) : Int) * hv x r
    rw [hv_trim, hv_scl]
/-- .. and its length -/
theorem led_length {P : List (List Int)} (hP : TP P) (h2 : 2 ≤ P.length) : (led P).length = P.length - 1 := by
  rcases List.eq_nil_or_concat P with e | ⟨l, z, e⟩
  · subst e
    simp at h2
  · rw [List.concat_eq_append] at e
    have hz : z ≠ [] := fun hz => by
      have t := hP.1
      rw [e, trimP_snoc, if_pos hz] at t
      have := trimP_len l
      rw [t, List.length_append, List.length_singleton] at this
      omega
    have hzt : trim z = z := hP.2 z (by rw [e]; simp)
    subst e
    rw [List.length_append, List.length_singleton] at h2 ⊢
    have hl : (ledF 1 ((l ++ [z]).drop 1)).length = l.length := by
      rw [ledF_len, List.length_drop, List.length_append, List.length_singleton]
      omega
    rcases List.eq_nil_or_concat (ledF 1 ((l ++ [z]).drop 1)) with e2 | ⟨l2, z2, e2⟩
    · rw [e2] at hl
      simp at hl
      omega
    · rw [List.concat_eq_append] at e2
      have hl2 : l2.length = l.length - 1 := by
        rw [e2, List.length_append, List.length_singleton] at hl
        omega
      have g := ledF_get 1 ((l ++ [z]).drop 1) l2.length
      rw [e2, List.getElem?_append_right (Nat.le_refl _), Nat.sub_self, List.getElem?_drop, hl2, show 1 + (l.length - 1) = l.length by omega, List.getElem?_append_right (Nat.le_refl _), Nat.sub_self] at g
      have g : z2 = trim (z.map (((l.length : Nat) : Int) * ·)) := Option.some.inj g
      have hne : z2 ≠ [] := fun h0 => by
        rw [h0] at g
        have : rs (z.map (((l.length : Nat) : Int) * ·)) = 0 := by rw [← rs_trim, ← g, rs_nil]
        have hv0 : ∀ k : Nat, hv (k : Int) z = hv (k : Int) [] := fun k => by
          have h1 := hv_rs (x := (k : Int)) (a := z.map (((l.length : Nat) : Int) * ·)) (b := []) (by rw [this, rs_nil])
          rw [hv_scl] at h1
          have h1 : (l.length : Int) * hv (k : Int) z = 0 := h1
          show hv (k : Int) z = 0
          rcases Int.mul_eq_zero.mp h1 with q | q
          · omega
          · exact q
        exact hz (row_hv hzt rfl hv0)
      unfold led
      rw [e2, trimP_last _ _ hne, ← e2, hl]
      omega
end LW
/-! MO2: products of u y + v, factor by factor: numbers, lengths, discriminants. -/
namespace LW
open Lean.Grind
theorem hom_mul {k : Nat} {c : Nat → Int} {u1 v1 u v : Int} : Q.hom (k + 1) (Q.cul k c u1 v1) u v = Q.hom k c u v * (v1 * u - u1 * v) := by
  unfold Q.hom
  have e1 : sumN (k + 1 + 1) (fun j => Q.cul k c u1 v1 j * ((-v) ^ j * u ^ (k + 1 - j))) = sumN (k + 1 + 1) (fun j => 1 * ((if j ≤ k then c j * v1 else 0) * ((-v) ^ j * u ^ (k + 1 - j))) + 1 * ((if j = 0 then 0 else c (j - 1) * u1) * ((-v) ^ j * u ^ (k + 1 - j)))) := sumN_congr fun j hj => by
    unfold Q.cul
    grind
  rw [e1, sumN_lin]
  have e2 : sumN (k + 1 + 1) (fun j => (if j ≤ k then c j * v1 else 0) * ((-v) ^ j * u ^ (k + 1 - j))) = v1 * u * sumN (k + 1) fun j => c j * ((-v) ^ j * u ^ (k - j)) := by
    show sumN (k + 1) _ + (if k + 1 ≤ k then c (k + 1) * v1 else 0) * _ = _
    rw [if_neg (by omega), Int.zero_mul, Int.add_zero, ← sumN_mul]
    refine sumN_congr fun j hj => ?_
    rw [if_pos (by omega), show k + 1 - j = (k - j) + 1 by omega, Int.pow_succ]
    grind
  have e3 : sumN (k + 1 + 1) (fun j => (if j = 0 then 0 else c (j - 1) * u1) * ((-v) ^ j * u ^ (k + 1 - j))) = u1 * (-v) * sumN (k + 1) fun j => c j * ((-v) ^ j * u ^ (k - j)) := by
    rw [sumN_head, if_pos rfl, Int.zero_mul, Int.zero_add, ← sumN_mul]
    refine sumN_congr fun j hj => ?_
    rw [if_neg (by omega), Nat.add_sub_cancel, show k + 1 - (j + 1) = k - j by omega, Int.pow_succ]
    grind
  rw [e2, e3]
  grind
theorem tp_row {P : List (List Int)} (h : TR P) (j : Nat) : trim (P.getD j []) = P.getD j [] := by
  rw [List.getD_eq_getElem?_getD]
  cases hj : P[j]? with
  | none => rfl
  | some r => exact h r (List.mem_of_getElem? hj)
/-- the rows of a product with u y + v -/
theorem mulPP_lin {P : List (List Int)} {u v : List Int} (j : Nat) : (mulPP P [v, u]).getD j [] = trim (addP (mulP (P.getD j []) v) (if j = 0 then [] else mulP (P.getD (j - 1) []) u)) := by
  refine row_ext (tp_row (mulPP_TP _ _).2 j) (trim_idem _) ?_
  have h : (ps (mulPP P [v, u])).at_ j = (ps P * ps [v, u]).at_ j := by rw [ps_mulPP]
  have e : ps [v, u] = PS.con (rs v) + PS.X * PS.con (rs u) := by
    rw [ps_cons, ps_cons, ps_nil]
    grind
  have ed : ps P * ps [v, u] = ps P * PS.con (rs v) + PS.X * (ps P * PS.con (rs u)) := by
    rw [e]
    grind
  rw [ps_at, ed, PS.add_at, PS.mul_con', ps_at] at h
  rw [h, rs_trim, rs_addP, rs_mulP]
  congr 1
  cases j with
  | zero =>
    rw [if_pos rfl, rs_nil]
    show (PS.X * (ps P * PS.con (rs u))).at_ 0 = 0
    rw [PS.mul_0]
    have : (PS.X : PS (PS Int)).at_ 0 = 0 := rfl
    rw [this]
    grind
  | succ j =>
    rw [if_neg (by omega), Nat.add_sub_cancel, rs_mulP, PS.mul_s]
    have x0 : (PS.X : PS (PS Int)).at_ 0 = 0 := rfl
    have x1 : ((PS.X : PS (PS Int)).tl * (ps P * PS.con (rs u))).at_ j = (ps P * PS.con (rs u)).at_ j := by
      have : (PS.X : PS (PS Int)).tl = 1 := PS.ext fun k => by cases k <;> rfl
      rw [this]
      congr 1
      grind
    have x2 : (ps P * PS.con (rs u)).at_ j = rs (P.getD j []) * rs u := PS.mul_con' (ps P) (rs u) j
    rw [x0, x1, x2]
    grind
theorem lin_val {P : List (List Int)} {u v : List Int} {x : Int} {k : Nat} (hl : P.length = k + 1) (j : Nat) : hv x ((mulPP P [v, u]).getD j []) = Q.cul k (fun i => hv x (P.getD i [])) (hv x u) (hv x v) j := by
  rw [mulPP_lin, hv_trim, hv_addP, hv_mulP]
  unfold Q.cul
  congr 1
  · split
    · rfl
    · have : P.getD j [] = [] := by
        rw [List.getD_eq_getElem?_getD, List.getElem?_eq_none (by omega)]
        rfl
      rw [this]
      show 0 * _ = 0
      omega
  · split
    · rfl
    · rw [hv_mulP]
/-- a polynomial's length by its series -/
theorem pol_len_of {P : List (List Int)} (hP : TP P) {n : Nat} (h1 : (ps P).at_ n ≠ 0) (h2 : ∀ k, n < k → (ps P).at_ k = 0) : P.length = n + 1 := by
  have over : ∀ k, P.length ≤ k → (ps P).at_ k = 0 := fun k hk => by
    rw [ps_at, List.getD_eq_getElem?_getD, List.getElem?_eq_none hk]
    exact rs_nil
  rcases List.eq_nil_or_concat P with e | ⟨l, z, e⟩
  · subst e
    exact absurd (over n (Nat.zero_le _)) h1
  · rw [List.concat_eq_append] at e
    have hz : z ≠ [] := fun hz => by
      have t := hP.1
      rw [e, trimP_snoc, if_pos hz] at t
      have := trimP_len l
      rw [t, List.length_append, List.length_singleton] at this
      omega
    have hzt : trim z = z := hP.2 z (by rw [e]; simp)
    have g : (ps P).at_ l.length ≠ 0 := by
      rw [ps_at, e, List.getD_eq_getElem?_getD, List.getElem?_append_right (Nat.le_refl _), Nat.sub_self]
      exact rs_ne hzt hz
    have hl : P.length = l.length + 1 := by rw [e, List.length_append, List.length_singleton]
    have a1 : ¬ n < l.length := fun hn => g (h2 _ hn)
    have a2 : ¬ l.length < n := fun hn => h1 (over n (by omega))
    omega
theorem last_ne {P : List (List Int)} (hP : TP P) {n : Nat} (hl : P.length = n + 1) : P.getD n [] ≠ [] := by
  rcases List.eq_nil_or_concat P with e | ⟨l, z, e⟩
  · subst e
    simp at hl
  · rw [List.concat_eq_append] at e
    have hz : z ≠ [] := fun hz => by
      have t := hP.1
      rw [e, trimP_snoc, if_pos hz] at t
      have := trimP_len l
      rw [t, List.length_append, List.length_singleton] at this
      omega
    have hn : n = l.length := by
      rw [e, List.length_append, List.length_singleton] at hl
      omega
    rw [e, hn, List.getD_eq_getElem?_getD, List.getElem?_append_right (Nat.le_refl _), Nat.sub_self]
    exact hz
theorem lin_length {P : List (List Int)} {u v : List Int} {k : Nat} (hP : TP P) (hl : P.length = k + 1) (hu : trim u = u) (hne : u ≠ []) : (mulPP P [v, u]).length = k + 2 := by
  refine pol_len_of (n := k + 1) (mulPP_TP _ _) ?_ fun j hj => ?_
  · rw [ps_at, mulPP_lin, rs_trim, rs_addP, if_neg (by omega), Nat.add_sub_cancel]
    have : P.getD (k + 1) [] = [] := by
      rw [List.getD_eq_getElem?_getD, List.getElem?_eq_none (by omega)]
      rfl
    rw [this, rs_mulP, rs_nil, rs_mulP]
    intro z
    have z : rs (P.getD k []) * rs u = 0 := by grind
    rcases ps_nz _ _ z with h | h
    · exact rs_ne (tp_row hP.2 k) (last_ne hP hl) h
    · exact rs_ne hu hne h
  · rw [ps_at, mulPP_lin, rs_trim, rs_addP, if_neg (by omega)]
    have g : ∀ i, k + 1 ≤ i → P.getD i [] = [] := fun i hi => by
      rw [List.getD_eq_getElem?_getD, List.getElem?_eq_none (by omega)]
      rfl
    rw [g j (by omega), g (j - 1) (by omega), rs_mulP, rs_mulP, rs_nil]
    grind
theorem lin_rows {P : List (List Int)} {u v : List Int} {k b d : Nat} (hk : k ≤ 3) (hl : P.length = k + 1) (n1 : ∀ r ∈ P, r.length ≤ k + 1) (b1 : ∀ r ∈ P, BM (2 ^ b) r) (lu : u.length ≤ 2) (lv : v.length ≤ 2) (bu : BM (2 ^ d) u) (bv : BM (2 ^ d) v) :
    ∀ r ∈ mulPP P [v, u], r.length ≤ k + 2 ∧ BM (2 ^ (b + d + 4)) r := by
  intro r hr
  obtain ⟨j, hj, e⟩ := List.getElem_of_mem hr
  have e2 : (mulPP P [v, u]).getD j [] = r := by
    rw [List.getD_eq_getElem?_getD, List.getElem?_eq_getElem hj, e]
    rfl
  have key : ∀ (i : Nat) (w : List Int), w.length ≤ 2 → BM (2 ^ d) w → (mulP (P.getD i []) w).length ≤ k + 2 ∧ BM (2 ^ (b + d + 3)) (mulP (P.getD i []) w) := fun i w lw bw => by
    have h1 : (P.getD i []).length ≤ k + 1 ∧ BM (2 ^ b) (P.getD i []) := by
      rw [List.getD_eq_getElem?_getD]
      cases hi : P[i]? with
      | none => exact ⟨Nat.zero_le _, fun x hx => (nomatch hx)⟩
      | some s => exact ⟨n1 s (List.mem_of_getElem? hi), b1 s (List.mem_of_getElem? hi)⟩
    refine ⟨?_, (BM.mulP h1.2 bw).up ?_⟩
    · have := mulP_len (P.getD i []) w
      have := h1.1
      omega
    · rw [show b + d + 3 = 3 + (b + d) by omega, Nat.pow_add 2 3, Nat.pow_add 2 b, ← Nat.mul_assoc]
      refine Nat.mul_le_mul_right _ ?_
      have : (P.getD i []).length * w.length ≤ 4 * 2 := Nat.mul_le_mul (by have := h1.1; omega) lw
      omega
  rw [← e2, mulPP_lin]
  have k1 := key j v lv bv
  have k2 : (if j = 0 then [] else mulP (P.getD (j - 1) []) u).length ≤ k + 2 ∧ BM (2 ^ (b + d + 3)) (if j = 0 then [] else mulP (P.getD (j - 1) []) u) := by
    split
    · exact ⟨Nat.zero_le _, fun x hx => (nomatch hx)⟩
    · exact key (j - 1) u lu bu
  refine ⟨?_, BM.trim ((k1.2.addP k2.2).up ?_)⟩
  · have := trim_len (addP (mulP (P.getD j []) v) (if j = 0 then [] else mulP (P.getD (j - 1) []) u))
    rw [addP_len] at this
    omega
  · have e : 2 ^ (b + d + 4) = 2 ^ (b + d + 3) * 2 := Nat.pow_succ 2 (b + d + 3)
    rw [e]
    omega
/-! ### the whole product -/
abbrev Lin := List (List Int × List Int)
def uu (L : Lin) (k : Nat) : List Int := (L.getD k ([], [])).1
def vv (L : Lin) (k : Nat) : List Int := (L.getD k ([], [])).2
def twoP (b : Int) (L : Lin) : Nat → List (List Int)
  | 0 => [[b]]
  | k + 1 => mulPP (twoP b L k) [vv L k, uu L k]
def gpv (L : Lin) (x : Int) (k n : Nat) : Int := hv x (uu L k) * hv x (vv L n) - hv x (vv L k) * hv x (uu L n)
def Egv (L : Lin) (x : Int) (k : Nat) : Nat → Int
  | 0 => 1
  | n + 1 => Egv L x k n * gpv L x k n * gpv L x k n
def Dgv (L : Lin) (x : Int) : Nat → Int
  | 0 => 1
  | k + 1 => Dgv L x k * Egv L x k k
def Ggv (L : Lin) (x u v : Int) : Nat → Int
  | 0 => 1
  | n + 1 => Ggv L x u v n * (hv x (vv L n) * u - hv x (uu L n) * v)
theorem Ggv_sq {L : Lin} {x : Int} {k : Nat} : ∀ n, Ggv L x (hv x (uu L k)) (hv x (vv L k)) n * Ggv L x (hv x (uu L k)) (hv x (vv L k)) n = Egv L x k n
  | 0 => rfl
  | n + 1 => by
    have ih := Ggv_sq (L := L) (x := x) (k := k) n
    show Ggv L x _ _ n * (hv x (vv L n) * hv x (uu L k) - hv x (uu L n) * hv x (vv L k)) * (Ggv L x _ _ n * (hv x (vv L n) * hv x (uu L k) - hv x (uu L n) * hv x (vv L k))) = Egv L x k n * gpv L x k n * gpv L x k n
    rw [← ih]
    unfold gpv
    grind
/-- what is known of the factors -/
structure OkL (L : Lin) : Prop where
  l : 2 ≤ L.length ∧ L.length ≤ 4
  u : ∀ k, k < L.length → trim (uu L k) = uu L k ∧ uu L k ≠ [] ∧ (uu L k).length ≤ 2 ∧ BM (2 ^ 21) (uu L k)
  v : ∀ k, k < L.length → trim (vv L k) = vv L k ∧ (vv L k).length ≤ 2 ∧ BM (2 ^ 21) (vv L k)
theorem two_ok {b : Int} {L : Lin} (h : OkL L) (hb : b ≠ 0) (hb2 : b.natAbs ≤ 4) : ∀ k, k ≤ L.length → TP (twoP b L k) ∧ (twoP b L k).length = k + 1 ∧ (∀ r ∈ twoP b L k, r.length ≤ k + 1 ∧ BM (2 ^ (2 + 25 * k)) r)
  | 0, _ => by
    refine ⟨⟨trimP_last [] [b] (by simp), fun r hr => by cases List.mem_singleton.mp hr; exact trim_last [] b hb⟩, rfl, fun r hr => ?_⟩
    cases List.mem_singleton.mp hr
    exact ⟨Nat.le_refl _, fun x hx => by cases List.mem_singleton.mp hx; exact hb2⟩
  | k + 1, hk => by
    obtain ⟨t, l, n⟩ := two_ok h hb hb2 k (by omega)
    obtain ⟨u1, u2, u3, u4⟩ := h.u k (by omega)
    obtain ⟨v1, v2, v3⟩ := h.v k (by omega)
    refine ⟨mulPP_TP _ _, lin_length t l u1 u2, fun r hr => ?_⟩
    have := lin_rows (k := k) (b := 2 + 25 * k) (d := 21) (by have := h.l; omega) l (fun r hr => (n r hr).1) (fun r hr => (n r hr).2) u3 v2 u4 v3 r hr
    rw [show 2 + 25 * k + 21 + 4 = 2 + 25 * (k + 1) by omega] at this
    exact this
theorem two_cf {b : Int} {L : Lin} (h : OkL L) (hb : b ≠ 0) (hb2 : b.natAbs ≤ 4) {x : Int} {k : Nat} (hk : k ≤ L.length) (j : Nat) : hv x ((twoP b L (k + 1)).getD j []) = Q.cul k (fun i => hv x ((twoP b L k).getD i [])) (hv x (uu L k)) (hv x (vv L k)) j :=
  lin_val (two_ok h hb hb2 k hk).2.1 j
theorem hom_congr {n : Nat} {c d : Nat → Int} {u v : Int} (h : ∀ j, j ≤ n → c j = d j) : Q.hom n c u v = Q.hom n d u v := sumN_congr fun j hj => by rw [h j (by omega)]
theorem two_hom {b : Int} {L : Lin} (h : OkL L) (hb : b ≠ 0) (hb2 : b.natAbs ≤ 4) {x u v : Int} : ∀ k, k ≤ L.length → Q.hom k (fun i => hv x ((twoP b L k).getD i [])) u v = b * Ggv L x u v k
  | 0, _ => by
    show 0 + hv x [b] * ((-v) ^ 0 * u ^ (0 - 0)) = b * 1
    show 0 + (b + x * 0) * ((-v) ^ 0 * u ^ (0 - 0)) = b * 1
    simp
  | k + 1, hk => by
    rw [hom_congr fun j _ => two_cf h hb hb2 (x := x) (k := k) (by omega) j, hom_mul, two_hom h hb hb2 k (by omega)]
    show _ = b * (Ggv L x u v k * (hv x (vv L k) * u - hv x (uu L k) * v))
    grind
/-- the discriminant of the product -/
theorem two_disc {b : Int} {L : Lin} (h : OkL L) (hb : b ≠ 0) (hb2 : b.natAbs ≤ 4) {x : Int} : ∀ k, k + 1 ≤ L.length → Q.disc (k + 1) (fun i => hv x ((twoP b L (k + 1)).getD i [])) = b ^ (2 * k) * Dgv L x (k + 1)
  | 0, _ => by
    show Q.disc 1 _ = b ^ 0 * (1 * 1)
    rw [Int.pow_zero]
    exact Q.den_num _ 2 1
  | k + 1, hk => by
    have hl := h.l
    have e1 : Q.disc (k + 1 + 1) (fun i => hv x ((twoP b L (k + 1 + 1)).getD i [])) = Q.disc (k + 1 + 1) (Q.cul (k + 1) (fun i => hv x ((twoP b L (k + 1)).getD i [])) (hv x (uu L (k + 1))) (hv x (vv L (k + 1)))) :=
      Q.disc_congr (by omega) (by omega) fun j _ => two_cf h hb hb2 (by omega) j
    rw [e1, Q.disc_mul (by omega) (by omega), two_disc h hb hb2 k (by omega), two_hom h hb hb2 (k + 1) (by omega)]
    have sq := Ggv_sq (L := L) (x := x) (k := k + 1) (k + 1)
    show _ = b ^ (2 * (k + 1)) * (Dgv L x (k + 1) * Egv L x (k + 1) (k + 1))
    rw [← sq, show 2 * (k + 1) = 2 * k + 1 + 1 by omega, Int.pow_succ, Int.pow_succ]
    grind
end LW
namespace LW
open PySem PySem.Spec TL
open L2 (atI ixN)
def Li (xs : List Int) : List PyData := xs.map PyData.int
@[simp] theorem Li_len {xs : List Int} : (Li xs).length = xs.length := List.length_map _
theorem Li_get {xs : List Int} {n : Nat} : (Li xs)[n]? = xs[n]?.map PyData.int := List.getElem?_map ..
@[simp] theorem Li_one {x : Int} : Li [x] = [.int x] := rfl
theorem Li_app {a b : List Int} : Li (a ++ b) = Li a ++ Li b := List.map_append
theorem Li_empty {xs : List Int} : (Li xs).isEmpty = xs.isEmpty := by cases xs <;> rfl
theorem Li_mem {xs : List Int} {y : PyData} (h : y ∈ Li xs) : ∃ x ∈ xs, y = .int x := by
  obtain ⟨x, hx, rfl⟩ := List.mem_map.mp h
  exact ⟨x, hx, rfl⟩
abbrev Rw' (xs : List Int) : PyData := .tuple (Li xs)
def Lp (P : Pol) : List PyData := P.map Rw'
@[simp] theorem Lp_len {P : Pol} : (Lp P).length = P.length := List.length_map _
theorem Lp_get {P : Pol} {n : Nat} : (Lp P)[n]? = P[n]?.map Rw' := List.getElem?_map ..
theorem Lp_empty {P : Pol} : (Lp P).isEmpty = P.isEmpty := by cases P <;> rfl
theorem Lp_mem {P : Pol} {y : PyData} (h : y ∈ Lp P) : ∃ x ∈ P, y = Rw' x := by
  obtain ⟨x, hx, rfl⟩ := List.mem_map.mp h
  exact ⟨x, hx, rfl⟩
abbrev Pl (P : Pol) : PyData := .tuple (Lp P)
def Fq (q : Rat) : PyData := .tuple [.int q.num, .int (q.den : Int)]
theorem cut_take {β : Type} {xs : List β} {n : Nat} (h : n ≤ xs.length) : cutL xs none (some (n : Int)) = xs.take n := by
  unfold cutL
  rw [show HT.sIx xs.length 0 none = 0 from rfl, show HT.sIx xs.length xs.length (some (n : Int)) = min n xs.length from HT.sIx_nat xs.length xs.length n]
  rw [List.drop_zero, Nat.sub_zero, Nat.min_eq_left h]
/-- a list or a tuple -/
def SqD (μ : Mu) (w : Wv) (xs : List PyData) : Prop := dataOf μ w = some (.list xs) ∨ dataOf μ w = some (.tuple xs)
theorem sqd_len {μ : Mu} {w : Wv} {xs : List PyData} (h : SqD μ w xs) : gLen [w] μ = .ok (.d (.int xs.length)) μ := by
  rcases h with h | h <;> (unfold gLen; simp only [h] <;> rfl)
theorem sqd_ix {μ : Mu} {w : Wv} {xs : List PyData} (h : SqD μ w xs) {n : Nat} {x : PyData} (hn : xs[n]? = some x) : gIx w (.d (.int n)) μ = .ok (.d x) μ := by
  have e : atI xs (n : Int) = some x := at_n hn
  rcases h with h | h <;> (unfold gIx; simp only [h, e])
theorem sqd_take {μ : Mu} {w : Wv} {xs : List PyData} (h : SqD μ w xs) {n : Nat} (hn : n ≤ xs.length) : ∃ u, gSl w none (some (n : Int)) μ = .ok u μ ∧ gTuple [u] μ = .ok (.d (.tuple (xs.take n))) μ := by
  have e : cutL xs none (some (n : Int)) = xs.take n := cut_take hn
  rcases h with h | h
  · refine ⟨.d (.list (xs.take n)), ?_, rfl⟩
    unfold gSl
    simp only [h, e] <;> rfl
  · refine ⟨.d (.tuple (xs.take n)), ?_, rfl⟩
    unfold gSl
    simp only [h, e] <;> rfl
theorem sqd_list {μ : Mu} {w : Wv} {xs : List PyData} (h : SqD μ w xs) : gList [w] μ = .ok xs μ := by
  rcases h with h | h <;> (unfold gList; simp only [h])
theorem sqd_it {ρ : Rho} {μ : Mu} {f : Ev} {xs : List PyData} {x : PyData} (h : f ρ μ = .ok (.d x) μ) (hx : x = .list xs ∨ x = .tuple xs) : iAny f ρ μ = .ok ⟨xs, []⟩ μ := by
  rw [x_iany, h]
  rcases hx with rfl | rfl <;> rfl
theorem bits_le {i : Int} {n : Nat} (h : i.natAbs < 2 ^ n) : Builtin.Int.intBits i ≤ n + 1 := by
  unfold Builtin.Int.intBits
  split
  · omega
  · by_cases h0 : i.natAbs = 0
    · rw [h0]
      simp
    · have := (Nat.log2_lt h0).mpr h
      omega
/-- small enough for products and quotients -/
def Sml (x : Int) : Prop := x.natAbs < 2 ^ 8000
def Sm (xs : List Int) : Prop := ∀ x ∈ xs, Sml x
theorem Sml.of {x : Int} {k : Nat} (h : x.natAbs ≤ 2 ^ k) (hk : k ≤ 7900) : Sml x := Nat.lt_of_le_of_lt h (Nat.pow_lt_pow_right (by omega) (by omega))
theorem BM.sm {a : List Int} {M k : Nat} (h : BM M a) (hM : M ≤ 2 ^ k) (hk : k ≤ 7900) : Sm a := fun x hx => .of (Nat.le_trans (h x hx) hM) hk
theorem w_times {μ : Mu} {i j : Int} (h1 : Sml i) (h2 : Sml j) : gTimes (.d (.int i)) (.d (.int j)) μ = .ok (.d (.int (i * j))) μ := by
  show (if mulOk i j = true then Out.ok (wI (i * j)) μ else Out.bad) = _
  rw [if_pos]
  unfold mulOk
  have a := bits_le h1
  have b := bits_le h2
  exact @decide_eq_true _ (Classical.propDecidable _) (by omega)
theorem w_nolong {i j : Int} (h : 0 < j) (h2 : Sml j) : Builtin.divisionGoesByPylong i j = false := by
  unfold Builtin.divisionGoesByPylong
  have hj : (j == 0) = false := by
    rw [beq_eq_false_iff_ne]
    omega
  have hl : j.natAbs.log2 < 8000 := (Nat.log2_lt (by omega)).mpr h2
  simp only [hj]
  have : ¬ (j.natAbs.log2 / 30 + 1 > 300) := by omega
  simp [this]
theorem w_div {μ : Mu} {i j : Int} (h : 0 < j) (h2 : Sml j) : gDiv (.d (.int i)) (.d (.int j)) μ = .ok (.d (.int (i / j))) μ := by
  show (if j = 0 ∨ Builtin.divisionGoesByPylong i j = true then Out.bad else Out.ok (wI (i.fdiv j)) μ) = _
  rw [if_neg, Int.fdiv_eq_ediv_of_nonneg _ (by omega)]
  · rw [w_nolong h h2]
    simp
    omega
theorem lc_ints {g : Int → Int} {it : TL.Iv} {xs : List Int} {i : Nat} {e : Ev} {ρ : Rho} {μ μ1 : Mu} (hit : it ρ μ = .ok ⟨Li xs, []⟩ μ1) (hl : xs.length ≤ 16777216)
    (he : ∀ x ∈ xs, e ((ρ.set i none).set i (some (.d (.int x)))) μ1 = .ok (.d (.int (g x))) μ1) : lLc it (gNm i) bYes e [i] ρ μ = .ok (Li (xs.map g)) μ1 := by
  have z : (Li xs).map (fun x => match x with | .int a => PyData.int (g a) | y => y) = Li (xs.map g) := by
    unfold Li
    rw [List.map_map, List.map_map]
    rfl
  rw [← z]
  refine lc_map (g := fun x => match x with | .int a => PyData.int (g a) | y => y) hit (by rw [Li_len]; exact hl) fun y hy => ?_
  obtain ⟨x, hx, rfl⟩ := Li_mem hy
  exact he x hx
/-- .. any function on a mapped list -/
theorem lc_of {A : Type} {f : A → PyData} {g : A → PyData} {it : TL.Iv} {xs : List A} {i : Nat} {e : Ev} {ρ : Rho} {μ μ1 : Mu} (hit : it ρ μ = .ok ⟨xs.map f, []⟩ μ1) (hl : xs.length ≤ 16777216)
    (he : ∀ x ∈ xs, e ((ρ.set i none).set i (some (.d (f x)))) μ1 = .ok (.d (g x)) μ1) : lLc it (gNm i) bYes e [i] ρ μ = .ok (xs.map g) μ1 := by
  refine lcT_eq hit (by rw [List.length_map]; exact hl) (by rw [List.length_map, List.length_map]) fun k x z hx hz => ?_
  rw [List.getElem?_map] at hx hz
  cases hk : xs[k]? with
  | none => rw [hk] at hx; cases hx
  | some a =>
    rw [hk] at hx hz
    cases hx
    cases hz
    refine ⟨_, rfl, ?_⟩
    have := he a (List.mem_of_getElem? hk)
    exact this
theorem asg_ok {f : Ev} {i : Nat} {ρ : Rho} {μ μ' : Mu} {w : Wv} (h : f ρ μ = .ok w μ') : sAsg f (gNm i) ρ μ = .ok (.nx (ρ.set i (some w))) μ' := by
  rw [x_asg, h]
  rfl
theorem seq_ok {a b : Sv} {ρ ρ' : Rho} {μ μ' : Mu} (h : a ρ μ = .ok (.nx ρ') μ') : sSeq a b ρ μ = b ρ' μ' := by
  rw [x_seq, h]
  rfl
theorem run_rt {n : Nat} {b : Sv} {ws : List Wv} {μ μ' : Mu} {x : PyData} (h : b (initR n ws) μ = .ok (.rt (.d x)) μ') : runD n b ws μ = .ok (.d x) (μ'.take μ.length) := by
  unfold runD
  rw [h]
  rfl
theorem intL_at {lo : Int} {n k : Nat} (h : k < n) : (intL lo n 1)[k]? = some (.int (lo + k)) := by
  unfold intL
  rw [List.getElem?_map, List.getElem?_range h]
  simp
theorem nat_abs_int (a : Int) : (if a < 0 then -a else a) = (a.natAbs : Int) := by split <;> omega
theorem max_two {μ : Mu} {a b : Nat} : gMax [.d (.int a), .d (.int b)] μ = .ok (.d (.int ((max a b : Nat) : Int))) μ := by
  show Out.ok (wI (if (b : Int) > (a : Int) then (b : Int) else (a : Int))) μ = _
  have : (if (b : Int) > (a : Int) then (b : Int) else (a : Int)) = ((max a b : Nat) : Int) := by split <;> omega
  rw [this] <;> rfl
theorem v_slt' {μ : Mu} {xs : List PyData} {lo hi : Option Int} : gSl (.d (.tuple xs)) lo hi μ = .ok (.d (.tuple (cutL xs lo hi))) μ := rfl
end LW
namespace LW
open PySem PySem.Spec TL
open L2 (atI ixN)
/-- a loop that may hand back a value within -/
theorem loopF_ret {P : Nat → Rho → Mu → Prop} {Q : Wv → Mu → Prop} {xs0 : Cell} {t : Gv} {b : Sv} : ∀ (xs : Cell) (n : Nat) (ρ : Rho) (μ : Mu), P n ρ μ →
    (∀ (k : Nat) x ρ μ, xs[k]? = some x → P (n + k) ρ μ → ∃ ρ1 μ1, t (.d x) ρ μ = .ok ρ1 μ1 ∧ ((∃ ρ' μ', b ρ1 μ1 = .ok (.nx ρ') μ' ∧ P (n + k + 1) ρ' μ') ∨ ∃ w μ', b ρ1 μ1 = .ok (.rt w) μ' ∧ Q w μ')) →
    (∃ ρ' μ', loopF ⟨xs0, []⟩ t b xs ρ μ = .ok (.nx ρ') μ' ∧ P (n + xs.length) ρ' μ') ∨ ∃ w μ', loopF ⟨xs0, []⟩ t b xs ρ μ = .ok (.rt w) μ' ∧ Q w μ'
  | [], n, ρ, μ, h, _ => by
    refine .inl ⟨ρ, μ, ?_, h⟩
    unfold loopF
    rw [if_pos tied_nil]
  | x :: xs, n, ρ, μ, h, hb => by
    obtain ⟨ρ1, μ1, d1, q⟩ := hb 0 x ρ μ rfl h
    rcases q with ⟨ρ2, μ2, d2, h2⟩ | ⟨w, μ2, d2, h2⟩
    · have ih := loopF_ret (P := P) (Q := Q) (xs0 := xs0) (t := t) (b := b) xs (n + 1) ρ2 μ2 h2 fun k y ρ μ hk hp => by
        have := hb (k + 1) y ρ μ (by simpa using hk) (by rw [show n + (k + 1) = n + 1 + k by omega]; exact hp)
        rw [show n + (k + 1) + 1 = n + 1 + k + 1 by omega] at this
        exact this
      rcases ih with ⟨ρ3, μ3, d3, h3⟩ | ⟨w, μ3, d3, h3⟩
      · refine .inl ⟨ρ3, μ3, ?_, by rw [List.length_cons, show n + (xs.length + 1) = n + 1 + xs.length by omega]; exact h3⟩
        unfold loopF
        rw [if_pos tied_nil, d1]
        simp only [x_calm, Out.bind_ok, d2]
        exact d3
      · refine .inr ⟨w, μ3, ?_, h3⟩
        unfold loopF
        rw [if_pos tied_nil, d1]
        simp only [x_calm, Out.bind_ok, d2]
        exact d3
    · refine .inr ⟨w, μ2, ?_, h2⟩
      unfold loopF
      rw [if_pos tied_nil, d1]
      simp only [x_calm, Out.bind_ok, d2]
theorem for_ret (P : Nat → Rho → Mu → Prop) (Q : Wv → Mu → Prop) {it : TL.Iv} {xs : Cell} {t : Gv} {b : Sv} {ρ : Rho} {μ μ1 : Mu} (hit : it ρ μ = .ok ⟨xs, []⟩ μ1) (h0 : P 0 ρ μ1)
    (hb : ∀ (k : Nat) x ρ μ, xs[k]? = some x → P k ρ μ → ∃ ρ1 μ1, t (.d x) ρ μ = .ok ρ1 μ1 ∧ ((∃ ρ' μ', b ρ1 μ1 = .ok (.nx ρ') μ' ∧ P (k + 1) ρ' μ') ∨ ∃ w μ', b ρ1 μ1 = .ok (.rt w) μ' ∧ Q w μ')) :
    (∃ ρ' μ', sFor it t b ρ μ = .ok (.nx ρ') μ' ∧ P xs.length ρ' μ') ∨ ∃ w μ', sFor it t b ρ μ = .ok (.rt w) μ' ∧ Q w μ' := by
  have := loopF_ret (P := P) (Q := Q) (xs0 := xs) (t := t) (b := b) xs 0 ρ μ1 h0 (by simpa using hb)
  rw [Nat.zero_add] at this
  unfold sFor
  rw [hit]
  exact this
end LW
namespace LW
open PySem PySem.Spec TL
open L2 (atI ixN)
theorem run_ret0 {n : Nat} {b : Sv} {ws : List Wv} {μ : Mu} {x : PyData} (h : b (initR n ws) μ = .ok (.rt (.d x)) μ) : runD n b ws μ = .ok (.d x) μ := by
  rw [run_rt h, take_self]
theorem Li_at' {a : List Int} {n : Nat} (h : n < a.length) : atI (Li a) (n : Int) = some (.int (a.getD n 0)) := at_n (by rw [Li_get, List.getD_eq_getElem?_getD, List.getElem?_eq_getElem h]; rfl)
end LW
namespace LW
open PySem PySem.Spec TL
open L2 (atI ixN)
/-- a comprehension that leaves out -/
theorem loopC_filter {p : PyData → Bool} {xs0 : Cell} {i : Nat} {c : Bv} {e : Ev} {ρ : Rho} {μ : Mu} (hi : ∀ x, e (ρ.set i (some (.d x))) μ = .ok (.d x) μ) : ∀ (xs acc : Cell), acc.length + xs.length ≤ 16777216 → (∀ x ∈ xs, c (ρ.set i (some (.d x))) μ = .ok (p x) μ) →
    loopC ⟨xs0, []⟩ (gNm i) c e ρ xs acc μ = .ok (acc ++ xs.filter p) μ
  | [], acc, _, _ => by
    unfold loopC
    rw [if_pos tied_nil, List.filter_nil, List.append_nil]
  | x :: xs, acc, hl, hc => by
    rw [List.length_cons] at hl
    unfold loopC
    rw [if_pos tied_nil]
    simp only [x_nm, x_calm, Out.bind_ok, hc x List.mem_cons_self, hi]
    cases hp : p x with
    | true =>
      rw [if_pos rfl]
      unfold lcPut
      simp only [x_calm, Out.bind_ok]
      rw [if_pos (by omega)]
      simp only [Out.bind_ok]
      rw [loopC_filter hi xs _ (by rw [List.length_append, List.length_singleton]; omega) fun y hy => hc y (List.mem_cons_of_mem _ hy), List.filter_cons, hp, if_pos rfl, List.append_assoc, List.singleton_append]
    | false =>
      rw [if_neg (by decide), loopC_filter hi xs _ (by omega) fun y hy => hc y (List.mem_cons_of_mem _ hy), List.filter_cons, hp, if_neg (by decide)]
theorem lc_filter {p : PyData → Bool} {it : TL.Iv} {xs : Cell} {i : Nat} {c : Bv} {e : Ev} {ρ : Rho} {μ μ1 : Mu} (hit : it ρ μ = .ok ⟨xs, []⟩ μ1) (hl : xs.length ≤ 16777216) (hi : ∀ x, e ((ρ.set i none).set i (some (.d x))) μ1 = .ok (.d x) μ1)
    (hc : ∀ x ∈ xs, c ((ρ.set i none).set i (some (.d x))) μ1 = .ok (p x) μ1) : lLc it (gNm i) c e [i] ρ μ = .ok (xs.filter p) μ1 := by
  have := loopC_filter (p := p) (xs0 := xs) (i := i) (c := c) (e := e) (ρ := ρ.set i none) (μ := μ1) hi xs [] (by simpa using hl) hc
  rw [List.nil_append] at this
  show (it ρ μ).bind (fun i1 μ1 => loopC i1 (gNm i) c e (wipeR ρ [i]) i1.xs [] μ1) = _
  rw [hit]
  exact this
/-- short loops -/
theorem for_nil {it : TL.Iv} {t : Gv} {b : Sv} {ρ : Rho} {μ μ1 : Mu} (hit : it ρ μ = .ok ⟨[], []⟩ μ1) : sFor it t b ρ μ = .ok (.nx ρ) μ1 := by
  unfold sFor
  rw [hit]
  show loopF _ _ _ _ _ _ = _
  unfold loopF
  rw [if_pos tied_nil]
theorem for_one {it : TL.Iv} {i : Nat} {b : Sv} {ρ ρ' : Rho} {μ μ1 μ2 : Mu} {x : PyData} (hit : it ρ μ = .ok ⟨[x], []⟩ μ1) (hb : b (ρ.set i (some (.d x))) μ1 = .ok (.nx ρ') μ2) : sFor it (gNm i) b ρ μ = .ok (.nx ρ') μ2 := by
  unfold sFor
  rw [hit]
  show loopF _ _ _ _ _ _ = _
  unfold loopF
  rw [if_pos tied_nil]
  simp only [x_nm, x_calm, Out.bind_ok, hb]
  unfold loopF
  rw [if_pos tied_nil]
theorem for_two {it : TL.Iv} {i : Nat} {b : Sv} {ρ ρ1 ρ' : Rho} {μ μ1 μ2 μ3 : Mu} {x y : PyData} (hit : it ρ μ = .ok ⟨[x, y], []⟩ μ1) (h1 : b (ρ.set i (some (.d x))) μ1 = .ok (.nx ρ1) μ2) (h2 : b (ρ1.set i (some (.d y))) μ2 = .ok (.nx ρ') μ3) : sFor it (gNm i) b ρ μ = .ok (.nx ρ') μ3 := by
  unfold sFor
  rw [hit]
  show loopF _ _ _ _ _ _ = _
  unfold loopF
  rw [if_pos tied_nil]
  simp only [x_nm, x_calm, Out.bind_ok, h1]
  unfold loopF
  rw [if_pos tied_nil]
  simp only [x_nm, x_calm, Out.bind_ok, h2]
  unfold loopF
  rw [if_pos tied_nil]
theorem g_inS {neg : Bool} {x : PyData} {ys : List PyData} {μ : Mu} (hx : SeqAt.shaped x = true) (hy : SeqAt.shaped (.tuple ys) = true) : gIn neg (.d x) (.d (.tuple ys)) μ = .ok (.d (.bool (if neg then !(ys.any fun z => PyData.eqv z x) else ys.any fun z => PyData.eqv z x))) μ := by
  have e : inP x (.tuple ys) = some (ys.any fun z => PyData.eqv z x) := by
    have : inP x (.tuple ys) = if SeqAt.shaped x = true ∧ SeqAt.shaped (.tuple ys) = true then some (ys.any fun z => PyData.eqv z x) else none := by cases x <;> rfl
    rw [this, if_pos ⟨hx, hy⟩]
  show (match dataOf μ (.d x), dataOf μ (.d (.tuple ys)) with
    | some x, some y => match inP x y with
      | some c => Out.ok (wBl (if neg then !c else c)) μ
      | none => .bad
    | _, _ => .bad) = _
  simp only [x_dd, e]
theorem g_inL {neg : Bool} {x : PyData} {ys : List PyData} {μ : Mu} (hx : SeqAt.shaped x = true) (hy : SeqAt.shaped (.tuple ys) = true) : gIn neg (.d x) (.d (.list ys)) μ = .ok (.d (.bool (if neg then !(ys.any fun z => PyData.eqv z x) else ys.any fun z => PyData.eqv z x))) μ := by
  have e : inP x (.list ys) = some (ys.any fun z => PyData.eqv z x) := by
    have : inP x (.list ys) = if SeqAt.shaped x = true ∧ SeqAt.shaped (.list ys) = true then some (ys.any fun z => PyData.eqv z x) else none := by cases x <;> rfl
    rw [this, if_pos ⟨hx, hy⟩]
  show (match dataOf μ (.d x), dataOf μ (.d (.list ys)) with
    | some x, some y => match inP x y with
      | some c => Out.ok (wBl (if neg then !c else c)) μ
      | none => .bad
    | _, _ => .bad) = _
  simp only [x_dd, e]
end LW
namespace LW
open PySem PySem.Spec TL
open L2 (atI ixN)
theorem flat_one {β : Type} (x : β) : ∀ n : Nat, (List.replicate n [x]).flatten = List.replicate n x
  | 0 => rfl
  | n + 1 => by
    rw [List.replicate_succ, List.flatten_cons, flat_one x n]
    rfl
/-- zeros behind, up to n -/
def pad (n : Nat) (a : List Int) : List Int := a ++ List.replicate (n - a.length) 0
theorem pad_len {n : Nat} {a : List Int} (h : a.length ≤ n) : (pad n a).length = n := by
  unfold pad
  rw [List.length_append, List.length_replicate]
  omega
theorem pad_get {n k : Nat} {a : List Int} (h : a.length ≤ n) (hk : k < n) : (pad n a)[k]? = some (a.getD k 0) := by
  unfold pad
  rw [List.getD_eq_getElem?_getD]
  by_cases h1 : k < a.length
  · rw [List.getElem?_append_left h1, List.getElem?_eq_getElem h1]
    rfl
  · rw [List.getElem?_append_right (by omega), List.getElem?_replicate, if_pos (by omega), List.getElem?_eq_none (by omega)]
    rfl
theorem Li_rep {n : Nat} {x : Int} : List.replicate n (PyData.int x) = Li (List.replicate n x) := by
  unfold Li
  rw [List.map_replicate]
theorem t_pad1 {μ : Mu} {l n : Nat} (h : l ≤ n) (hn : n ≤ 1000) : gTimesT (.d (.tuple [.int 0])) (.d (.int ((n : Int) - (l : Int)))) μ = .ok (.d (.tuple (Li (List.replicate (n - l) 0)))) μ := by
  show (if -1000 ≤ (n : Int) - (l : Int) ∧ (n : Int) - (l : Int) ≤ 1000 ∧ [PyData.int 0].length ≤ 1000 then Out.ok _ μ else Out.bad) = _
  rw [if_pos ⟨by omega, by omega, by simp⟩, flat_one, Li_rep]
  congr 5
  omega
theorem t_pad2 {μ : Mu} {a : List Int} {n : Nat} (h : a.length ≤ n) (hn : n ≤ 1000) : gPlus (.d (Rw' a)) (.d (.tuple (Li (List.replicate (n - a.length) 0)))) μ = .ok (.d (Rw' (pad n a))) μ := by
  show gPlus (.d (.tuple (Li a))) (.d (.tuple (Li (List.replicate (n - a.length) 0)))) μ = _
  rw [v_plusT, if_pos (by rw [Li_len, Li_len, List.length_replicate]; omega), ← Li_app]
  rfl
end LW
namespace LW
open PySem PySem.Spec TL
open L2 (atI ixN)
theorem t_rep {μ : Mu} {ρ : Rho} {a b : Ev} {n : Nat} {x : PyData} (ha : a ρ μ = .ok (.d (.list [x])) μ) (hb : b ρ μ = .ok (.d (.int (n : Int))) μ) (hn : n ≤ 1000) : lRep a b ρ μ = .ok (List.replicate n x) μ := by
  show (a ρ μ).bind _ = _
  rw [ha]
  show (b ρ μ).bind _ = _
  rw [hb]
  show (if repOk [x].length (n : Int) = true then Out.ok _ μ else Out.bad) = _
  rw [if_pos (repOk_is ⟨by omega, by omega, by simp; omega⟩), flat_one] <;> rfl
theorem set_same {μ : Mu} {k : Nat} {c : Option Cell} (h : μ[k]? = some c) : μ.set k c = μ := by
  apply List.ext_getElem?
  intro n
  by_cases hn : k = n
  · subst hn
    rw [get_set h, h]
  · rw [List.getElem?_set_ne hn]
theorem cell_ix {μ : Mu} {k : Nat} {c : List Int} {n : Nat} (h : μ[k]? = some (some (Li c))) (hn : n < c.length) : gIx (.r k) (.d (.int (n : Int))) μ = .ok (.d (.int (c.getD n 0))) μ := by
  have : atI (Li c) (n : Int) = some (.int (c.getD n 0)) := at_n (by rw [Li_get, List.getElem?_eq_getElem hn, List.getD_eq_getElem?_getD, List.getElem?_eq_getElem hn]; rfl)
  rw [v_ixr h, this]
theorem cell_set {μ : Mu} {k : Nat} {c : List Int} {n : Nat} {v : Int} (h : μ[k]? = some (some (Li c))) (hn : n < c.length) : setC (.r k) (.d (.int (n : Int))) (.d (.int v)) μ = .ok () (μ.set k (some (Li (c.set n v)))) := by
  have e : ixN (Li c).length (n : Int) = some n := by
    unfold ixN
    rw [if_pos (by omega), if_pos (by rw [Li_len]; omega)]
    rfl
  rw [v_setc h, e]
  show Out.ok () (μ.set k (some ((Li c).set n (.int v)))) = _
  unfold Li
  rw [List.map_set]
theorem Li_at {a : List Int} {n : Nat} (h : n < a.length) : atI (Li a) (n : Int) = some (.int a[n]) := at_n (by rw [Li_get, List.getElem?_eq_getElem h]; rfl)
end LW
namespace LW
open PySem PySem.Spec TL
open L2 (atI ixN)
theorem it_r2 {ρ : Rho} {μ : Mu} {as : Av} {i j : Int} {μ1 : Mu} (h : as ρ μ = .ok [.d (.int i), .d (.int j)] μ1) (h1 : -4611686018427387904 ≤ i) (h2 : i < 4611686018427387904) (h3 : -4611686018427387904 ≤ j) (h4 : j < 4611686018427387904) : iR2 as ρ μ = .ok ⟨intL i (j - i).toNat 1, []⟩ μ1 := by
  show (as ρ μ).bind _ = _
  rw [h]
  show (if (smallI i && smallI j) = true then _ else _) = _
  rw [if_pos (by rw [smallI_is h1 h2, smallI_is h3 h4]; rfl)]
end LW
namespace LW
open PySem PySem.Spec TL
open L2 (atI ixN)
theorem mul_bd {x y : Int} {p q : Nat} (h1 : x.natAbs ≤ 2 ^ p) (h2 : y.natAbs ≤ 2 ^ q) : (x * y).natAbs ≤ 2 ^ (p + q) := by
  rw [Int.natAbs_mul, Nat.pow_add]
  exact Nat.mul_le_mul h1 h2
theorem add_bd {x y : Int} {p : Nat} (h1 : x.natAbs ≤ 2 ^ p) (h2 : y.natAbs ≤ 2 ^ p) : (x + y).natAbs ≤ 2 ^ (p + 1) := by
  have := Int.natAbs_add_le x y
  rw [Nat.pow_succ]
  omega
theorem hv_bd {x : Int} {m k : Nat} (hx : x.natAbs ≤ 2 ^ k) : ∀ {a : List Int}, BM (2 ^ m) a → (hv x a).natAbs ≤ 2 ^ (m + (k + 1) * a.length)
  | [], _ => by simp [hv]
  | c :: r, h => by
    have h1 := hv_bd hx (a := r) fun y hy => h y (List.mem_cons_of_mem _ hy)
    have hc := h c List.mem_cons_self
    have h2 := mul_bd hx h1
    have h3 : c.natAbs ≤ 2 ^ (k + (m + (k + 1) * r.length)) := Nat.le_trans hc (Nat.pow_le_pow_right (by decide) (by omega))
    have := add_bd h3 h2
    rw [List.length_cons, show m + (k + 1) * (r.length + 1) = k + (m + (k + 1) * r.length) + 1 by rw [Nat.mul_succ]; omega]
    exact this
theorem hv_drop {x : Int} {a : List Int} {n : Nat} (h : n < a.length) : hv x (a.drop n) = a.getD n 0 + x * hv x (a.drop (n + 1)) := by
  rw [List.drop_eq_getElem_cons h, List.getD_eq_getElem?_getD, List.getElem?_eq_getElem h]
  rfl
/-- the rows of a polynomial at a whole number, the last first -/
def atX (x : Int) (P : List (List Int)) : List Int := (List.range P.length).map fun k => hv x (P.getD (P.length - 1 - k) [])
theorem atX_len {x : Int} {P : List (List Int)} : (atX x P).length = P.length := by unfold atX; rw [List.length_map, List.length_range]
/-- a row of Sylvester's table: a row of numbers with noughts about it -/
def padR (A : List Int) (w j : Nat) : List Int := List.replicate j 0 ++ A ++ List.replicate (w - 1 - j) 0
theorem Li_pad {A : List Int} {w j : Nat} : Li (padR A w j) = List.replicate j (.int 0) ++ Li A ++ List.replicate (w - 1 - j) (.int 0) := by
  unfold Li padR
  simp
/-- Sylvester's table at a whole number -/
def tabX (x : Int) (P Q : List (List Int)) : List (List Int) :=
  ((List.range (Q.length - 1)).map fun j => padR (atX x P) (Q.length - 1) j) ++ ((List.range (P.length - 1)).map fun j => padR (atX x Q) (P.length - 1) j)
def Ll (T : List (List Int)) : List PyData := T.map fun r => .list (Li r)
theorem frz_last {μ : Mu} {c : Cell} : frz (.r μ.length) (μ ++ [some c]) = .ok (.d (.list c)) (μ ++ [none]) := by
  unfold frz
  simp
theorem gl_last {μ : Mu} {l : Cell} : (μ ++ [some l])[μ.length]? = some (some l) := by simp
theorem len_last {μ : Mu} {l : Cell} : gLen [.r μ.length] (μ ++ [some l]) = .ok (.d (.int l.length)) (μ ++ [some l]) := sqd_len (.inl (x_dr gl_last))
end LW
namespace LW
open PySem PySem.Spec TL
open L2 (atI ixN)
theorem padR_get {A : List Int} {w j c : Nat} : (padR A w j).getD c 0 = if j ≤ c ∧ c < j + A.length then A.getD (c - j) 0 else 0 := by
  unfold padR
  simp only [List.getD_eq_getElem?_getD]
  by_cases h1 : c < j
  · rw [List.getElem?_append_left (by simp; omega), List.getElem?_append_left (by simpa using h1), if_neg (by omega), List.getElem?_replicate, if_pos h1]
    rfl
  · by_cases h2 : c < j + A.length
    · rw [List.getElem?_append_left (by simp; omega), List.getElem?_append_right (by simp; omega), if_pos (by omega), List.length_replicate]
    · rw [List.getElem?_append_right (by simp; omega), if_neg (by omega), List.getElem?_replicate]
      split <;> rfl
theorem atX_get {x : Int} {P : List (List Int)} {k : Nat} (h : k < P.length) : (atX x P).getD k 0 = hv x (P.getD (P.length - 1 - k) []) := by
  unfold atX
  rw [List.getD_eq_getElem?_getD, List.getElem?_map, List.getElem?_range h]
  rfl
theorem tab_lo {x : Int} {P Q : List (List Int)} {r : Nat} (h : r < Q.length - 1) : (tabX x P Q).getD r [] = padR (atX x P) (Q.length - 1) r := by
  unfold tabX
  rw [List.getD_eq_getElem?_getD, List.getElem?_append_left (by simpa using h), List.getElem?_map, List.getElem?_range h]
  rfl
theorem tab_hi {x : Int} {P Q : List (List Int)} {r : Nat} (h : ¬ r < Q.length - 1) (hr : r < P.length - 1 + (Q.length - 1)) : (tabX x P Q).getD r [] = padR (atX x Q) (P.length - 1) (r - (Q.length - 1)) := by
  unfold tabX
  rw [List.getD_eq_getElem?_getD, List.getElem?_append_right (by simp; omega), List.length_map, List.length_range, List.getElem?_map, List.getElem?_range (by omega)]
  rfl
theorem tabX_syl {x : Int} {P Q : List (List Int)} {r c : Nat} (hP : 1 ≤ P.length) (hQ : 1 ≤ Q.length) (hr : r < P.length - 1 + (Q.length - 1)) :
    Ent (tabX x P Q) r c = sylE (P.length - 1) (Q.length - 1) (fun k => hv x (P.getD k [])) (fun k => hv x (Q.getD k [])) r c := by
  unfold Ent sylE
  by_cases h : r < Q.length - 1
  · rw [if_pos h, tab_lo h, padR_get, atX_len]
    by_cases h2 : r ≤ c ∧ c ≤ r + (P.length - 1)
    · rw [if_pos (by omega), if_pos h2, atX_get (by omega)]
    · rw [if_neg (by omega), if_neg h2]
  · rw [if_neg h, tab_hi h hr, padR_get, atX_len]
    by_cases h2 : r - (Q.length - 1) ≤ c ∧ c ≤ r - (Q.length - 1) + (Q.length - 1)
    · rw [if_pos (by omega), if_pos h2, atX_get (by omega)]
    · rw [if_neg (by omega), if_neg h2]
end LW
namespace LW
open PySem PySem.Spec TL
open L2 (atI ixN)
theorem Ll_get {T : List (List Int)} {n : Nat} : (Ll T)[n]? = T[n]?.map fun r => PyData.list (Li r) := List.getElem?_map ..
@[simp] theorem Ll_len {T : List (List Int)} : (Ll T).length = T.length := List.length_map _
theorem Ll_set {T : List (List Int)} {n : Nat} {row : List Int} : (Ll T).set n (.list (Li row)) = Ll (T.set n row) := by
  unfold Ll
  rw [List.map_set]
theorem Ll_at {T : List (List Int)} {n : Nat} (hn : n < T.length) : atI (Ll T) (n : Int) = some (.list (Li (T.getD n []))) := at_n (by
  rw [Ll_get, List.getD_eq_getElem?_getD, List.getElem?_eq_getElem hn]
  rfl)
theorem Row_at {N : Nat} {T : List (List Int)} {r c : Nat} (h : Tab N T) (hr : r < N) (hc : c < N) : atI (Li (T.getD r [])) (c : Int) = some (.int (Ent T r c)) := at_n (by
  rw [Li_get, List.getElem?_eq_getElem (by rw [h.row hr]; exact hc)]
  unfold Ent
  rw [List.getD_eq_getElem?_getD (l := T.getD r []), List.getElem?_eq_getElem (by rw [h.row hr]; exact hc)]
  rfl)
theorem w_nolong0 {i j : Int} (h : j ≠ 0) (h2 : Sml j) : Builtin.divisionGoesByPylong i j = false := by
  unfold Builtin.divisionGoesByPylong
  have hj : (j == 0) = false := by
    rw [beq_eq_false_iff_ne]
    omega
  have hl : j.natAbs.log2 < 8000 := (Nat.log2_lt (by omega)).mpr h2
  simp only [hj]
  have : ¬ (j.natAbs.log2 / 30 + 1 > 300) := by omega
  simp [this]
theorem w_fdiv {μ : Mu} {i j : Int} (h : j ≠ 0) (h2 : Sml j) : gDiv (.d (.int i)) (.d (.int j)) μ = .ok (.d (.int (i.fdiv j))) μ := by
  show (if j = 0 ∨ Builtin.divisionGoesByPylong i j = true then Out.bad else Out.ok (wI (i.fdiv j)) μ) = _
  rw [if_neg]
  rw [w_nolong0 h h2]
  simp
  omega
end LW
namespace LW
open PySem PySem.Spec TL
open L2 (atI ixN)
theorem t_trimmed {μ : Mu} {w : Wv} {xs : List Int} (h : SqD μ w (Li xs)) : f_trimmed [w] μ = .ok (.d (Rw' (trim xs))) μ := by
  have main : ∃ ρ' μ', sWhile (bAnd (tB' (e2 (gCmp fun i j => decide (j < i)) (eVar 1) (eK (.int 0)))) (tB' (e2 (gEq false) (e2 gIx (eVar 0) (e2 gSub (eVar 1) (eK (.int 1)))) (eK (.int 0))))) (sAsg (e2 gSub (eVar 1) (eK (.int 1))) (gNm 1)) [some w, some (.d (.int xs.length))] μ = .ok (.nx ρ') μ' ∧
      μ' = μ ∧ ∃ n : Nat, ρ' = [some w, some (.d (.int n))] ∧ n ≤ xs.length ∧ xs.take n = trim xs := by
    refine wh_run (fun n ρ' μ' => μ' = μ ∧ ρ' = [some w, some (.d (.int n))] ∧ n ≤ xs.length ∧ trim (xs.take n) = trim xs) _ xs.length ⟨rfl, rfl, Nat.le_refl _, by rw [List.take_length]⟩ ?_
    rintro n ρ' μ' ⟨rfl, rfl, hn, ht⟩
    cases n with
    | zero => exact ⟨false, μ', by simp, .inl ⟨rfl, rfl, 0, rfl, hn, by rw [← ht]; rfl⟩⟩
    | succ n =>
      have ei : ((n + 1 : Nat) : Int) - 1 = (n : Int) := by omega
      have e1 := sqd_ix h (n := n) (x := .int xs[n]) (by rw [Li_get, List.getElem?_eq_getElem (show n < xs.length by omega)]; rfl)
      have hp : (0 : Int) < ((n + 1 : Nat) : Int) := by omega
      by_cases hz : xs[n] = 0
      · refine ⟨true, μ', ?_, .inr ⟨rfl, [some w, some (.d (.int n))], μ', n, by omega, ?_, rfl, rfl, by omega, ?_⟩⟩
        · simp only [x_band, x_tB, x_e2, x_v0, x_vs, x_k, Out.bind_ok, v_cmp, x_calm, x_wB, decide_eq_true hp, if_true, v_sub, ei, e1, v_eqd, eq_ii]
          simp [hz]
        · simp only [x_asg, x_e2, x_v0, x_vs, x_k, Out.bind_ok, v_sub, x_calm, liftO_ok, x_nm, ei]
          rfl
        · rw [← ht, trim_take (by omega) hz]
      · refine ⟨false, μ', ?_, .inl ⟨rfl, rfl, n + 1, rfl, hn, ?_⟩⟩
        · simp only [x_band, x_tB, x_e2, x_v0, x_vs, x_k, Out.bind_ok, v_cmp, x_calm, x_wB, decide_eq_true hp, if_true, v_sub, ei, e1, v_eqd, eq_ii]
          simp [hz]
        · rw [← ht, trim_take' (by omega) hz]
  obtain ⟨ρ', μ', e, rfl, n, rfl, hn, ht⟩ := main
  obtain ⟨u, e2, e3⟩ := sqd_take h (n := n) (by rw [Li_len]; exact hn)
  have e4 : (Li xs).take n = Li (trim xs) := by rw [← ht]; exact (List.map_take).symm
  rw [e4] at e3
  have el := sqd_len h
  rw [Li_len] at el
  simp [f_trimmed, b_trimmed, runD, initR, el]
  rw [e]
  simp [e2, e3]
end LW
namespace LW
open PySem PySem.Spec TL
open L2 (atI ixN)
def nought : PyData → Bool
  | .int i => i == 0
  | .tuple l => l.isEmpty
  | _ => false
/-- may be compared with 0 and () -/
def C0 (x : PyData) : Prop := ∃ c1 c2, eqP x (.int 0) = some c1 ∧ eqP x (.tuple []) = some c2 ∧ nought x = (c1 || c2)
theorem c0_int {i : Int} : C0 (.int i) := ⟨i == 0, false, eq_ii, eq_it, by simp [nought]⟩
theorem c0_row {xs : List Int} : C0 (Rw' xs) := ⟨false, (Li xs).isEmpty, eq_ti (sh_ints fun x hx => by obtain ⟨i, _, rfl⟩ := Li_mem hx; exact ⟨i, rfl⟩), eq_tt, by simp [nought]⟩
def trimD (xs : List PyData) : List PyData := (xs.reverse.dropWhile nought).reverse
theorem trimD_snoc (l : List PyData) (z : PyData) : trimD (l ++ [z]) = if nought z = true then trimD l else l ++ [z] := by
  unfold trimD
  rw [List.reverse_append, List.reverse_singleton, List.singleton_append, List.dropWhile_cons]
  split <;> simp
theorem snoc_ind {A : Type} {C : List A → Prop} (h0 : C []) (h1 : ∀ l z, C l → C (l ++ [z])) : ∀ l, C l := by
  have gen : ∀ (n : Nat) (l : List A), l.length = n → C l := by
    intro n
    induction n with
    | zero => intro l h; rw [List.length_eq_zero_iff.mp h]; exact h0
    | succ n ih =>
      intro l h
      rcases List.eq_nil_or_concat l with e | ⟨l', z, e⟩
      · subst e; simp at h
      · rw [List.concat_eq_append] at e
        subst e
        exact h1 _ _ (ih _ (by simpa using h))
  exact fun l => gen _ l rfl
theorem trimD_Li (xs : List Int) : trimD (Li xs) = Li (trim xs) := by
  induction xs using snoc_ind with
  | h0 => rfl
  | h1 l z ih =>
    rw [Li_app, Li_one, trimD_snoc, trim_snoc]
    by_cases h : z = 0
    · rw [if_pos h, if_pos (by simp [nought, h]), ih]
    · rw [if_neg h, if_neg (by simp [nought, h]), Li_app, Li_one]
theorem trimD_Lp (P : Pol) : trimD (Lp P) = Lp (trimP P) := by
  induction P using snoc_ind with
  | h0 => rfl
  | h1 l z ih =>
    have e : Lp (l ++ [z]) = Lp l ++ [Rw' z] := List.map_append
    rw [e, trimD_snoc, trimP_snoc]
    by_cases h : z = []
    · rw [if_pos h, if_pos (by rw [h]; rfl), ih]
    · rw [if_neg h, if_neg (by cases z with | nil => exact absurd rfl h | cons a b => simp [nought, Li]), e]
theorem t_law_trimD {μ : Mu} {w : Wv} {xs : List PyData} (h : SqD μ w xs) (hc : ∀ x ∈ xs, C0 x) : f_law_trim [w] μ = .ok (.d (.tuple (trimD xs))) μ := by
  have main : ∃ ρ' μ', sWhile (bAnd (tB' (e2 (gEq true) (eVar 1) (eFrz (lDisp aNil)))) (bOr (tB' (e2 (gEq false) (e2 gIx (eVar 1) (e1 gNeg (eK (.int 1)))) (eK (.int 0)))) (tB' (e2 (gEq false) (e2 gIx (eVar 1) (e1 gNeg (eK (.int 1)))) (eTup aNil))))) (sExpr (e1 gPop (eVar 1))) [some w, some (.r μ.length)] (μ ++ [some xs]) = .ok (.nx ρ') μ' ∧
      ρ' = [some w, some (.r μ.length)] ∧ μ' = μ ++ [some (trimD xs)] := by
    refine wh_run (fun n ρ' μ' => ∃ ys : List PyData, ρ' = [some w, some (.r μ.length)] ∧ μ' = μ ++ [some ys] ∧ n = ys.length ∧ trimD ys = trimD xs ∧ ∀ y ∈ ys, C0 y) _ xs.length ⟨xs, rfl, rfl, rfl, rfl, hc⟩ ?_
    rintro n ρ' μ' ⟨ys, rfl, rfl, rfl, ht, hm⟩
    have t : (μ ++ [some ys])[μ.length]? = some (some ys) := by simp
    have q1 : gEq true (.r μ.length) (.d (.list [])) (μ ++ [some ys]) = .ok (.d (.bool (!ys.isEmpty))) (μ ++ [some ys]) := v_eq (x_dr t) rfl eq_ll
    rcases List.eq_nil_or_concat ys with rfl | ⟨zs, z, rfl⟩
    · refine ⟨false, μ ++ [some []], ?_, .inl ⟨rfl, rfl, by rw [← ht]; rfl⟩⟩
      simp [q1]
    · rw [List.concat_eq_append] at *
      obtain ⟨c1, c2, k1, k2, k3⟩ := hm z (by simp)
      have hne : (zs ++ [z]).isEmpty = false := by cases zs <;> rfl
      have q2 : gIx (.r μ.length) (.d (.int (-1))) (μ ++ [some (zs ++ [z])]) = .ok (.d z) (μ ++ [some (zs ++ [z])]) := by
        rw [v_ixr t, L2.atI_last _ _]
      have q3 : ∀ μ', gEq false (.d z) (.d (.int 0)) μ' = .ok (.d (.bool c1)) μ' := fun μ' => v_eq rfl rfl k1
      have q4 : ∀ μ', gEq false (.d z) (.d (.tuple [])) μ' = .ok (.d (.bool c2)) μ' := fun μ' => v_eq rfl rfl k2
      rw [hne] at q1
      have c : bAnd (tB' (e2 (gEq true) (eVar 1) (eFrz (lDisp aNil)))) (bOr (tB' (e2 (gEq false) (e2 gIx (eVar 1) (e1 gNeg (eK (.int 1)))) (eK (.int 0)))) (tB' (e2 (gEq false) (e2 gIx (eVar 1) (e1 gNeg (eK (.int 1)))) (eTup aNil)))) [some w, some (.r μ.length)] (μ ++ [some (zs ++ [z])]) = .ok (nought z) (μ ++ [some (zs ++ [z])]) := by
        rw [k3]
        cases c1 <;> simp [q1, q2, q3, q4]
      refine ⟨nought z, _, c, ?_⟩
      cases hz : nought z with
      | false => exact .inl ⟨rfl, rfl, by rw [← ht, trimD_snoc, hz]; rfl⟩
      | true =>
        refine .inr ⟨rfl, [some w, some (.r μ.length)], μ ++ [some zs], zs.length, by simp, ?_, zs, rfl, rfl, rfl, by rw [← ht, trimD_snoc, hz]; rfl, fun y hy => hm y (List.mem_append_left _ hy)⟩
        have p : gPop (.r μ.length) (μ ++ [some (zs ++ [z])]) = .ok (.d z) (μ ++ [some zs]) := by
          unfold gPop
          simp only [t]
          simp
        simp [p]
  obtain ⟨ρ', μ', e, rfl, rfl⟩ := main
  have t : (μ ++ [some (trimD xs)])[μ.length]? = some (some (trimD xs)) := by simp
  simp [f_law_trim, b_law_trim, runD, initR, sqd_list h]
  rw [e]
  simp [v_tupr t]
theorem t_law_trim {μ : Mu} {w : Wv} {xs : List Int} (h : SqD μ w (Li xs)) : f_law_trim [w] μ = .ok (.d (Rw' (trim xs))) μ := by
  rw [t_law_trimD h fun x hx => by obtain ⟨i, _, rfl⟩ := Li_mem hx; exact c0_int, trimD_Li]
theorem t_law_trimP {μ : Mu} {w : Wv} {P : Pol} (h : SqD μ w (Lp P)) : f_law_trim [w] μ = .ok (.d (Pl (trimP P))) μ := by
  rw [t_law_trimD h fun x hx => by obtain ⟨i, _, rfl⟩ := Lp_mem hx; exact c0_row, trimD_Lp]
end LW
namespace LW
open PySem PySem.Spec TL
open L2 (atI ixN)
theorem rev_hit {a : List Int} {ρ : Rho} {μ : Mu} (h : ρ[0]? = some (some (.d (Rw' a)))) : iAny (e1 gRev (eVar 0)) ρ μ = .ok ⟨Li a.reverse, []⟩ μ := by
  have : Li a.reverse = (Li a).reverse := List.map_reverse
  rw [this, x_iany, x_e1, x_var h]
  rfl
theorem hrn_sml {n d : Int} {k M : Nat} (hn : n.natAbs ≤ 2 ^ k) (hd : d.natAbs ≤ 2 ^ k) {cs : List Int} (hb : BM (2 ^ M) cs) (hl : cs.length * (k + 1) + M ≤ 7900) : Sml (hrn n d cs).1 ∧ Sml (hrn n d cs).2 := by
  obtain ⟨h1, h2⟩ := hrn_le hn hd hb
  exact ⟨.of h1 hl, .of h2 (by rw [Nat.mul_succ] at hl; omega)⟩
theorem t_top {μ : Mu} {a : List Int} {n d : Int} {k M : Nat} (hn : n.natAbs ≤ 2 ^ k) (hd : d.natAbs ≤ 2 ^ k) (hb : BM (2 ^ M) a) (hl : a.length * (k + 1) + M ≤ 7900) (hk : k ≤ 7900) (hM : M ≤ 7900) : f_top_at [.d (Rw' a), .d (.tuple [.int n, .int d])] μ = .ok (.d (.int (hrn n d a.reverse).1)) μ := by
  have main := for_run (it := iAny (e1 gRev (eVar 0))) (t := gNm 2) (b := sSeq (sAsg (e2 gPlus (e2 gTimes (eVar 5) (eVar 3)) (e2 gTimes (eVar 2) (eVar 6))) (gNm 5)) (sAsg (e2 gTimes (eVar 6) (eVar 4)) (gNm 6)))
    (ρ := [some (.d (Rw' a)), some (.d (.tuple [.int n, .int d])), none, some (.d (.int n)), some (.d (.int d)), some (.d (.int 0)), some (.d (.int 1))]) (μ := μ)
    (fun j ρ' μ' => μ' = μ ∧ ∃ o, ρ' = [some (.d (Rw' a)), some (.d (.tuple [.int n, .int d])), o, some (.d (.int n)), some (.d (.int d)), some (.d (.int (hrn n d (a.reverse.take j)).1)), some (.d (.int (hrn n d (a.reverse.take j)).2))])
    (rev_hit rfl) ⟨rfl, none, rfl⟩ (fun j x ρ' μ' hx ⟨e0, o, e1⟩ => ?_)
  · obtain ⟨ρ', μ', e, rfl, o, rfl⟩ := main
    rw [Li_len, List.take_length] at e
    simp [f_top_at, b_top_at, runD, initR]
    rw [e]
    simp
  · subst e0 e1
    have hkl : j < a.reverse.length := by
      have := (List.getElem?_eq_some_iff.mp hx).1
      rwa [Li_len] at this
    rw [Li_get, List.getElem?_eq_getElem hkl] at hx
    cases hx
    have hb' : BM (2 ^ M) (a.reverse.take j) := fun x hx => hb x (List.mem_reverse.mp (List.mem_of_mem_take hx))
    have hc : Sml (a.reverse[j]) := .of (hb _ (List.mem_reverse.mp (List.getElem_mem hkl))) hM
    obtain ⟨s1, s2⟩ := hrn_sml hn hd hb' (by
      have : (a.reverse.take j).length * (k + 1) ≤ a.length * (k + 1) := Nat.mul_le_mul_right _ (by rw [List.length_take, List.length_reverse]; omega)
      omega)
    have es : hrn n d (a.reverse.take (j + 1)) = ((hrn n d (a.reverse.take j)).1 * n + a.reverse[j] * (hrn n d (a.reverse.take j)).2, (hrn n d (a.reverse.take j)).2 * d) := by
      rw [take_succ0 hkl, hrn_snoc]
    generalize a.reverse[j] = c at *
    generalize hrn n d (a.reverse.take j) = f at *
    have w1 := w_times (μ := μ') s1 (.of hn hk)
    have w2 := w_times (μ := μ') hc s2
    have w3 := w_times (μ := μ') s2 (.of hd hk)
    refine ⟨_, _, [some (.d (Rw' a)), some (.d (.tuple [.int n, .int d])), some (.d (.int c)), some (.d (.int n)), some (.d (.int d)), some (.d (.int (f.1 * n + c * f.2))), some (.d (.int (f.2 * d)))], μ', rfl, ?_, rfl, some (.d (.int c)), by rw [es]⟩
    simp [w1, w2, w3]
end LW
namespace LW
open PySem PySem.Spec TL
open L2 (atI ixN)
theorem hrn_hv {x : Int} : ∀ a : List Int, (hrn x 1 a.reverse).1 = hv x a
  | [] => rfl
  | c :: a => by
    rw [List.reverse_cons, hrn_snoc, hrn_pow, Int.one_pow]
    show (hrn x 1 a.reverse).1 * x + c * 1 = c + x * hv x a
    rw [hrn_hv a, Int.mul_comm (hv x a)]
    omega
/-- the rows' values at a whole number -/
def valL (x : Int) (P : List (List Int)) : List Int := P.map (hv x)
@[simp] theorem valL_len {x : Int} {P : List (List Int)} : (valL x P).length = P.length := List.length_map _
theorem valL_get {x : Int} {P : List (List Int)} {k : Nat} : (valL x P).getD k 0 = hv x (P.getD k []) := by
  unfold valL
  rw [List.getD_eq_getElem?_getD, List.getElem?_map, List.getD_eq_getElem?_getD]
  cases P[k]? <;> rfl
/-- what is known of a polynomial: rows of up to 5 numbers, at most 5 of these -/
structure Sz (b : Nat) (P : List (List Int)) : Prop where
  l : P.length ≤ 5
  n : ∀ r ∈ P, r.length ≤ 5
  b : ∀ r ∈ P, BM (2 ^ b) r
theorem Sz.val {b : Nat} {P : List (List Int)} (h : Sz b P) {x : Int} (hx : x.natAbs ≤ 2 ^ 5) : BM (2 ^ (b + 30)) (valL x P) := fun y hy => by
  obtain ⟨r, hr, rfl⟩ := List.mem_map.mp hy
  refine Nat.le_trans (hv_bd (m := b) (k := 5) hx (h.b r hr)) (Nat.pow_le_pow_right (by decide) ?_)
  have := h.n r hr
  omega
theorem t_values_at {μ : Mu} {b : Nat} {P : List (List Int)} {x : Int} (h : Sz b P) (hb : b ≤ 110) (hx : x.natAbs ≤ 2 ^ 5) : f_values_at [.d (Pl P), .d (.int x)] μ = .ok (.d (Rw' (trim (valL x P)))) μ := by
  have lc := lc_of (f := Rw') (g := fun r => PyData.int (hv x r)) (it := iAny (eVar 0)) (xs := P) (i := 2) (e := cF 2 f_top_at (aCons (eVar 2) (aCons (eTup (aCons (eVar 1) (aCons (eK (.int 1)) aNil))) aNil))) (ρ := [some (.d (Pl P)), some (.d (.int x)), none]) (μ := μ) (μ1 := μ) rfl (by have := h.l; omega)
    fun a ha => by
      have t := t_top (μ := μ) (a := a) (n := x) (d := 1) (k := 5) (M := b) hx (by decide) (h.b a ha) (by have := h.n a ha; omega) (by decide) (by omega)
      rw [hrn_hv] at t
      simp [t]
  have e : P.map (fun r => PyData.int (hv x r)) = Li (valL x P) := by
    unfold Li valL
    rw [List.map_map]
    rfl
  rw [e] at lc
  have t := t_trimmed (μ := μ) (w := .d (.list (Li (valL x P)))) (xs := valL x P) (.inl rfl)
  simp [f_values_at, b_values_at, runD, initR, lc, t]
end LW
namespace LW
open PySem PySem.Spec TL
open L2 (atI ixN)
/-- Sylvester's table of two rows, read as of degrees n and m -/
def tabV (n m : Nat) (A B : List Int) : List (List Int) := ((List.range m).map fun j => padR A.reverse m j) ++ ((List.range n).map fun j => padR B.reverse n j)
def Lt' (T : List (List Int)) : List PyData := T.map fun r => .tuple (Li r)
theorem t_rt {n : Nat} {μ : Mu} (hn : n ≤ 1000) : gTimesT (.d (.tuple [.int 0])) (.d (.int (n : Int))) μ = .ok (.d (.tuple (Li (List.replicate n 0)))) μ := by
  have := t_pad1 (μ := μ) (l := 0) (n := n) (Nat.zero_le _) hn
  rw [show (n : Int) - ((0 : Nat) : Int) = (n : Int) by omega, Nat.sub_zero] at this
  exact this
theorem v_rev {μ : Mu} {xs : List Int} : gRev (.d (.tuple (Li xs))) μ = .ok (.d (.tuple (Li xs.reverse))) μ := by
  show Out.ok (wT (Li xs).reverse) μ = _
  unfold Li
  rw [List.map_reverse]
noncomputable def rowB (iA iw : Nat) : Sv := sExpr (eMeth1 gApp (eVar 6) (aCons (e2 gPlus (e2 gPlus (e2 gTimesT (eTup (aCons (eK (.int 0)) aNil)) (eVar 7)) (e1 gRev (eVar iA))) (e2 gTimesT (eTup (aCons (eK (.int 0)) aNil)) (e2 gSub (e2 gSub (eVar iw) (eK (.int 1))) (eVar 7)))) aNil))
theorem t_rows_t {μ : Mu} {ρ : Rho} {A : List Int} {w iw iA : Nat} {pre : Cell} {o0 : Option Wv} (hw : ∀ o μ', eVar iw (ρ.set 7 o) μ' = .ok (.d (.int w)) μ') (hA : ∀ o μ', eVar iA (ρ.set 7 o) μ' = .ok (.d (Rw' A)) μ') (h7 : ∀ y μ', eVar 7 (ρ.set 7 (some y)) μ' = .ok y μ') (h6 : ∀ o l, eVar 6 (ρ.set 7 o) (μ ++ [some l]) = .ok (.r μ.length) (μ ++ [some l]))
    (w9 : w ≤ 100) (hl : A.length ≤ 100) (hp : pre.length ≤ 100) :
    ∃ o, sFor (iR1 (aCons (eVar iw) aNil)) (gNm 7) (rowB iA iw) (ρ.set 7 o0) (μ ++ [some pre])
      = .ok (.nx (ρ.set 7 o)) (μ ++ [some (pre ++ (List.range w).map fun j => .tuple (Li (padR A.reverse w j)))]) := by
  have main := for_run (it := iR1 (aCons (eVar iw) aNil)) (xs := intL 0 w 1) (t := gNm 7) (b := rowB iA iw) (ρ := ρ.set 7 o0) (μ := μ ++ [some pre]) (μ1 := μ ++ [some pre])
    (fun n ρ' μ' => n ≤ w ∧ μ' = μ ++ [some (pre ++ (List.range n).map fun j => .tuple (Li (padR A.reverse w j)))] ∧ ∃ o, ρ' = ρ.set 7 o)
    (it_r1 (j := (w : Int)) (by simp [hw]) (by omega) (by omega)) ⟨Nat.zero_le _, by simp, o0, rfl⟩ (fun n y ρ' μ' hx' ⟨hn, f0, o, f1⟩ => ?_)
  · obtain ⟨ρ', μ', e, _, rfl, o, rfl⟩ := main
    rw [intL_len] at e
    exact ⟨o, e⟩
  · subst f0 f1
    have hk' : n < w := by
      have := (List.getElem?_eq_some_iff.mp hx').1
      rwa [intL_len] at this
    rw [intL_at hk'] at hx'
    cases hx'
    rw [Int.zero_add]
    refine ⟨_, _, ρ.set 7 (some (.d (.int (n : Int)))), _, rfl, ?_, hk', rfl, _, rfl⟩
    have t2 : (w : Int) - 1 - (n : Int) = ((w - 1 - n : Nat) : Int) := by omega
    rw [List.range_succ, List.map_append, List.map_singleton, ← List.append_assoc]
    generalize hl0 : pre ++ (List.range n).map (fun j => PyData.tuple (Li (padR A.reverse w j))) = l0
    have hll : l0.length ≤ 1000 := by rw [← hl0]; simp; omega
    have gl : (μ ++ [some l0])[μ.length]? = some (some l0) := by simp
    have lv : live (.r μ.length) (μ ++ [some l0]) = true := live_r gl
    have r1 := t_rt (μ := μ ++ [some l0]) (n := n) (by omega)
    have r2 := t_rt (μ := μ ++ [some l0]) (n := w - 1 - n) (by omega)
    have rv := v_rev (μ := μ ++ [some l0]) (xs := A)
    have p1 : ∀ a b : List Int, a.length + b.length ≤ 1000 → gPlus (.d (.tuple (Li a))) (.d (.tuple (Li b))) (μ ++ [some l0]) = .ok (.d (.tuple (Li (a ++ b)))) (μ ++ [some l0]) := fun a b h => by
      rw [v_plusT, if_pos (by rw [Li_len, Li_len]; omega), Li_app]
    have q1 := p1 (List.replicate n 0) A.reverse (by simp; omega)
    have q2 := p1 (List.replicate n 0 ++ A.reverse) (List.replicate (w - 1 - n) 0) (by simp; omega)
    have ap := v_app (x := .tuple (Li (padR A.reverse w n))) gl (by omega)
    unfold padR at ap
    unfold rowB padR
    generalize Li (List.replicate n 0) = R1 at *
    generalize Li (List.replicate (w - 1 - n) 0) = R2 at *
    generalize Li (List.replicate n 0 ++ A.reverse) = R3 at *
    generalize Li (List.replicate n 0 ++ A.reverse ++ List.replicate (w - 1 - n) 0) = R4 at *
    have hA' : eVar iA (ρ.set 7 (some (.d (.int (n : Int))))) (μ ++ [some l0]) = .ok (.d (.tuple (Li A))) (μ ++ [some l0]) := hA _ _
    generalize Li A.reverse = R5 at *
    generalize Li A = R6 at *
    simp [x_meth, lv, hA', hw, h7, h6, r1, r2, rv, q1, q2, t2, ap]
theorem unR_Li (r : List Int) : DT.unR (.tuple (Li r)) = r := by
  show (Li r).map DT.unI = r
  unfold Li
  rw [List.map_map]
  exact List.map_id' _
theorem t_det {μ : Mu} {k : Nat} {T : List (List Int)} (hk : μ[k]? = some (some (Lt' T))) (h : DT.OkT T) : f_determinant_of [.r k] μ = .ok (.d (.int (det T.length (Ent T)))) μ := by
  have e : (Lt' T).map DT.unR = T := by
    unfold Lt'
    rw [List.map_map]
    exact (List.map_congr_left fun r _ => unR_Li r).trans (List.map_id' _)
  have e2 : Lt' T = DT.Lt T := rfl
  unfold f_determinant_of DT.fDet
  simp only [lstOf, hk]
  rw [e, if_pos (@decide_eq_true _ (Classical.propDecidable _) ⟨e2, h⟩)]
theorem tabV_len {n m : Nat} {A B : List Int} : (tabV n m A B).length = m + n := by
  unfold tabV
  simp
theorem padR_len {A : List Int} {w j : Nat} (h : j < w) : (padR A w j).length = w - 1 + A.length := by
  unfold padR
  simp
  omega
theorem t_resultant_by {μ : Mu} {a b : List Int} {n m M : Nat} (ha : a.length ≤ n + 1) (hb : b.length ≤ m + 1) (hn : n ≤ 10) (hm : m ≤ 10) (hok : DT.OkT (tabV n m (pad (n + 1) a) (pad (m + 1) b))) :
    f_resultant_by [.d (Rw' a), .d (Rw' b), .d (.int n), .d (.int m)] μ = .ok (.d (.int (det (m + n) (Ent (tabV n m (pad (n + 1) a) (pad (m + 1) b)))))) μ := by
  have a1 := t_pad1 (μ := μ) (l := a.length) (n := n + 1) ha (by omega)
  have a2 := t_pad2 (μ := μ) ha (by omega)
  have b1 := t_pad1 (μ := μ) (l := b.length) (n := m + 1) hb (by omega)
  have b2 := t_pad2 (μ := μ) hb (by omega)
  rw [show (((n + 1 : Nat)) : Int) = (n : Int) + 1 by omega] at a1
  rw [show (((m + 1 : Nat)) : Int) = (m : Int) + 1 by omega] at b1
  have lA := pad_len ha
  have lB := pad_len hb
  generalize pad (n + 1) a = A at *
  generalize pad (m + 1) b = B at *
  obtain ⟨o1, l1⟩ := t_rows_t (μ := μ) (ρ := [some (.d (Rw' a)), some (.d (Rw' b)), some (.d (.int n)), some (.d (.int m)), some (.d (Rw' A)), some (.d (Rw' B)), some (.r μ.length), none]) (A := A) (w := m) (iw := 3) (iA := 4) (pre := []) (o0 := none)
    (fun o μ' => by simp) (fun o μ' => by simp) (fun y μ' => by simp) (fun o l => by simp) (by omega) (by omega) (by simp)
  obtain ⟨o2, l2⟩ := t_rows_t (μ := μ) (ρ := [some (.d (Rw' a)), some (.d (Rw' b)), some (.d (.int n)), some (.d (.int m)), some (.d (Rw' A)), some (.d (Rw' B)), some (.r μ.length), none]) (A := B) (w := n) (iw := 2) (iA := 5) (pre := (List.range m).map fun j => .tuple (Li (padR A.reverse m j))) (o0 := o1)
    (fun o μ' => by simp) (fun o μ' => by simp) (fun y μ' => by simp) (fun o l => by simp) (by omega) (by omega) (by simp; omega)
  rw [List.nil_append] at l1
  have et : ((List.range m).map fun j => PyData.tuple (Li (padR A.reverse m j))) ++ ((List.range n).map fun j => .tuple (Li (padR B.reverse n j))) = Lt' (tabV n m A B) := by
    unfold Lt' tabV
    rw [List.map_append, List.map_map, List.map_map]
    rfl
  rw [et] at l2
  have dt := t_det (μ := μ ++ [some (Lt' (tabV n m A B))]) (k := μ.length) (T := tabV n m A B) (by simp) hok
  rw [tabV_len] at dt
  simp only [List.set_cons_succ, List.set_cons_zero] at l1 l2
  unfold f_resultant_by
  have fin := run_rt (n := 8) (b := b_resultant_by) (ws := [.d (Rw' a), .d (Rw' b), .d (.int n), .d (.int m)]) (μ := μ) (μ' := μ ++ [some (Lt' (tabV n m A B))]) (x := .int (det (m + n) (Ent (tabV n m A B)))) (by
    have s1 : sAsg (e2 gPlus (en gTuple (aCons (eVar 0) aNil)) (e2 gTimesT (eTup (aCons (eK (.int 0)) aNil)) (e2 gSub (e2 gPlus (eVar 2) (eK (.int 1))) (en gLen (aCons (eVar 0) aNil))))) (gNm 4) [some (.d (Rw' a)), some (.d (Rw' b)), some (.d (.int n)), some (.d (.int m)), none, none, none, none] μ = .ok (.nx [some (.d (Rw' a)), some (.d (Rw' b)), some (.d (.int n)), some (.d (.int m)), some (.d (Rw' A)), none, none, none]) μ := by
      generalize Li (List.replicate (n + 1 - a.length) 0) = Z at *
      simp only [x_asg, x_e2, x_en, x_cons, x_nil, x_v0, x_vs, Out.bind_ok, v_tupt, v_lent, Li_len, x_tup, x_disp, x_all1, x_all0, x_k, x_calm, v_plus, v_sub, Option.map_some, List.length_singleton, a1, a2]
      simp [a1, a2]
    have s2 : sAsg (e2 gPlus (en gTuple (aCons (eVar 1) aNil)) (e2 gTimesT (eTup (aCons (eK (.int 0)) aNil)) (e2 gSub (e2 gPlus (eVar 3) (eK (.int 1))) (en gLen (aCons (eVar 1) aNil))))) (gNm 5) [some (.d (Rw' a)), some (.d (Rw' b)), some (.d (.int n)), some (.d (.int m)), some (.d (Rw' A)), none, none, none] μ = .ok (.nx [some (.d (Rw' a)), some (.d (Rw' b)), some (.d (.int n)), some (.d (.int m)), some (.d (Rw' A)), some (.d (Rw' B)), none, none]) μ := by
      generalize Li (List.replicate (m + 1 - b.length) 0) = Z at *
      simp only [x_asg, x_e2, x_en, x_cons, x_nil, x_v0, x_vs, Out.bind_ok, v_tupt, v_lent, Li_len, x_tup, x_disp, x_all1, x_all0, x_k, x_calm, v_plus, v_sub, Option.map_some, List.length_singleton, b1, b2]
      simp [b1, b2]
    have s3 : sAsg (eNew (lDisp aNil)) (gNm 6) [some (.d (Rw' a)), some (.d (Rw' b)), some (.d (.int n)), some (.d (.int m)), some (.d (Rw' A)), some (.d (Rw' B)), none, none] μ = .ok (.nx [some (.d (Rw' a)), some (.d (Rw' b)), some (.d (.int n)), some (.d (.int m)), some (.d (Rw' A)), some (.d (Rw' B)), some (.r μ.length), none]) (μ ++ [some []]) := by simp
    show sSeq _ _ [some (.d (Rw' a)), some (.d (Rw' b)), some (.d (.int n)), some (.d (.int m)), none, none, none, none] μ = _
    rw [seq_ok s1, seq_ok s2, seq_ok s3]
    show sSeq (sFor (iR1 (aCons (eVar 3) aNil)) (gNm 7) (rowB 4 3)) (sSeq (sFor (iR1 (aCons (eVar 2) aNil)) (gNm 7) (rowB 5 2)) _) _ _ = _
    rw [seq_ok l1, seq_ok l2]
    simp [dt])
  rw [take_app] at fin
  exact fin
end LW
namespace LW
open PySem PySem.Spec TL
open L2 (atI ixN)
theorem t_scaled {μ : Mu} {xs : List Int} {k : Int} (hl : xs.length ≤ 1000) (hk : Sml k) (hb : Sm xs) : f_scaled [.d (Rw' xs), .d (.int k)] μ = .ok (.d (Rw' (trim (xs.map (k * ·))))) μ := by
  have e1 : lLc (iAny (eVar 0)) (gNm 2) bYes (e2 gTimes (eVar 1) (eVar 2)) [2] [some (.d (Rw' xs)), some (.d (.int k)), none] μ = .ok (Li (xs.map (k * ·))) μ := lc_ints rfl (by omega) fun x hx => by
    simp [w_times (μ := μ) hk (hb x hx)]
  have tr : f_trimmed [.d (.list (Li (xs.map (k * ·))))] μ = .ok (.d (Rw' (trim (xs.map (k * ·))))) μ := t_trimmed (.inl rfl)
  simp [f_scaled, b_scaled, runD, initR, e1, tr]
end LW
namespace LW
open PySem PySem.Spec TL
open L2 (atI ixN)
theorem t_sum_by {μ : Mu} {a b : List Int} (ha : a.length ≤ 1000) (hb : b.length ≤ 1000) : f_sum_by [.d (Rw' a), .d (Rw' b)] μ = .ok (.d (Rw' (trim (addP a b)))) μ := by
  obtain ⟨n, hn, h1, h2, h3⟩ : ∃ n : Nat, max a.length b.length = n ∧ a.length ≤ n ∧ b.length ≤ n ∧ n ≤ 1000 := ⟨_, rfl, by omega, by omega, by omega⟩
  have em := max_two (μ := μ) (a := a.length) (b := b.length)
  rw [hn] at em
  have ea1 := t_pad1 (μ := μ) h1 h3
  have eb1 := t_pad1 (μ := μ) h2 h3
  have ea2 := t_pad2 (μ := μ) h1 h3
  have eb2 := t_pad2 (μ := μ) h2 h3
  have lc : lLc (iZipS (aCons (eVar 3) (aCons (eVar 4) aNil))) (gTp [gNm 5, gNm 6]) bYes (e2 gPlus (eVar 5) (eVar 6)) [5, 6] [some (.d (Rw' a)), some (.d (Rw' b)), some (.d (.int (n : Int))), some (.d (Rw' (pad n a))), some (.d (Rw' (pad n b))), none, none] μ = .ok (Li (addP a b)) μ := by
    refine lcT_eq (xs := zipL (Li (pad n a)) (Li (pad n b))) rfl ?_ ?_ fun k x z hx hz => ?_
    · rw [zipL_len, Li_len, Li_len, pad_len h1, pad_len h2]
      omega
    · rw [zipL_len, Li_len, Li_len, Li_len, pad_len h1, pad_len h2, addP_len]
      omega
    · have hk : k < n := by
        have := (List.getElem?_eq_some_iff.mp hz).1
        rw [Li_len, addP_len] at this
        omega
      unfold zipL at hx
      rw [List.getElem?_zipWith, Li_get, Li_get, pad_get h1 hk, pad_get h2 hk] at hx
      rw [Li_get, addP_get a b k (by omega)] at hz
      cases hx
      cases hz
      exact ⟨_, rfl, rfl⟩
  have tr : f_trimmed [.d (.list (Li (addP a b)))] μ = .ok (.d (Rw' (trim (addP a b)))) μ := t_trimmed (.inl rfl)
  simp [-v_plusT, f_sum_by, b_sum_by, runD, initR, em, ea1, ea2, eb1, eb2, lc, tr]
end LW
namespace LW
open PySem PySem.Spec TL
open L2 (atI ixN)
/-- items with their places, from i on -/
def enumF : Nat → List Int → Cell
  | _, [] => []
  | i, x :: xs => .tuple [.int (i : Int), .int x] :: enumF (i + 1) xs
theorem enumF_eq : ∀ (xs : List Int) (i : Nat), (Li xs).mapIdx (fun n x => PyData.tuple [.int ((n + i : Nat) : Int), x]) = enumF i xs
  | [], i => rfl
  | x :: xs, i => by
    show List.mapIdx _ (PyData.int x :: Li xs) = _
    rw [List.mapIdx_cons]
    have := enumF_eq xs (i + 1)
    simp only [enumF, Nat.zero_add]
    rw [← this]
    congr 2
    funext n y
    rw [show n + 1 + i = n + (i + 1) by omega]
theorem enumL_eq (xs : List Int) : enumL (Li xs) = enumF 0 xs := enumF_eq xs 0
noncomputable abbrev IB : Sv := sAsg (e2 gPlus (e2 gIx (eVar 2) (e2 gPlus (eVar 3) (eVar 5))) (e2 gTimes (eVar 4) (eVar 6))) (gSb (eVar 2) (e2 gPlus (eVar 3) (eVar 5)))
noncomputable abbrev OB : Sv := sFor (iEnumT (aCons (eVar 1) aNil)) (gTp [gNm 5, gNm 6]) IB
theorem t_ib {μ : Mu} {k i j : Nat} {x y : Int} {c : List Int} {wa wb : Option Wv} (h : μ[k]? = some (some (Li c))) (hl : i + j < c.length) (hx : Sml x) (hy : Sml y) :
    IB [wa, wb, some (.r k), some (.d (.int i)), some (.d (.int x)), some (.d (.int j)), some (.d (.int y))] μ =
      .ok (.nx [wa, wb, some (.r k), some (.d (.int i)), some (.d (.int x)), some (.d (.int j)), some (.d (.int y))]) (μ.set k (some (Li (addAt c (i + j) (x * y))))) := by
  have ei : ((i : Int) + (j : Int)) = ((i + j : Nat) : Int) := by omega
  have e1 := cell_ix h hl
  have e2 := w_times (μ := μ) hx hy
  have e3 := cell_set (v := c.getD (i + j) 0 + x * y) h hl
  simp only [IB, x_asg, x_e2, x_v0, x_vs, Out.bind_ok, v_plus, x_calm, ei, e1, e2, liftO_ok, x_sb, e3]
  rfl
theorem inner_loop {k i : Nat} {x : Int} {wa wb : Option Wv} {xs0 : Cell} (hx : Sml x) : ∀ (ys : List Int) (j : Nat) (c : List Int) (μ : Mu) (o5 o6 : Option Wv), μ[k]? = some (some (Li c)) → i + j + ys.length ≤ c.length → Sm ys →
    ∃ o5' o6', loopF ⟨xs0, []⟩ (gTp [gNm 5, gNm 6]) IB (enumF j ys) [wa, wb, some (.r k), some (.d (.int i)), some (.d (.int x)), o5, o6] μ =
      .ok (.nx [wa, wb, some (.r k), some (.d (.int i)), some (.d (.int x)), o5', o6']) (μ.set k (some (Li (inner i x j ys c))))
  | [], j, c, μ, o5, o6, h, _, _ => by
    refine ⟨o5, o6, ?_⟩
    unfold enumF loopF
    rw [if_pos tied_nil]
    show Out.ok _ μ = Out.ok _ (μ.set k (some (Li c)))
    rw [set_same h]
  | y :: ys, j, c, μ, o5, o6, h, hl, hs => by
    rw [List.length_cons] at hl
    have e1 := t_ib (wa := wa) (wb := wb) h (show i + j < c.length by omega) hx (hs y List.mem_cons_self)
    obtain ⟨o5', o6', e2⟩ := inner_loop (k := k) (i := i) (wa := wa) (wb := wb) (xs0 := xs0) hx ys (j + 1) (addAt c (i + j) (x * y)) (μ.set k (some (Li (addAt c (i + j) (x * y))))) (some (.d (.int j))) (some (.d (.int y))) (get_set h) (by rw [addAt_len]; omega) fun z hz => hs z (List.mem_cons_of_mem _ hz)
    refine ⟨o5', o6', ?_⟩
    unfold enumF loopF
    rw [if_pos tied_nil]
    have t : gTp [gNm 5, gNm 6] (.d (.tuple [.int (j : Int), .int y])) [wa, wb, some (.r k), some (.d (.int i)), some (.d (.int x)), o5, o6] μ = .ok [wa, wb, some (.r k), some (.d (.int i)), some (.d (.int x)), some (.d (.int j)), some (.d (.int y))] μ := rfl
    rw [t]
    simp only [x_calm, Out.bind_ok, e1]
    rw [e2, List.set_set]
    rfl
theorem t_ob {μ : Mu} {k i : Nat} {x : Int} {b c : List Int} {wa o5 o6 : Option Wv} (h : μ[k]? = some (some (Li c))) (hl : i + b.length ≤ c.length) (hx : Sml x) (hb : Sm b) :
    ∃ o5' o6', OB [wa, some (.d (Rw' b)), some (.r k), some (.d (.int i)), some (.d (.int x)), o5, o6] μ =
      .ok (.nx [wa, some (.d (Rw' b)), some (.r k), some (.d (.int i)), some (.d (.int x)), o5', o6']) (μ.set k (some (Li (inner i x 0 b c)))) := by
  obtain ⟨o5', o6', e⟩ := inner_loop (wa := wa) (wb := some (.d (Rw' b))) (xs0 := enumF 0 b) (i := i) hx b 0 c μ o5 o6 h (by omega) hb
  refine ⟨o5', o6', ?_⟩
  have it : iEnumT (aCons (eVar 1) aNil) [wa, some (.d (Rw' b)), some (.r k), some (.d (.int i)), some (.d (.int x)), o5, o6] μ = .ok ⟨enumF 0 b, []⟩ μ := by
    rw [← enumL_eq]
    rfl
  show liftO _ (iEnumT (aCons (eVar 1) aNil) _ μ) _ = _
  rw [it]
  exact e
theorem outer_loop {k : Nat} {b : List Int} {wa : Option Wv} {xs0 : Cell} (hb : Sm b) : ∀ (xs : List Int) (i : Nat) (c : List Int) (μ : Mu) (o3 o4 o5 o6 : Option Wv), μ[k]? = some (some (Li c)) → (xs = [] ∨ i + xs.length + b.length ≤ c.length + 1) → Sm xs →
    ∃ ρ', loopF ⟨xs0, []⟩ (gTp [gNm 3, gNm 4]) OB (enumF i xs) [wa, some (.d (Rw' b)), some (.r k), o3, o4, o5, o6] μ = .ok (.nx ([wa, some (.d (Rw' b)), some (.r k)] ++ ρ')) (μ.set k (some (Li (outer b i xs c))))
  | [], i, c, μ, o3, o4, o5, o6, h, _, _ => by
    refine ⟨[o3, o4, o5, o6], ?_⟩
    unfold enumF loopF
    rw [if_pos tied_nil]
    show Out.ok _ μ = Out.ok _ (μ.set k (some (Li c)))
    rw [set_same h]
    rfl
  | x :: xs, i, c, μ, o3, o4, o5, o6, h, hl, hs => by
    have hl : i + (xs.length + 1) + b.length ≤ c.length + 1 := by
      rcases hl with hl | hl
      · cases hl
      · simpa using hl
    obtain ⟨o5', o6', e1⟩ := t_ob (wa := wa) (o5 := o5) (o6 := o6) (i := i) h (by omega) (hs x List.mem_cons_self) hb
    obtain ⟨ρ', e2⟩ := outer_loop (k := k) (wa := wa) (xs0 := xs0) hb xs (i + 1) (inner i x 0 b c) (μ.set k (some (Li (inner i x 0 b c)))) (some (.d (.int i))) (some (.d (.int x))) o5' o6' (get_set h) (.inr (by rw [inner_len]; omega)) fun z hz => hs z (List.mem_cons_of_mem _ hz)
    refine ⟨ρ', ?_⟩
    unfold enumF loopF
    rw [if_pos tied_nil]
    have t : gTp [gNm 3, gNm 4] (.d (.tuple [.int (i : Int), .int x])) [wa, some (.d (Rw' b)), some (.r k), o3, o4, o5, o6] μ = .ok [wa, some (.d (Rw' b)), some (.r k), some (.d (.int i)), some (.d (.int x)), o5, o6] μ := rfl
    rw [t]
    simp only [x_calm, Out.bind_ok, e1]
    rw [e2, List.set_set]
    rfl
theorem t_loop {μ : Mu} {a b : List Int} {N : Nat} (ha : Sm a) (hb : Sm b) (hN : a = [] ∨ a.length + b.length ≤ N + 1) :
    ∃ ρ', sFor (iEnumT (aCons (eVar 0) aNil)) (gTp [gNm 3, gNm 4]) OB [some (.d (Rw' a)), some (.d (Rw' b)), some (.r μ.length), none, none, none, none] (μ ++ [some (Li (List.replicate N 0))]) =
      .ok (.nx ([some (.d (Rw' a)), some (.d (Rw' b)), some (.r μ.length)] ++ ρ')) (μ ++ [some (Li (outer b 0 a (List.replicate N 0)))]) := by
  obtain ⟨ρ', e⟩ := outer_loop (k := μ.length) (wa := some (.d (Rw' a))) (xs0 := enumF 0 a) hb a 0 (List.replicate N 0) (μ ++ [some (Li (List.replicate N 0))]) none none none none (by simp) (by rw [List.length_replicate]; rcases hN with h | h; exact .inl h; exact .inr (by omega)) ha
  refine ⟨ρ', ?_⟩
  have it : iEnumT (aCons (eVar 0) aNil) [some (.d (Rw' a)), some (.d (Rw' b)), some (.r μ.length), none, none, none, none] (μ ++ [some (Li (List.replicate N 0))]) = .ok ⟨enumF 0 a, []⟩ (μ ++ [some (Li (List.replicate N 0))]) := by
    rw [← enumL_eq]
    rfl
  show liftO _ (iEnumT (aCons (eVar 0) aNil) _ _) _ = _
  rw [it]
  show loopF _ _ _ _ _ _ = _
  rw [e]
  simp
theorem t_product_by {μ : Mu} {a b : List Int} (ha : Sm a) (hb : Sm b) (la : a.length ≤ 500) (lb : b.length ≤ 500) : f_product_by [.d (Rw' a), .d (Rw' b)] μ = .ok (.d (Rw' (mulP a b))) μ := by
  cases hae : a.isEmpty with
  | true =>
    have : a = [] := by simpa using hae
    subst this
    rw [mulP_nil]
    have e0 : (Li ([] : List Int)).isEmpty = true := rfl
    simp [f_product_by, b_product_by, runD, initR, e0]
    rfl
  | false =>
    cases hbe : b.isEmpty with
    | true =>
      have : b = [] := by simpa using hbe
      subst this
      rw [mulP_nil']
      have e0 : (Li ([] : List Int)).isEmpty = true := rfl
      have e1 : (Li a).isEmpty = false := by rw [Li_empty, hae]
      simp [f_product_by, b_product_by, runD, initR, e0, e1]
      rfl
    | false =>
      have ane : a ≠ [] := fun e => by rw [e] at hae; cases hae
      have bne : b ≠ [] := fun e => by rw [e] at hbe; cases hbe
      have pa : 0 < a.length := List.length_pos_iff.mpr ane
      have pb : 0 < b.length := List.length_pos_iff.mpr bne
      have e0 : (Li b).isEmpty = false := by rw [Li_empty, hbe]
      have e1 : (Li a).isEmpty = false := by rw [Li_empty, hae]
      have r1 : lRep (eFrz (lDisp (aCons (eK (.int 0)) aNil))) (e2 gSub (e2 gPlus (en gLen (aCons (eVar 0) aNil)) (en gLen (aCons (eVar 1) aNil))) (eK (.int 1))) [some (.d (Rw' a)), some (.d (Rw' b)), none, none, none, none, none] μ = .ok (Li (List.replicate (a.length + b.length - 1) 0)) μ := by
        rw [← Li_rep]
        have ec : ((a.length : Int) + (b.length : Int)) - 1 = ((a.length + b.length - 1 : Nat) : Int) := by omega
        exact t_rep (n := a.length + b.length - 1) (by simp) (by simp [ec]) (by omega)
      obtain ⟨ρ', e2⟩ := t_loop (μ := μ) (N := a.length + b.length - 1) ha hb (.inr (by omega))
      have tr : f_trimmed [.r μ.length] (μ ++ [some (Li (outer b 0 a (List.replicate (a.length + b.length - 1) 0)))]) = .ok (.d (Rw' (mulP a b))) (μ ++ [some (Li (outer b 0 a (List.replicate (a.length + b.length - 1) 0)))]) := t_trimmed (.inl (x_dr (by simp)))
      simp [f_product_by, b_product_by, runD, initR, e0, e1, r1]
      rw [e2]
      simp [tr]
end LW
namespace LW
open PySem PySem.Spec TL
open L2 (atI ixN)
theorem cut_one {x : PyData} {xs : List PyData} : cutL (x :: xs) (some 1) none = xs := by
  unfold cutL
  rw [show HT.sIx (x :: xs).length 0 (some 1) = 1 from by
    have := HT.sIx_nat (x :: xs).length 0 1
    rw [show ((1 : Nat) : Int) = 1 from rfl] at this
    rw [this, List.length_cons]
    omega, show HT.sIx (x :: xs).length (x :: xs).length none = (x :: xs).length from rfl]
  rw [List.drop_succ_cons, List.drop_zero, List.length_cons, List.take_of_length_le (by omega)]
theorem dn_succ : ∀ (j : Nat) (v : Nat → Int) (i : Nat), dn (j + 1) v i = dn j v (i + 1) - dn j v i
  | 0, v, i => rfl
  | j + 1, v, i => dn_succ j (dl v) i
theorem fac_dvd {j : Nat} : ∀ {N : Nat}, j ≤ N → fac j ∣ fac N
  | 0, h => by
    have : j = 0 := by omega
    subst this
    exact Int.dvd_refl _
  | N + 1, h => by
    by_cases e : j = N + 1
    · subst e
      exact Int.dvd_refl _
    · exact Int.dvd_trans (fac_dvd (N := N) (by omega)) (Int.dvd_mul_right _ _)
theorem fac_le : ∀ {N : Nat}, N ≤ 31 → (fac N).natAbs ≤ 2 ^ (5 * N)
  | 0, _ => by decide
  | N + 1, h => by
    show (fac N * ((N + 1 : Nat) : Int)).natAbs ≤ _
    rw [Int.natAbs_mul, show 5 * (N + 1) = 5 * N + 5 by omega, Nat.pow_add]
    exact Nat.mul_le_mul (fac_le (by omega)) (by show N + 1 ≤ 32; omega)
theorem div_le {a b : Int} : (a / b).natAbs ≤ a.natAbs := Int.natAbs_ediv_le_natAbs _ _
/-- what the loop of row_through holds -/
structure Thr (N : Nat) (v : Nat → Int) (i : Nat) (F Pt S : List Int) (sh : Int) : Prop where
  fl : F.length ≤ i
  ft : trim F = F
  fv : ∀ x : Int, hv x F = sumN i fun j => dn j v 0 * (fac N / fac j) * ffl x j
  fb : BM (i * 2 ^ 1500) F
  pl : Pt.length ≤ i + 1
  pv : ∀ x : Int, hv x Pt = ffl x i
  pb : BM (2 ^ (11 * i)) Pt
  sh : sh = fac N / fac i
  sl : S.length = N + 1 - i
  sv : ∀ n, n + i ≤ N → S.getD n 0 = dn i v n
  sb : BM (2 ^ (1000 + i)) S
def dfs (S : List Int) : List Int := (List.range (S.length - 1)).map fun n => S.getD (n + 1) 0 - S.getD n 0
theorem Thr.start {N : Nat} {v : Nat → Int} {vs : List Int} (hl : vs.length = N + 1) (hv' : ∀ n, n ≤ N → vs.getD n 0 = v n) (hb : BM (2 ^ 1000) vs) : Thr N v 0 [] [1] vs (fac N) :=
  ⟨Nat.le_refl _, rfl, fun x => rfl, fun y hy => (nomatch hy), Nat.le_refl _, fun x => by simp [hv, ffl], fun y hy => by
    cases List.mem_singleton.mp hy
    decide, by rw [show fac 0 = 1 from rfl, Int.ediv_one], by omega, fun n hn => hv' n (by omega), hb⟩
theorem Thr.next {N i : Nat} {v : Nat → Int} {F Pt S : List Int} {sh : Int} (h : Thr N v i F Pt S sh) (hi : i < N + 1) (hN : N ≤ 28) :
    Thr N v (i + 1) (trim (addP F (trim (Pt.map (dn i v 0 * sh * ·))))) (mulP Pt [-(i : Int), 1]) (dfs S) (sh / ((i : Int) + 1)) := by
  have hs0 : (dn i v 0).natAbs ≤ 2 ^ (1000 + i) := by
    rw [← h.sv 0 (by omega)]
    exact h.sb.getD 0
  have hsh : sh.natAbs ≤ 2 ^ 150 := by
    rw [h.sh]
    exact Nat.le_trans div_le (Nat.le_trans (fac_le (by omega)) (Nat.pow_le_pow_right (by decide) (by omega)))
  have hc : (dn i v 0 * sh).natAbs ≤ 2 ^ (1150 + i) := by
    rw [Int.natAbs_mul, show 1150 + i = 1000 + i + 150 by omega, Nat.pow_add]
    exact Nat.mul_le_mul hs0 hsh
  refine ⟨?_, trim_idem _, fun x => ?_, ?_, ?_, fun x => ?_, ?_, ?_, ?_, fun n hn => ?_, ?_⟩
  · have h1 := trim_len (addP F (trim (Pt.map (dn i v 0 * sh * ·))))
    have h2 := trim_len (Pt.map (dn i v 0 * sh * ·))
    rw [addP_len] at h1
    rw [List.length_map] at h2
    have := h.fl
    have := h.pl
    omega
  · rw [hv_trim, hv_addP, hv_trim, hv_scl, h.fv, h.pv]
    show _ = sumN i _ + dn i v 0 * (fac N / fac i) * ffl x i
    rw [h.sh]
  · have h1 : BM (2 ^ 1500) (trim (Pt.map (dn i v 0 * sh * ·))) := BM.trim fun y hy => by
      obtain ⟨z, hz, rfl⟩ := List.mem_map.mp hy
      show (dn i v 0 * sh * z).natAbs ≤ _
      rw [Int.natAbs_mul]
      refine Nat.le_trans (Nat.mul_le_mul hc (h.pb z hz)) ?_
      rw [← Nat.pow_add]
      exact Nat.pow_le_pow_right (by decide) (by omega)
    have h2 := BM.trim (BM.addP h.fb h1)
    rw [Nat.succ_mul]
    exact h2
  · have := mulP_len Pt [-(i : Int), 1]
    have := h.pl
    have : ([-(i : Int), 1] : List Int).length = 2 := rfl
    omega
  · rw [hv_mulP, h.pv]
    show ffl x i * (-(i : Int) + x * (1 + x * 0)) = ffl x i * (x - i)
    congr 1
    rw [Int.mul_zero, Int.add_zero, Int.mul_one]
    omega
  · have h1 : BM 28 [-(i : Int), 1] := fun y hy => by
      simp only [List.mem_cons, List.not_mem_nil, or_false] at hy
      rcases hy with rfl | rfl <;> omega
    have h2 := BM.mulP h.pb h1
    refine h2.up ?_
    have h3 : Pt.length * (([-(i : Int), 1] : List Int).length * (2 ^ (11 * i) * 28)) ≤ 30 * (2 * (2 ^ (11 * i) * 28)) := Nat.mul_le_mul (by have := h.pl; omega) (Nat.le_refl _)
    refine Nat.le_trans h3 ?_
    rw [show 11 * (i + 1) = 11 * i + 11 by omega, Nat.pow_add]
    generalize 2 ^ (11 * i) = Z
    omega
  · rw [h.sh]
    show fac N / fac i / ((i : Int) + 1) = fac N / (fac i * ((i + 1 : Nat) : Int))
    have hp := fac_pos i
    rw [Int.ediv_ediv, if_neg (by omega), Int.sub_zero, show ((i + 1 : Nat) : Int) = (i : Int) + 1 by omega]
  · unfold dfs
    rw [List.length_map, List.length_range, h.sl]
    omega
  · have hn' : n < S.length - 1 := by rw [h.sl]; omega
    unfold dfs
    rw [List.getD_eq_getElem?_getD, List.getElem?_map, List.getElem?_range hn', dn_succ]
    show S.getD (n + 1) 0 - S.getD n 0 = _
    rw [h.sv (n + 1) (by omega), h.sv n (by omega)]
  · intro y hy
    unfold dfs at hy
    obtain ⟨n, _, rfl⟩ := List.mem_map.mp hy
    have a1 := h.sb.getD (n + 1)
    have a2 := h.sb.getD n
    rw [show 1000 + (i + 1) = 1000 + i + 1 by omega, Nat.pow_succ]
    omega
theorem Thr.done {N : Nat} {v : Nat → Int} {F Pt S D : List Int} {sh : Int} (h : Thr N v (N + 1) F Pt S sh) (hN : N ≤ 28) (hD : D.length ≤ N + 1) (hv' : ∀ k : Nat, k ≤ N → v k = hv (k : Int) D) :
    F.map (· / fac N) = trim D ∧ BM (2 ^ 1510) (F.map (· / fac N)) := by
  refine ⟨through h.ft h.fl hD fun k hk => ?_, fun y hy => ?_⟩
  · rw [h.fv, ← hv' k hk]
    exact newton_at (v := v) (fun j hj => Int.ediv_mul_cancel (fac_dvd hj)) hk
  · obtain ⟨z, hz, rfl⟩ := List.mem_map.mp hy
    refine Nat.le_trans div_le (Nat.le_trans (h.fb z hz) ?_)
    have : (N + 1) * 2 ^ 1500 ≤ 2 ^ 10 * 2 ^ 1500 := Nat.mul_le_mul_right _ (by omega)
    rwa [← Nat.pow_add] at this
end LW
namespace LW
open PySem PySem.Spec TL
open L2 (atI ixN)
noncomputable def WT1 : Sv := sFor (iR2 (aCons (eK (.int 1)) (aCons (en gLen (aCons (eVar 0) aNil)) aNil))) (gNm 2) (sAsg (e2 gTimes (eVar 1) (eVar 2)) (gNm 1))
noncomputable def WT2 : Sv := sAsg (eTup (aCons (eTup aNil) (aCons (eTup (aCons (eK (.int 1)) aNil)) (aCons (eVar 1) (aCons (eFrz (lList (aCons (eVar 0) aNil))) aNil))))) (gTp [(gNm 3), (gNm 4), (gNm 5), (gNm 6)])
noncomputable def WB1 : Sv := sAsg (cF 2 f_sum_by (aCons (eVar 3) (aCons (cF 2 f_scaled (aCons (eVar 4) (aCons (e2 gTimes (e2 gIx (eVar 6) (eK (.int 0))) (eVar 5)) aNil))) aNil))) (gNm 3)
noncomputable def WB2 : Sv := sPar 4 5 (aCons (cF 2 f_product_by (aCons (eVar 4) (aCons (eTup (aCons (e1 gNeg (eVar 2)) (aCons (eK (.int 1)) aNil))) aNil))) (aCons (e2 gDiv (eVar 5) (e2 gPlus (eVar 2) (eK (.int 1)))) aNil))
noncomputable def WB3 : Sv := sAsg (eFrz (lLc (iZipS (aCons (eVar 6) (aCons (eSl (eVar 6) (some (eK (.int 1))) none) aNil))) (gTp [(gNm 8), (gNm 9)]) bYes (e2 gSub (eVar 9) (eVar 8)) [8, 9])) (gNm 6)
noncomputable def WT3 : Sv := sFor (iR1 (aCons (en gLen (aCons (eVar 0) aNil)) aNil)) (gNm 2) (sSeq WB1 (sSeq WB2 WB3))
noncomputable def WT4 : Sv := sRet (en gTuple (aCons (eFrz (lLc (iAny (eVar 3)) (gNm 7) bYes (e2 gDiv (eVar 7) (eVar 1)) [7])) aNil))
theorem WT_is : b_row_through = sSeq (sAsg (eK (.int 1)) (gNm 1)) (sSeq WT1 (sSeq WT2 (sSeq WT3 WT4))) := rfl
abbrev wR (w : Wv) (u : Int) (o2 : Option Wv) (F Pt S : List Int) (sh : Int) : Rho := [some w, some (.d (.int u)), o2, some (.d (Rw' F)), some (.d (Rw' Pt)), some (.d (.int sh)), some (.d (.list (Li S))), none, none, none]
section
variable {μ : Mu} {w : Wv} {N : Nat} {v : Nat → Int} {vs : List Int}
theorem wt1_run (hw : SqD μ w (Li vs)) (hl : vs.length = N + 1) (hN : N ≤ 28) : ∃ o2, WT1 [some w, some (.d (.int 1)), none, none, none, none, none, none, none, none] μ = .ok (.nx [some w, some (.d (.int (fac N))), o2, none, none, none, none, none, none, none]) μ := by
  have hlen := sqd_len hw
  rw [Li_len, hl] at hlen
  have main := for_run (it := iR2 (aCons (eK (.int 1)) (aCons (en gLen (aCons (eVar 0) aNil)) aNil))) (xs := intL 1 N 1) (t := gNm 2) (b := sAsg (e2 gTimes (eVar 1) (eVar 2)) (gNm 1)) (ρ := [some w, some (.d (.int 1)), none, none, none, none, none, none, none, none]) (μ := μ) (μ1 := μ)
    (fun i ρ' μ' => i ≤ N ∧ μ' = μ ∧ ∃ o2, ρ' = [some w, some (.d (.int (fac i))), o2, none, none, none, none, none, none, none])
    (by rw [it_r2 (i := 1) (j := ((N + 1 : Nat) : Int)) (μ1 := μ) (by simp [hlen]) (by omega) (by omega) (by omega) (by omega), show (((N + 1 : Nat) : Int) - 1).toNat = N by omega]) ⟨Nat.zero_le _, rfl, none, rfl⟩ (fun i y ρ' μ' hy ⟨hi, d0, o2, d1⟩ => ?_)
  · obtain ⟨ρ', μ', e, _, rfl, o2, rfl⟩ := main
    rw [intL_len] at e
    exact ⟨o2, e⟩
  · subst d0 d1
    have hk : i < N := by
      have := (List.getElem?_eq_some_iff.mp hy).1
      rwa [intL_len] at this
    rw [intL_at hk] at hy
    cases hy
    have t := w_times (μ := μ') (i := fac i) (j := 1 + (i : Int)) (Sml.of (fac_le (by omega)) (by omega)) (Sml.of (k := 10) (by omega) (by omega))
    have e : fac i * (1 + (i : Int)) = fac (i + 1) := by
      show _ = fac i * ((i + 1 : Nat) : Int)
      rw [show ((i + 1 : Nat) : Int) = 1 + (i : Int) by omega]
    rw [e] at t
    refine ⟨_, _, _, μ', rfl, ?_, hk, rfl, some (.d (.int (1 + (i : Int)))), rfl⟩
    simp [t]
theorem wt3_turn {i : Nat} {u : Int} {F Pt S : List Int} {sh : Int} (h : Thr N v i F Pt S sh) (hi : i < N + 1) (hN : N ≤ 28) :
    sSeq WB1 (sSeq WB2 WB3) (wR w u (some (.d (.int (i : Int)))) F Pt S sh) μ = .ok (.nx (wR w u (some (.d (.int (i : Int)))) (trim (addP F (trim (Pt.map (dn i v 0 * sh * ·))))) (mulP Pt [-(i : Int), 1]) (dfs S) (sh / ((i : Int) + 1)))) μ := by
  have hs0 : S.getD 0 0 = dn i v 0 := h.sv 0 (by omega)
  have hS : 0 < S.length := by rw [h.sl]; omega
  have hsh : sh.natAbs ≤ 2 ^ 150 := by
    rw [h.sh]
    exact Nat.le_trans div_le (Nat.le_trans (fac_le (by omega)) (Nat.pow_le_pow_right (by decide) (by omega)))
  have b0 : (S.getD 0 0).natAbs ≤ 2 ^ (1000 + i) := h.sb.getD 0
  have hc : (S.getD 0 0 * sh).natAbs ≤ 2 ^ (1150 + i) := by
    rw [Int.natAbs_mul, show 1150 + i = 1000 + i + 150 by omega, Nat.pow_add]
    exact Nat.mul_le_mul b0 hsh
  have at0 := Li_at' (a := S) (n := 0) hS
  have t1 := w_times (μ := μ) (i := S.getD 0 0) (j := sh) (Sml.of b0 (by omega)) (Sml.of hsh (by omega))
  have hl2 := trim_len (Pt.map (S.getD 0 0 * sh * ·))
  rw [List.length_map] at hl2
  have sPt := h.pb.sm (k := 11 * i) (Nat.le_refl _) (by omega)
  have t2 := t_scaled (μ := μ) (xs := Pt) (k := S.getD 0 0 * sh) (by have := h.pl; omega) (Sml.of hc (by omega)) sPt
  have t3 := t_sum_by (μ := μ) (a := F) (b := trim (Pt.map (S.getD 0 0 * sh * ·))) (by have := h.fl; omega) (by have := h.pl; omega)
  have t4 := t_product_by (μ := μ) (a := Pt) (b := [-(i : Int), 1]) sPt (fun y hy => by
    simp only [List.mem_cons, List.not_mem_nil, or_false] at hy
    rcases hy with rfl | rfl
    · exact Sml.of (k := 5) (by omega) (by omega)
    · exact Sml.of (k := 5) (by omega) (by omega)) (by have := h.pl; omega) (by simp)
  have t5 := w_div (μ := μ) (i := sh) (j := (i : Int) + 1) (by omega) (Sml.of (k := 5) (by omega) (by omega))
  rw [hs0] at t3 t2 t1 at0
  have r1 : WB1 (wR w u (some (.d (.int (i : Int)))) F Pt S sh) μ = .ok (.nx (wR w u (some (.d (.int (i : Int)))) (trim (addP F (trim (Pt.map (dn i v 0 * sh * ·))))) Pt S sh)) μ := by
    unfold WB1
    rw [show ((0 : Nat) : Int) = 0 from rfl] at at0
    generalize trim (addP F (trim (Pt.map (dn i v 0 * sh * ·)))) = F1 at *
    generalize trim (Pt.map (dn i v 0 * sh * ·)) = Q1 at *
    simp [at0, t1, t2, t3]
  generalize trim (addP F (trim (Pt.map (dn i v 0 * sh * ·)))) = F1 at *
  have r2 : WB2 (wR w u (some (.d (.int (i : Int)))) F1 Pt S sh) μ = .ok (.nx (wR w u (some (.d (.int (i : Int)))) F1 (mulP Pt [-(i : Int), 1]) S (sh / ((i : Int) + 1)))) μ := by
    unfold WB2
    have e : (Rw' [-(i : Int), 1]) = PyData.tuple [.int (-(i : Int)), .int 1] := rfl
    rw [e] at t4
    simp [t4, t5]
  generalize mulP Pt [-(i : Int), 1] = P1 at *
  have r3 : WB3 (wR w u (some (.d (.int (i : Int)))) F1 P1 S (sh / ((i : Int) + 1))) μ = .ok (.nx (wR w u (some (.d (.int (i : Int)))) F1 P1 (dfs S) (sh / ((i : Int) + 1)))) μ := by
    have lc : lLc (iZipS (aCons (eVar 6) (aCons (eSl (eVar 6) (some (eK (.int 1))) none) aNil))) (gTp [(gNm 8), (gNm 9)]) bYes (e2 gSub (eVar 9) (eVar 8)) [8, 9] (wR w u (some (.d (.int (i : Int)))) F1 P1 S (sh / ((i : Int) + 1))) μ = .ok (Li (dfs S)) μ := by
      cases S with
      | nil => simp at hS
      | cons s0 S1 =>
        have hit : iZipS (aCons (eVar 6) (aCons (eSl (eVar 6) (some (eK (.int 1))) none) aNil)) (wR w u (some (.d (.int (i : Int)))) F1 P1 (s0 :: S1) (sh / ((i : Int) + 1))) μ = .ok ⟨zipL (Li (s0 :: S1)) (cutL (Li (s0 :: S1)) (some 1) none), []⟩ μ := rfl
        rw [show cutL (Li (s0 :: S1)) (some 1) none = Li S1 from cut_one] at hit
        refine lcT_eq hit ?_ ?_ fun k x z hx hz => ?_
        · rw [zipL_len, Li_len, Li_len]
          have := h.sl
          omega
        · rw [zipL_len, Li_len, Li_len, Li_len]
          unfold dfs
          rw [List.length_map, List.length_range, List.length_cons]
          omega
        · have hk : k < S1.length := by
            have := (List.getElem?_eq_some_iff.mp hx).1
            rw [zipL_len, Li_len, Li_len] at this
            omega
          have g1 : (s0 :: S1)[k]? = some ((s0 :: S1).getD k 0) := by
            rw [List.getD_eq_getElem?_getD, List.getElem?_eq_getElem (by rw [List.length_cons]; omega)]
            rfl
          have g2 : S1[k]? = some ((s0 :: S1).getD (k + 1) 0) := by
            rw [List.getD_eq_getElem?_getD, List.getElem?_cons_succ, List.getElem?_eq_getElem hk]
            rfl
          unfold zipL at hx
          rw [List.getElem?_zipWith, Li_get, Li_get, g1, g2] at hx
          unfold dfs at hz
          rw [Li_get, List.getElem?_map, List.getElem?_range (by rw [List.length_cons]; omega)] at hz
          cases hx
          cases hz
          exact ⟨_, rfl, rfl⟩
    unfold WB3
    simp [lc]
  rw [seq_ok r1, seq_ok r2, r3]
theorem t_row_through {D : List Int} (hw : SqD μ w (Li vs)) (hl : vs.length = N + 1) (hN : N ≤ 28) (hb : BM (2 ^ 1000) vs) (hD : D.length ≤ N + 1) (hv' : ∀ k : Nat, k ≤ N → vs.getD k 0 = hv (k : Int) D) :
    f_row_through [w] μ = .ok (.d (Rw' (trim D))) μ ∧ BM (2 ^ 1510) (trim D) := by
  have hlen := sqd_len hw
  rw [Li_len, hl] at hlen
  have hli := sqd_list hw
  obtain ⟨o2, q1⟩ := wt1_run hw hl hN
  have s0 : sAsg (eK (.int 1)) (gNm 1) [some w, none, none, none, none, none, none, none, none, none] μ = .ok (.nx [some w, some (.d (.int 1)), none, none, none, none, none, none, none, none]) μ := by simp
  have q2 : WT2 [some w, some (.d (.int (fac N))), o2, none, none, none, none, none, none, none] μ = .ok (.nx (wR w (fac N) o2 [] [1] vs (fac N))) μ := by
    unfold WT2
    simp [hli, Li]
  have main := for_run (it := iR1 (aCons (en gLen (aCons (eVar 0) aNil)) aNil)) (xs := intL 0 (N + 1) 1) (t := gNm 2) (b := sSeq WB1 (sSeq WB2 WB3)) (ρ := wR w (fac N) o2 [] [1] vs (fac N)) (μ := μ) (μ1 := μ)
    (fun i ρ' μ' => i ≤ N + 1 ∧ μ' = μ ∧ ∃ o2 F Pt S sh, ρ' = wR w (fac N) o2 F Pt S sh ∧ Thr N (fun k => vs.getD k 0) i F Pt S sh)
    (it_r1 (j := ((N + 1 : Nat) : Int)) (by simp [hlen]) (by omega) (by omega)) ⟨Nat.zero_le _, rfl, o2, _, _, _, _, rfl, Thr.start hl (fun n _ => rfl) hb⟩ (fun i y ρ' μ' hy ⟨hi, d0, o2, F, Pt, S, sh, d1, th⟩ => ?_)
  · obtain ⟨ρ', μ', e3, _, rfl, o2', F, Pt, S, sh, rfl, th⟩ := main
    rw [intL_len] at th
    obtain ⟨r1, r2⟩ := th.done hN hD hv'
    rw [← r1]
    refine ⟨?_, r2⟩
    unfold f_row_through
    refine run_ret0 ?_
    rw [WT_is]
    show sSeq _ _ [some w, none, none, none, none, none, none, none, none, none] μ' = _
    have e3' : WT3 (wR w (fac N) o2 [] [1] vs (fac N)) μ' = .ok (.nx (wR w (fac N) o2' F Pt S sh)) μ' := e3
    rw [seq_ok s0, seq_ok q1, seq_ok q2, seq_ok e3']
    have lc := lc_ints (g := (· / fac N)) (it := iAny (eVar 3)) (xs := F) (i := 7) (e := e2 gDiv (eVar 7) (eVar 1)) (ρ := wR w (fac N) o2' F Pt S sh) (μ := μ') (μ1 := μ') rfl (by have := th.fl; omega) (fun x hx => by
      have t := w_div (μ := μ') (i := x) (fac_pos N) (Sml.of (fac_le (by omega)) (by omega))
      simp [t])
    unfold WT4
    simp [lc]
  · subst d0 d1
    have hk : i < N + 1 := by
      have := (List.getElem?_eq_some_iff.mp hy).1
      rwa [intL_len] at this
    rw [intL_at hk, Int.zero_add] at hy
    cases hy
    exact ⟨_, _, _, μ', rfl, wt3_turn th hk hN, hk, rfl, _, _, _, _, _, rfl, th.next hk hN⟩
end
end LW
namespace LW
open PySem PySem.Spec TL
open L2 (atI ixN)
theorem intsOf_Li (xs : List Int) : intsOf (Li xs) = some xs := by
  induction xs with
  | nil => rfl
  | cons x xs ih =>
    show intsOf (.int x :: Li xs) = _
    unfold intsOf
    rw [ih]
    rfl
theorem gMax_li {μ : Mu} {m : Int} {xs : List Int} : gMax [.d (.list (.int m :: Li xs))] μ = .ok (.d (.int (maxI m xs))) μ := by
  have : intsOf (.int m :: Li xs) = some (m :: xs) := intsOf_Li (m :: xs)
  show (match dataOf μ (.d (.list (.int m :: Li xs))) with
    | some (.list xs) => match intsOf xs with
      | some (m :: r) => Out.ok (wI (maxI m r)) μ
      | _ => .bad
    | _ => .bad) = _
  simp only [x_dd, this]
end LW
namespace LW
open PySem PySem.Spec TL
open L2 (atI ixN)
theorem maxI_lens (P : Pol) : maxI 0 (P.map fun r => (r.length : Int)) = (wid P : Int) := by
  unfold wid
  have gen : ∀ (P : Pol) (m : Nat), maxI (m : Int) (P.map fun r => (r.length : Int)) = ((P.foldl (fun m r => max m r.length) m : Nat) : Int) := by
    intro P
    induction P with
    | nil => intro m; rfl
    | cons r P ih =>
      intro m
      rw [List.map_cons, List.foldl_cons]
      have e : maxI (m : Int) ((r.length : Int) :: P.map fun r => (r.length : Int)) = maxI ((max m r.length : Nat) : Int) (P.map fun r => (r.length : Int)) := by
        show maxI (if (r.length : Int) > (m : Int) then (r.length : Int) else (m : Int)) _ = _
        congr 1
        split <;> omega
      rw [e, ih]
  exact gen P 0
/-- max([0] + lens) -/
theorem t_wid {ρ : Rho} {μ : Mu} {P : Pol} {f : Ev} (hf : f ρ μ = .ok (.d (.list (Li (P.map fun r => (r.length : Int))))) μ) (hl : P.length ≤ 1000) :
    en gMax (aCons (e2 gPlus (eFrz (lDisp (aCons (eK (.int 0)) aNil))) f) aNil) ρ μ = .ok (.d (.int (wid P))) μ := by
  have h1 : 1 + P.length ≤ 16777216 := by omega
  have e := gMax_li (μ := μ) (m := 0) (xs := P.map fun r => (r.length : Int))
  rw [maxI_lens] at e
  simp [hf, h1, e]
theorem lc_lens {μ : Mu} {P : Pol} {ρ : Rho} {i : Nat} {x : Ev} (hit : iAny x ρ μ = .ok ⟨Lp P, []⟩ μ) (hl : P.length ≤ 1000) (hi : ∀ r, eVar i ((ρ.set i none).set i (some (.d (Rw' r)))) μ = .ok (.d (Rw' r)) μ) :
    lLc (iAny x) (gNm i) bYes (en gLen (aCons (eVar i) aNil)) [i] ρ μ = .ok (Li (P.map fun r => (r.length : Int))) μ := by
  have := lc_of (f := Rw') (g := fun r => PyData.int (r.length : Int)) (e := en gLen (aCons (eVar i) aNil)) (i := i) hit (by omega) fun r hr => by
    have h1 := hi r
    generalize (ρ.set i none).set i (some (.d (Rw' r))) = ρ1 at h1 ⊢
    simp [h1]
  rw [this]
  unfold Li
  rw [List.map_map]
  rfl
theorem lc_col {μ : Mu} {P : Pol} {ρ : Rho} {i j k : Nat} {x : Ev} (hit : iAny x ρ μ = .ok ⟨Lp P, []⟩ μ) (hl : P.length ≤ 1000) (hi : ∀ r, eVar i ((ρ.set i none).set i (some (.d (Rw' r)))) μ = .ok (.d (Rw' r)) μ) (hj : ∀ r, eVar j ((ρ.set i none).set i (some (.d (Rw' r)))) μ = .ok (.d (.int (k : Int))) μ) :
    lLc (iAny x) (gNm i) bYes (eIf (tB' (e2 (gCmp fun i j => decide (i < j)) (eVar j) (en gLen (aCons (eVar i) aNil)))) (e2 gIx (eVar i) (eVar j)) (eK (.int 0))) [i] ρ μ = .ok (Li (col P k)) μ := by
  have := lc_of (f := Rw') (g := fun r => PyData.int (r.getD k 0)) (e := eIf (tB' (e2 (gCmp fun i j => decide (i < j)) (eVar j) (en gLen (aCons (eVar i) aNil)))) (e2 gIx (eVar i) (eVar j)) (eK (.int 0))) (i := i) hit (by omega) fun r hr => by
    have h1 := hi r
    have h2 := hj r
    generalize (ρ.set i none).set i (some (.d (Rw' r))) = ρ1 at h1 h2 ⊢
    by_cases hk : k < r.length
    · have e : atI (Li r) (k : Int) = some (.int (r.getD k 0)) := at_n (by rw [Li_get, List.getElem?_eq_getElem hk, List.getD_eq_getElem?_getD, List.getElem?_eq_getElem hk]; rfl)
      simp [h1, h2, hk, e]
    · have e : r.getD k 0 = 0 := by rw [List.getD_eq_getElem?_getD, List.getElem?_eq_none (by omega)]; rfl
      simp [h1, h2, hk, -List.getD_eq_getElem?_getD, e]
  rw [this]
  unfold Li col
  rw [List.map_map]
  rfl
theorem Lp_range {P : Pol} {n : Nat} : Lp ((List.range n).map fun j => trim (col P j)) = (List.range n).map fun j => Rw' (trim (col P j)) := by
  unfold Lp
  rw [List.map_map]
  rfl
end LW
namespace LW
open PySem PySem.Spec TL
open L2 (atI ixN)
theorem maxI_eq {y : Int} : ∀ {xs : List Int} {m : Int}, m ≤ y → (∀ x ∈ xs, x ≤ y) → (y = m ∨ y ∈ xs) → maxI m xs = y
  | [], m, _, _, h => by
    rcases h with h | h
    · exact h.symm
    · cases h
  | x :: r, m, h1, h2, h3 => by
    have hx := h2 x List.mem_cons_self
    show maxI (if x > m then x else m) r = y
    refine maxI_eq (by split <;> omega) (fun z hz => h2 z (List.mem_cons_of_mem _ hz)) ?_
    rcases h3 with h3 | h3
    · left
      split <;> omega
    · rcases List.mem_cons.mp h3 with h3 | h3
      · left
        split <;> omega
      · exact .inr h3
theorem wid_mem (P : List (List Int)) : wid P = 0 ∨ ∃ r ∈ P, r.length = wid P := by
  have key : ∀ (xs : List Int) (m : Int), maxI m xs = m ∨ maxI m xs ∈ xs := by
    intro xs
    induction xs with
    | nil => intro m; exact .inl rfl
    | cons x r ih =>
      intro m
      show maxI (if x > m then x else m) r = m ∨ maxI (if x > m then x else m) r ∈ x :: r
      rcases ih (if x > m then x else m) with h | h
      · rw [h]
        split
        · exact .inr List.mem_cons_self
        · exact .inl rfl
      · exact .inr (List.mem_cons_of_mem _ h)
  have := maxI_lens P
  rcases key (P.map fun r => (r.length : Int)) 0 with h | h
  · left
    rw [this] at h
    omega
  · right
    rw [this] at h
    obtain ⟨r, hr, e⟩ := List.mem_map.mp h
    exact ⟨r, hr, by omega⟩
/-- the greatest degree of the rows, 0 at least -/
def wdt (P : List (List Int)) : Nat := max 1 (wid P) - 1
theorem wdt_le {P : List (List Int)} {r : List Int} (h : r ∈ P) : r.length ≤ wdt P + 1 := by
  have := wid_le h
  unfold wdt
  omega
theorem wdt_bd {P : List (List Int)} {n : Nat} (h : ∀ r ∈ P, r.length ≤ n + 1) : wdt P ≤ n := by
  unfold wdt
  rcases wid_mem P with h1 | ⟨r, hr, e⟩
  · omega
  · have := h r hr
    omega
theorem t_width_of {μ : Mu} {P : List (List Int)} (hl : P.length ≤ 1000) : f_width_of [.d (Pl P)] μ = .ok (.d (.int (wdt P))) μ := by
  have lc := lc_lens (μ := μ) (P := P) (ρ := [some (.d (Pl P)), none]) (i := 1) (x := eVar 0) rfl hl (fun r => rfl)
  have e := gMax_li (μ := μ) (m := 1) (xs := P.map fun r => (r.length : Int))
  have m : maxI 1 (P.map fun r => (r.length : Int)) = ((max 1 (wid P) : Nat) : Int) := by
    refine maxI_eq (by omega) (fun x hx => ?_) ?_
    · obtain ⟨r, hr, rfl⟩ := List.mem_map.mp hx
      have := wid_le hr
      omega
    · by_cases h : wid P ≤ 1
      · left
        omega
      · right
        rcases wid_mem P with h1 | ⟨r, hr, e⟩
        · omega
        · exact List.mem_map.mpr ⟨r, hr, by omega⟩
  rw [m] at e
  have h1 : 1 + P.length ≤ 16777216 := by omega
  have e2 : ((max 1 (wid P) : Nat) : Int) - 1 = ((wdt P : Nat) : Int) := by
    unfold wdt
    omega
  generalize ((max 1 (wid P) : Nat) : Int) = Z at *
  generalize ((wdt P : Nat) : Int) = Y at *
  simp [f_width_of, b_width_of, runD, initR, lc, h1, e, e2]
/-- the law's own: max([len(row) - 1 ..] + [0]) -/
theorem t_wdt {ρ : Rho} {μ : Mu} {P : List (List Int)} {i : Nat} {x : Ev} (hit : iAny x ρ μ = .ok ⟨Lp P, []⟩ μ) (hl : P.length ≤ 1000) (hp : P ≠ []) (hi : ∀ r, eVar i ((ρ.set i none).set i (some (.d (Rw' r)))) μ = .ok (.d (Rw' r)) μ) :
    en gMax (aCons (e2 gPlus (eFrz (lLc (iAny x) (gNm i) bYes (e2 gSub (en gLen (aCons (eVar i) aNil)) (eK (.int 1))) [i])) (eFrz (lDisp (aCons (eK (.int 0)) aNil)))) aNil) ρ μ = .ok (.d (.int (wdt P))) μ := by
  have lc := lc_of (f := Rw') (g := fun r => PyData.int ((r.length : Int) - 1)) (e := e2 gSub (en gLen (aCons (eVar i) aNil)) (eK (.int 1))) (i := i) hit (by omega) fun r hr => by
    have h1 := hi r
    generalize (ρ.set i none).set i (some (.d (Rw' r))) = ρ1 at h1 ⊢
    simp [h1]
  have h1 : P.length + 1 ≤ 16777216 := by omega
  cases P with
  | nil => exact absurd rfl hp
  | cons r0 P =>
    have e := gMax_li (μ := μ) (m := (r0.length : Int) - 1) (xs := (P.map fun r => (r.length : Int) - 1) ++ [0])
    have m : maxI ((r0.length : Int) - 1) ((P.map fun r => (r.length : Int) - 1) ++ [0]) = ((wdt (r0 :: P) : Nat) : Int) := by
      refine maxI_eq ?_ (fun x hx => ?_) ?_
      · have := wdt_le (P := r0 :: P) List.mem_cons_self
        omega
      · rcases List.mem_append.mp hx with hx | hx
        · obtain ⟨r, hr, rfl⟩ := List.mem_map.mp hx
          have := wdt_le (P := r0 :: P) (List.mem_cons_of_mem _ hr)
          omega
        · cases List.mem_singleton.mp hx
          omega
      · by_cases h : wid (r0 :: P) ≤ 1
        · right
          have : wdt (r0 :: P) = 0 := by unfold wdt; omega
          rw [this]
          simp
        · have hw : wdt (r0 :: P) + 1 = wid (r0 :: P) := by unfold wdt; omega
          rcases wid_mem (r0 :: P) with h1 | ⟨r, hr, e⟩
          · omega
          · rcases List.mem_cons.mp hr with rfl | hr
            · left
              omega
            · right
              exact List.mem_append_left _ (List.mem_map.mpr ⟨r, hr, by omega⟩)
    rw [m] at e
    have el : PyData.int ((r0.length : Int) - 1) :: Li ((P.map fun r => (r.length : Int) - 1) ++ [0]) = ((r0 :: P).map fun r => PyData.int ((r.length : Int) - 1)) ++ [.int 0] := by
      unfold Li
      rw [List.map_cons, List.map_append, List.map_map]
      rfl
    rw [el] at e
    generalize ((wdt (r0 :: P) : Nat) : Int) = Y at *
    have hlen : ((r0 :: P).map fun r => PyData.int ((r.length : Int) - 1)).length + 1 ≤ 16777216 := by rw [List.length_map]; exact h1
    generalize ((r0 :: P).map fun r => PyData.int ((r.length : Int) - 1)) = L at *
    simp [lc, hlen, e]
end LW
namespace LW
open PySem PySem.Spec TL
open L2 (atI ixN)
theorem trim_getD (a : List Int) (k : Nat) : (trim a).getD k 0 = a.getD k 0 := by
  rw [← rs_at, ← rs_at, rs_trim]
theorem pad_trim {a : List Int} {n : Nat} (h : a.length = n) : pad n (trim a) = a := by
  have hl := trim_len a
  apply List.ext_getElem?
  intro k
  by_cases hk : k < n
  · rw [pad_get (by omega) hk, trim_getD, List.getD_eq_getElem?_getD, List.getElem?_eq_getElem (by omega)]
    rfl
  · rw [List.getElem?_eq_none (by rw [pad_len (by omega)]; omega), List.getElem?_eq_none (by omega)]
theorem atX_val {x : Int} {P : List (List Int)} : atX x P = (valL x P).reverse := by
  apply List.ext_getElem?
  intro k
  by_cases hk : k < P.length
  · rw [List.getElem?_reverse (by rw [valL_len]; exact hk), valL_len]
    unfold atX valL
    rw [List.getElem?_map, List.getElem?_range hk, List.getElem?_map, List.getElem?_eq_getElem (show P.length - 1 - k < P.length by omega)]
    show some (hv x (P.getD (P.length - 1 - k) [])) = _
    rw [List.getD_eq_getElem?_getD, List.getElem?_eq_getElem (show P.length - 1 - k < P.length by omega)]
    rfl
  · rw [List.getElem?_eq_none (by rw [atX_len]; omega), List.getElem?_eq_none (by rw [List.length_reverse, valL_len]; omega)]
theorem tabV_X {x : Int} {P Q : List (List Int)} : tabV (P.length - 1) (Q.length - 1) (valL x P) (valL x Q) = tabX x P Q := by
  unfold tabV tabX
  rw [atX_val, atX_val]
/-- the resultant as a function of x -/
def resV (P Q : List (List Int)) (x : Int) : Int := res (P.length - 1) (Q.length - 1) (fun k => hv x (P.getD k [])) (fun k => hv x (Q.getD k []))
theorem tabX_len {x : Int} {P Q : List (List Int)} : (tabX x P Q).length = Q.length - 1 + (P.length - 1) := by
  rw [← tabV_X, tabV_len]
theorem tabX_tab {x : Int} {P Q : List (List Int)} (hP : 1 ≤ P.length) (hQ : 1 ≤ Q.length) : Tab (P.length - 1 + (Q.length - 1)) (tabX x P Q) := by
  refine ⟨by rw [tabX_len]; omega, fun r hr => ?_⟩
  unfold tabX at hr
  rcases List.mem_append.mp hr with hr | hr
  · obtain ⟨j, hj, rfl⟩ := List.mem_map.mp hr
    rw [padR_len (List.mem_range.mp hj), atX_len]
    have := List.mem_range.mp hj
    omega
  · obtain ⟨j, hj, rfl⟩ := List.mem_map.mp hr
    rw [padR_len (List.mem_range.mp hj), atX_len]
    have := List.mem_range.mp hj
    omega
theorem det_tabX {x : Int} {P Q : List (List Int)} (hP : 1 ≤ P.length) (hQ : 1 ≤ Q.length) : det (P.length - 1 + (Q.length - 1)) (Ent (tabX x P Q)) = resV P Q x := by
  unfold resV
  rw [res_eq]
  exact det_congr fun r c hr hc => tabX_syl hP hQ hr
theorem tabX_bd {x : Int} {P Q : List (List Int)} {B : Nat} (hP : 1 ≤ P.length) (hQ : 1 ≤ Q.length) (bP : BM B (valL x P)) (bQ : BM B (valL x Q)) : ∀ r c, r < P.length - 1 + (Q.length - 1) → (Ent (tabX x P Q) r c).natAbs ≤ B := fun r c hr => by
  rw [tabX_syl hP hQ hr]
  unfold sylE
  have g1 := fun k => bP.getD k
  have g2 := fun k => bQ.getD k
  simp only [valL_get] at g1 g2
  repeat' split
  · exact g1 _
  · exact Nat.zero_le _
  · exact g2 _
  · exact Nat.zero_le _
theorem t_res_at {μ : Mu} {b : Nat} {P Q : List (List Int)} {x : Int} (hP : Sz b P) (hQ : Sz b Q) (hb : b ≤ 110) (lP : 1 ≤ P.length) (lQ : 1 ≤ Q.length) (hPQ : P.length + Q.length ≤ 9) (hx : x.natAbs ≤ 2 ^ 5) :
    f_resultant_by [.d (Rw' (trim (valL x P))), .d (Rw' (trim (valL x Q))), .d (.int ((P.length - 1 : Nat) : Int)), .d (.int ((Q.length - 1 : Nat) : Int))] μ = .ok (.d (.int (resV P Q x))) μ ∧ (resV P Q x).natAbs ≤ 2 ^ 1000 := by
  have eP : pad (P.length - 1 + 1) (trim (valL x P)) = valL x P := pad_trim (by rw [valL_len]; omega)
  have eQ : pad (Q.length - 1 + 1) (trim (valL x Q)) = valL x Q := pad_trim (by rw [valL_len]; omega)
  have bd := tabX_bd lP lQ (hP.val hx) (hQ.val hx)
  have tb := tabX_tab (x := x) lP lQ
  have hok : DT.OkT (tabX x P Q) := by
    refine ⟨by rw [tb.1]; exact tb, by rw [tb.1]; omega, fun r c hr hc => ?_⟩
    rw [tb.1] at hr
    exact Nat.le_trans (bd r c hr) (Nat.pow_le_pow_right (by decide) (by omega))
  have t := t_resultant_by (μ := μ) (a := trim (valL x P)) (b := trim (valL x Q)) (n := P.length - 1) (m := Q.length - 1) (M := 0) (by have := trim_len (valL x P); rw [valL_len] at this; omega) (by have := trim_len (valL x Q); rw [valL_len] at this; omega) (by omega) (by omega) (by rw [eP, eQ, tabV_X]; exact hok)
  rw [eP, eQ, tabV_X, Nat.add_comm (Q.length - 1), det_tabX lP lQ] at t
  refine ⟨t, ?_⟩
  rw [← det_tabX lP lQ]
  refine Nat.le_trans (det_bd (B := 2 ^ 140) fun r c hr hc => Nat.le_trans (bd r c hr) (Nat.pow_le_pow_right (by decide) (by omega))) (DT.db_le7 (by omega))
/-- how great the degree can be -/
def mst (P Q : List (List Int)) : Nat := (Q.length - 1) * wdt P + (P.length - 1) * wdt Q
theorem resV_D {P Q : List (List Int)} : ∃ D : List Int, D.length ≤ mst P Q + 1 ∧ ∀ x, resV P Q x = hv x D := by
  have key : ∀ (P : List (List Int)) (k : Nat), (P.getD k []).length ≤ wdt P + 1 := fun P k => by
    rw [List.getD_eq_getElem?_getD]
    by_cases h : k < P.length
    · rw [List.getElem?_eq_getElem h]
      exact wdt_le (List.getElem_mem h)
    · rw [List.getElem?_eq_none (by omega)]
      exact Nat.zero_le _
  exact res_IsP (n := P.length - 1) (m := Q.length - 1) (u := wdt P) (v := wdt Q) (f := fun x k => hv x (P.getD k [])) (g := fun x k => hv x (Q.getD k [])) (fun i => ⟨P.getD i [], key P i, fun x => rfl⟩) (fun i => ⟨Q.getD i [], key Q i, fun x => rfl⟩)
theorem mst_le {b : Nat} {P Q : List (List Int)} (hP : Sz b P) (hQ : Sz b Q) (lP : 1 ≤ P.length) (lQ : 1 ≤ Q.length) (hPQ : P.length + Q.length ≤ 9) : mst P Q ≤ 28 := by
  have a := wdt_bd (n := 4) hP.n
  have b := wdt_bd (n := 4) hQ.n
  unfold mst
  have h1 : (Q.length - 1) * wdt P ≤ (Q.length - 1) * 4 := Nat.mul_le_mul_left _ a
  have h2 : (P.length - 1) * wdt Q ≤ (P.length - 1) * 4 := Nat.mul_le_mul_left _ b
  omega
noncomputable def RF2 : Sv := sAsg (e2 gPlus (e2 gTimes (eVar 6) (cF 1 f_width_of (aCons (eVar 0) aNil))) (e2 gTimes (eVar 5) (cF 1 f_width_of (aCons (eVar 1) aNil)))) (gNm 2)
noncomputable def RFb : Sv := sExpr (eMeth1 gApp (eVar 3) (aCons (cF 4 f_resultant_by (aCons (cF 2 f_values_at (aCons (eVar 0) (aCons (eVar 4) aNil))) (aCons (cF 2 f_values_at (aCons (eVar 1) (aCons (eVar 4) aNil))) (aCons (eVar 5) (aCons (eVar 6) aNil))))) aNil))
theorem RF_is : b_resultant_of = sSeq (sPar 5 6 (aCons (e2 gSub (en gLen (aCons (eVar 0) aNil)) (eK (.int 1))) (aCons (e2 gSub (en gLen (aCons (eVar 1) aNil)) (eK (.int 1))) aNil))) (sSeq RF2 (sSeq (sAsg (eNew (lDisp aNil)) (gNm 3)) (sSeq (sFor (iR1 (aCons (e2 gPlus (eVar 2) (eK (.int 1))) aNil)) (gNm 4) RFb) (sRet (cF 1 f_row_through (aCons (eVar 3) aNil)))))) := rfl
theorem t_resultant_of {μ : Mu} {b : Nat} {P Q : List (List Int)} {D : List Int} (hP : Sz b P) (hQ : Sz b Q) (hb : b ≤ 110) (lP : 1 ≤ P.length) (lQ : 1 ≤ Q.length) (hPQ : P.length + Q.length ≤ 9) (hD : D.length ≤ mst P Q + 1) (hv' : ∀ x, resV P Q x = hv x D) :
    f_resultant_of [.d (Pl P), .d (Pl Q)] μ = .ok (.d (Rw' (trim D))) μ ∧ BM (2 ^ 1510) (trim D) := by
  have hm := mst_le hP hQ lP lQ hPQ
  have wP := t_width_of (μ := μ) (P := P) (by omega)
  have wQ := t_width_of (μ := μ) (P := Q) (by omega)
  have aP := wdt_bd (n := 4) hP.n
  have aQ := wdt_bd (n := 4) hQ.n
  have eP : (P.length : Int) - 1 = ((P.length - 1 : Nat) : Int) := by omega
  have eQ : (Q.length : Int) - 1 = ((Q.length - 1 : Nat) : Int) := by omega
  have t1 := w_times (μ := μ) (i := ((Q.length - 1 : Nat) : Int)) (j := (wdt P : Int)) (Sml.of (k := 10) (by omega) (by omega)) (Sml.of (k := 10) (by omega) (by omega))
  have t2 := w_times (μ := μ) (i := ((P.length - 1 : Nat) : Int)) (j := (wdt Q : Int)) (Sml.of (k := 10) (by omega) (by omega)) (Sml.of (k := 10) (by omega) (by omega))
  have em : ((Q.length - 1 : Nat) : Int) * (wdt P : Int) + ((P.length - 1 : Nat) : Int) * (wdt Q : Int) = ((mst P Q : Nat) : Int) := by
    unfold mst
    rw [Int.natCast_add, Int.natCast_mul, Int.natCast_mul]
  have s1 : sPar 5 6 (aCons (e2 gSub (en gLen (aCons (eVar 0) aNil)) (eK (.int 1))) (aCons (e2 gSub (en gLen (aCons (eVar 1) aNil)) (eK (.int 1))) aNil)) [some (.d (Pl P)), some (.d (Pl Q)), none, none, none, none, none] μ =
      .ok (.nx [some (.d (Pl P)), some (.d (Pl Q)), none, none, none, some (.d (.int ((P.length - 1 : Nat) : Int))), some (.d (.int ((Q.length - 1 : Nat) : Int)))]) μ := by
    generalize ((P.length - 1 : Nat) : Int) = Z1 at *
    generalize ((Q.length - 1 : Nat) : Int) = Z2 at *
    simp [eP, eQ]
  have s2 : RF2 [some (.d (Pl P)), some (.d (Pl Q)), none, none, none, some (.d (.int ((P.length - 1 : Nat) : Int))), some (.d (.int ((Q.length - 1 : Nat) : Int)))] μ =
      .ok (.nx [some (.d (Pl P)), some (.d (Pl Q)), some (.d (.int ((mst P Q : Nat) : Int))), none, none, some (.d (.int ((P.length - 1 : Nat) : Int))), some (.d (.int ((Q.length - 1 : Nat) : Int)))]) μ := by
    rw [← em]
    unfold RF2
    generalize ((P.length - 1 : Nat) : Int) = Z1 at *
    generalize ((Q.length - 1 : Nat) : Int) = Z2 at *
    simp [wP, wQ, t1, t2]
  have main := for_run (it := iR1 (aCons (e2 gPlus (eVar 2) (eK (.int 1))) aNil)) (xs := intL 0 (mst P Q + 1) 1) (t := gNm 4) (b := RFb)
    (ρ := [some (.d (Pl P)), some (.d (Pl Q)), some (.d (.int ((mst P Q : Nat) : Int))), some (.r μ.length), none, some (.d (.int ((P.length - 1 : Nat) : Int))), some (.d (.int ((Q.length - 1 : Nat) : Int)))]) (μ := μ ++ [some []]) (μ1 := μ ++ [some []])
    (fun i ρ' μ' => i ≤ mst P Q + 1 ∧ μ' = μ ++ [some (Li ((List.range i).map fun k : Nat => resV P Q (k : Int)))] ∧ ∃ o, ρ' = [some (.d (Pl P)), some (.d (Pl Q)), some (.d (.int ((mst P Q : Nat) : Int))), some (.r μ.length), o, some (.d (.int ((P.length - 1 : Nat) : Int))), some (.d (.int ((Q.length - 1 : Nat) : Int)))])
    (by rw [it_r1 (j := ((mst P Q : Nat) : Int) + 1) (μ1 := μ ++ [some []]) (by simp) (by omega) (by omega), show (((mst P Q : Nat) : Int) + 1).toNat = mst P Q + 1 by omega]) ⟨Nat.zero_le _, rfl, none, rfl⟩ (fun i y ρ' μ' hy ⟨hi, d0, o, d1⟩ => ?_)
  · obtain ⟨ρ', μ', e, _, rfl, o, rfl⟩ := main
    rw [intL_len] at e
    have rt := t_row_through (μ := μ ++ [some (Li ((List.range (mst P Q + 1)).map fun k : Nat => resV P Q (k : Int)))]) (w := .r μ.length) (N := mst P Q) (vs := (List.range (mst P Q + 1)).map fun k : Nat => resV P Q (k : Int)) (D := D) (.inl (x_dr gl_last)) (by rw [List.length_map, List.length_range]) (by omega) (fun y hy => by
      obtain ⟨k, hk, rfl⟩ := List.mem_map.mp hy
      have hk := List.mem_range.mp hk
      exact (t_res_at (μ := μ) hP hQ hb lP lQ hPQ (x := (k : Int)) (by omega)).2) hD (fun k hk => by
      rw [List.getD_eq_getElem?_getD, List.getElem?_map, List.getElem?_range (by omega)]
      exact hv' (k : Int))
    refine ⟨?_, rt.2⟩
    unfold f_resultant_of
    have fin := run_rt (n := 7) (b := b_resultant_of) (ws := [.d (Pl P), .d (Pl Q)]) (μ := μ) (μ' := μ ++ [some (Li ((List.range (mst P Q + 1)).map fun k : Nat => resV P Q (k : Int)))]) (x := Rw' (trim D)) (by
      rw [RF_is]
      show sSeq _ _ [some (.d (Pl P)), some (.d (Pl Q)), none, none, none, none, none] μ = _
      have s3 : sAsg (eNew (lDisp aNil)) (gNm 3) [some (.d (Pl P)), some (.d (Pl Q)), some (.d (.int ((mst P Q : Nat) : Int))), none, none, some (.d (.int ((P.length - 1 : Nat) : Int))), some (.d (.int ((Q.length - 1 : Nat) : Int)))] μ = .ok (.nx [some (.d (Pl P)), some (.d (Pl Q)), some (.d (.int ((mst P Q : Nat) : Int))), some (.r μ.length), none, some (.d (.int ((P.length - 1 : Nat) : Int))), some (.d (.int ((Q.length - 1 : Nat) : Int)))]) (μ ++ [some []]) := by
        simp
      rw [seq_ok s1, seq_ok s2, seq_ok s3, seq_ok e]
      have rt1 := rt.1
      generalize μ ++ [some (Li ((List.range (mst P Q + 1)).map fun k : Nat => resV P Q (k : Int)))] = ν at *
      simp [rt1])
    rw [take_app] at fin
    exact fin
  · subst d0 d1
    have hk : i < mst P Q + 1 := by
      have := (List.getElem?_eq_some_iff.mp hy).1
      rwa [intL_len] at this
    rw [intL_at hk, Int.zero_add] at hy
    cases hy
    have v1 := t_values_at (μ := μ ++ [some (Li ((List.range i).map fun k : Nat => resV P Q (k : Int)))]) hP hb (x := (i : Int)) (by omega)
    have v2 := t_values_at (μ := μ ++ [some (Li ((List.range i).map fun k : Nat => resV P Q (k : Int)))]) hQ hb (x := (i : Int)) (by omega)
    have v3 := (t_res_at (μ := μ ++ [some (Li ((List.range i).map fun k : Nat => resV P Q (k : Int)))]) hP hQ hb lP lQ hPQ (x := (i : Int)) (by omega)).1
    refine ⟨_, _, [some (.d (Pl P)), some (.d (Pl Q)), some (.d (.int ((mst P Q : Nat) : Int))), some (.r μ.length), some (.d (.int (i : Int))), some (.d (.int ((P.length - 1 : Nat) : Int))), some (.d (.int ((Q.length - 1 : Nat) : Int)))], _, rfl, ?_, hk, rfl, _, rfl⟩
    rw [List.range_succ, List.map_append, List.map_singleton, Li_app, Li_one]
    have hl : (Li ((List.range i).map fun k : Nat => resV P Q (k : Int))).length < 16777216 := by
      rw [Li_len, List.length_map, List.length_range]
      omega
    generalize Li ((List.range i).map fun k : Nat => resV P Q (k : Int)) = L at *
    have lv : live (.r μ.length) (μ ++ [some L]) = true := live_r gl_last
    have ap := v_app (x := .int (resV P Q (i : Int))) (gl_last (μ := μ) (l := L)) hl
    unfold RFb
    generalize Rw' (trim (valL (i : Int) P)) = V1 at *
    generalize Rw' (trim (valL (i : Int) Q)) = V2 at *
    generalize ((P.length - 1 : Nat) : Int) = Z1 at *
    generalize ((Q.length - 1 : Nat) : Int) = Z2 at *
    simp [x_meth, lv, v1, v2, v3, ap]
end LW
namespace LW
open PySem PySem.Spec TL
open L2 (atI ixN)
theorem last_of {a : List Int} (h : trim a = a) (hne : a ≠ []) : ∃ z l, a = l ++ [z] ∧ z ≠ 0 := by
  rcases List.eq_nil_or_concat a with rfl | ⟨l, z, rfl⟩
  · exact absurd rfl hne
  · rw [List.concat_eq_append] at *
    refine ⟨z, l, rfl, fun hz => ?_⟩
    subst hz
    rw [trim_app0] at h
    have h1 := trim_len l
    rw [h] at h1
    simp at h1
    omega
theorem last_ofP {P : Pol} (h : trimP P = P) (hne : P ≠ []) : ∃ z l, P = l ++ [z] ∧ z ≠ [] := by
  rcases List.eq_nil_or_concat P with rfl | ⟨l, z, rfl⟩
  · exact absurd rfl hne
  · rw [List.concat_eq_append] at *
    refine ⟨z, l, rfl, fun hz => ?_⟩
    subst hz
    rw [trimP_app0] at h
    have h1 := trimP_len l
    rw [h] at h1
    simp at h1
    omega
theorem t_whole_i {i : Int} {μ : Mu} : f_is_whole [.d (.int i)] μ = .ok (.d (.bool true)) μ := by
  simp [f_is_whole, b_is_whole, runD, initR, kinds, subTy, tyName]
theorem t_rowed_r {a : List Int} {μ : Mu} (ht : trim a = a) (hl : a.length ≤ 1000) : f_is_rowed [.d (Rw' a)] μ = .ok (.d (.bool true)) μ := by
  have lc : lLc (iAny (eVar 0)) (gNm 1) bYes (cF 1 f_is_whole (aCons (eVar 1) aNil)) [1] [some (.d (Rw' a)), none] μ = .ok (a.map fun _ => .bool true) μ :=
    lc_of (f := PyData.int) rfl (by omega) fun x hx => by simp [t_whole_i]
  have ga : gAll [.d (.list (a.map fun _ => .bool true))] μ = .ok (.d (.bool true)) μ := by
    rw [v_allm (p := fun _ => true)]
    simp
  by_cases hne : a = []
  · subst hne
    have e0 : (Li ([] : List Int)).isEmpty = true := rfl
    simp at lc ga
    simp [f_is_rowed, b_is_rowed, runD, initR, kinds, subTy, tyName, lc, ga, e0]
  · obtain ⟨z, l, rfl, hz⟩ := last_of ht hne
    have e0 : Li (l ++ [z]) ≠ [] := by rw [Li_app]; simp
    have e1 : atI (Li (l ++ [z])) (-1) = some (.int z) := by
      rw [Li_app]
      exact L2.atI_last _ _
    simp [f_is_rowed, b_is_rowed, runD, initR, kinds, subTy, tyName, lc, ga, e0, e1, hz, -List.map_append]
theorem t_polyed_r {P : Pol} {μ : Mu} (ht : TP P) (hl : P.length ≤ 1000) (hr : PL 1000 P) : f_is_polyed [.d (Pl P)] μ = .ok (.d (.bool true)) μ := by
  have lc : lLc (iAny (eVar 0)) (gNm 1) bYes (cF 1 f_is_rowed (aCons (eVar 1) aNil)) [1] [some (.d (Pl P)), none] μ = .ok (P.map fun _ => .bool true) μ :=
    lc_of (f := Rw') rfl (by omega) fun x hx => by simp [t_rowed_r (ht.2 x hx) (hr x hx)]
  have ga : gAll [.d (.list (P.map fun _ => .bool true))] μ = .ok (.d (.bool true)) μ := by
    rw [v_allm (p := fun _ => true)]
    simp
  by_cases hne : P = []
  · subst hne
    have e0 : (Lp ([] : Pol)).isEmpty = true := rfl
    simp at lc ga
    simp [f_is_polyed, b_is_polyed, runD, initR, kinds, subTy, tyName, lc, ga, e0]
  · obtain ⟨z, l, rfl, hz⟩ := last_ofP ht.1 hne
    have e0 : Lp (l ++ [z]) ≠ [] := by unfold Lp; simp
    have e1 : atI (Lp (l ++ [z])) (-1) = some (Rw' z) := by
      have : Lp (l ++ [z]) = Lp l ++ [Rw' z] := List.map_append
      rw [this]
      exact L2.atI_last _ _
    have e2 : Li z ≠ [] := by
      unfold Li
      simpa using hz
    simp [f_is_polyed, b_is_polyed, runD, initR, kinds, subTy, tyName, lc, ga, e0, e1, e2, -List.map_append]
end LW
namespace LW
open PySem PySem.Spec TL
open L2 (atI ixN)
theorem t_check_poly {P : Pol} {μ : Mu} {n : Int} (ht : TP P) (hl : P.length ≤ 1000) (hr : PL 1000 P) (hn : n ≤ P.length) : f_check_poly [.d (Pl P), .d (.int n)] μ = .ok (.d .none) μ := by
  have : ¬ ((P.length : Int) < n) := by omega
  simp [f_check_poly, b_check_poly, runD, initR, t_polyed_r (μ := μ) ht hl hr, this]
end LW
namespace LW
open PySem PySem.Spec TL
open L2 (atI ixN)
theorem t_gap_by {μ : Mu} {a b : List Int} (ha : a.length ≤ 1000) (hb : b.length ≤ 1000) (sb : Sm b) : f_gap_by [.d (Rw' a), .d (Rw' b)] μ = .ok (.d (Rw' (trim (addP a (trim (b.map ((-1 : Int) * ·))))))) μ := by
  have s := t_scaled (μ := μ) (xs := b) (k := -1) hb (Sml.of (k := 1) (by decide) (by decide)) sb
  have hl := trim_len (b.map ((-1 : Int) * ·))
  rw [List.length_map] at hl
  have p := t_sum_by (μ := μ) (a := a) (b := trim (b.map ((-1 : Int) * ·))) ha (by omega)
  generalize trim (b.map ((-1 : Int) * ·)) = B at *
  simp [f_gap_by, b_gap_by, runD, initR, s, p]
theorem t_raised {μ : Mu} {g : Int} {n : Nat} (hn : n ≤ 1000) : f_raised [.d (Rw' [g]), .d (.int (n : Int))] μ = .ok (.d (Rw' (stp n g))) μ := by
  have r1 := t_rt (μ := μ) (n := n) hn
  have hp : gPlus (.d (.tuple (Li (List.replicate n 0)))) (.d (.tuple (Li [g]))) μ = .ok (.d (.tuple (Li (stp n g)))) μ := by
    rw [v_plusT, if_pos (by rw [Li_len, Li_len, List.length_replicate, List.length_singleton]; omega), ← Li_app]
    rfl
  have he : (Li [g]).isEmpty = false := rfl
  show f_raised [.d (.tuple (Li [g])), .d (.int (n : Int))] μ = .ok (.d (.tuple (Li (stp n g)))) μ
  generalize Li (List.replicate n 0) = R1 at *
  generalize Li (stp n g) = R2 at *
  generalize Li [g] = R3 at *
  simp [-v_plusT, f_raised, b_raised, runD, initR, r1, hp, he]
noncomputable def EXb : Sv := sSeq (sAsg (cF 2 f_raised (aCons (eTup (aCons (e2 gDiv (e2 gIx (eVar 3) (e1 gNeg (eK (.int 1)))) (e2 gIx (eVar 1) (e1 gNeg (eK (.int 1))))) aNil)) (aCons (e2 gSub (en gLen (aCons (eVar 3) aNil)) (en gLen (aCons (eVar 1) aNil))) aNil))) (gNm 4))
    (sPar 2 3 (aCons (cF 2 f_sum_by (aCons (eVar 2) (aCons (eVar 4) aNil))) (aCons (cF 2 f_gap_by (aCons (eVar 3) (aCons (cF 2 f_product_by (aCons (eVar 4) (aCons (eVar 1) aNil))) aNil))) aNil)))
theorem EX_is : b_exact_by = sSeq (sPar 2 3 (aCons (eTup aNil) (aCons (eVar 0) aNil))) (sSeq (sWhile (tB' (e2 (gEq true) (eVar 3) (eTup aNil))) EXb) (sRet (eVar 2))) := rfl
theorem last_neg {l : List Int} {z : Int} : atI (Li (l ++ [z])) (-1) = some (.int z) := by
  rw [Li_app, Li_one]
  exact L2.atI_last _ _
theorem exb_run {μ : Mu} {part q F G0 : List Int} {g x : Int} {l1 : List Int} {w0 : PyData} {o4 : Option Wv} {bq bp : Nat} (hp : part = l1 ++ [x]) (hx : x ≠ 0) (hg : g ≠ 0) (h : Exa part q F (G0 ++ [g])) (lq : q.length ≤ 200) (lp : part.length ≤ 200)
    (hbq : BM (2 ^ bq) q) (hbp : BM (2 ^ bp) part) (hb : bq + bp ≤ 7000) :
    EXb [some (.d w0), some (.d (Rw' part)), some (.d (Rw' F)), some (.d (Rw' (mulP part (G0 ++ [g])))), o4] μ = .ok (.nx [some (.d w0), some (.d (Rw' part)), some (.d (Rw' (trim (addP F (stp G0.length g))))), some (.d (Rw' (mulP part (trim G0)))), some (.d (Rw' (stp G0.length g)))]) μ := by
  obtain ⟨l, e, hl⟩ := mulP_top (l1 := l1) (l2 := G0) hx hg
  have gq : g.natAbs ≤ 2 ^ bq := hbq g (h.gb g (by simp))
  have px : x.natAbs ≤ 2 ^ bp := hbp x (by rw [hp]; simp)
  have lG := h.gl
  rw [List.length_append, List.length_singleton] at lG
  have lp1 : part.length = l1.length + 1 := by rw [hp, List.length_append, List.length_singleton]
  have r := rest_next (part := part) (G0 := G0) (g := g)
  have eR : mulP part (G0 ++ [g]) = l ++ [x * g] := by rw [hp]; exact e
  have dv := w_fdiv (μ := μ) (i := x * g) hx (Sml.of px (by omega))
  have ed : (x * g).fdiv x = g := Int.mul_fdiv_cancel_left _ hx
  rw [ed] at dv
  have rs1 := t_raised (μ := μ) (g := g) (n := G0.length) (by omega)
  have el : ((l ++ [x * g]).length : Int) - (part.length : Int) = (G0.length : Int) := by
    rw [List.length_append, List.length_singleton, hl, lp1]
    omega
  have ls : (stp G0.length g).length = G0.length + 1 := by simp [stp]
  have ss : BM (2 ^ bq) (stp G0.length g) := fun y hy => by
    unfold stp at hy
    rcases List.mem_append.mp hy with hy | hy
    · rw [List.eq_of_mem_replicate hy]
      exact Nat.zero_le _
    · cases List.mem_singleton.mp hy
      exact gq
  have pr := t_product_by (μ := μ) (a := stp G0.length g) (b := part) (ss.sm (k := bq) (Nat.le_refl _) (by omega)) (hbp.sm (k := bp) (Nat.le_refl _) (by omega)) (by omega) (by omega)
  have bpr := BM.mulP ss hbp
  have hle : (stp G0.length g).length * (part.length * (2 ^ bq * 2 ^ bp)) ≤ 2 ^ (16 + (bq + bp)) := by
    rw [Nat.pow_add 2 16, Nat.pow_add 2 bq, ← Nat.mul_assoc]
    refine Nat.mul_le_mul_right _ ?_
    have : (stp G0.length g).length * part.length ≤ 201 * 200 := Nat.mul_le_mul (by omega) lp
    omega
  have lpr := mulP_len (stp G0.length g) part
  have gp := t_gap_by (μ := μ) (a := l ++ [x * g]) (b := mulP (stp G0.length g) part) (by rw [List.length_append, List.length_singleton]; omega) (by omega) ((bpr.up hle).sm (k := 16 + (bq + bp)) (Nat.le_refl _) (by omega))
  rw [← eR, r] at gp
  have sm := t_sum_by (μ := μ) (a := F) (b := stp G0.length g) (by have := h.fl; omega) (by omega)
  have a1 : atI (Li (mulP part (G0 ++ [g]))) (-1) = some (.int (x * g)) := by rw [eR]; exact last_neg
  have a2 : atI (Li part) (-1) = some (.int x) := by rw [hp]; exact last_neg
  rw [← eR] at el
  unfold EXb
  rw [show Rw' [g] = PyData.tuple [.int g] from rfl] at rs1
  generalize mulP part (G0 ++ [g]) = R at *
  generalize mulP part (trim G0) = R' at *
  generalize trim (addP F (stp G0.length g)) = F' at *
  generalize mulP (stp G0.length g) part = Pr at *
  generalize stp G0.length g = St at *
  simp [a1, a2, dv, el, rs1, sm, pr, gp]
theorem t_exact_by {μ : Mu} {part q : List Int} {bq bp : Nat} (hpt : trim part = part) (hne : part ≠ []) (hqt : trim q = q) (lq : q.length ≤ 200) (lp : part.length ≤ 200) (hbq : BM (2 ^ bq) q) (hbp : BM (2 ^ bp) part) (hb : bq + bp ≤ 7000) :
    f_exact_by [.d (Rw' (mulP part q)), .d (Rw' part)] μ = .ok (.d (Rw' q)) μ := by
  obtain ⟨x, l1, hp, hx⟩ := last_of hpt hne
  have main := wh_run (c := tB' (e2 (gEq true) (eVar 3) (eTup aNil))) (b := EXb) (ρ := [some (.d (Rw' (mulP part q))), some (.d (Rw' part)), some (.d (Rw' [])), some (.d (Rw' (mulP part q))), none]) (μ := μ)
    (fun n ρ' μ' => μ' = μ ∧ ∃ F G o4, ρ' = [some (.d (Rw' (mulP part q))), some (.d (Rw' part)), some (.d (Rw' F)), some (.d (Rw' (mulP part G))), o4] ∧ Exa part q F G ∧ n = G.length)
    (fun ρ' μ' => μ' = μ ∧ ∃ o3 o4, ρ' = [some (.d (Rw' (mulP part q))), some (.d (Rw' part)), some (.d (Rw' q)), o3, o4]) q.length ⟨rfl, [], q, none, rfl, Exa.start hqt, rfl⟩ ?_
  · obtain ⟨ρ', μ', e, rfl, o3, o4, rfl⟩ := main
    unfold f_exact_by
    refine run_ret0 ?_
    rw [EX_is]
    have s1 : sPar 2 3 (aCons (eTup aNil) (aCons (eVar 0) aNil)) [some (.d (Rw' (mulP part q))), some (.d (Rw' part)), none, none, none] μ' = .ok (.nx [some (.d (Rw' (mulP part q))), some (.d (Rw' part)), some (.d (Rw' [])), some (.d (Rw' (mulP part q))), none]) μ' := by
      generalize Rw' (mulP part q) = R at *
      simp
      rfl
    show sSeq _ _ [some (.d (Rw' (mulP part q))), some (.d (Rw' part)), none, none, none] μ' = _
    rw [seq_ok s1, seq_ok e]
    simp
  · rintro n ρ' μ' ⟨rfl, F, G, o4, rfl, h, rfl⟩
    rcases List.eq_nil_or_concat G with e | ⟨G0, g, e⟩
    · subst e
      have z : mulP part [] = [] := row_ext (mulP_trim _ _) rfl (by rw [rs_mulP, rs_nil]; grind)
      refine ⟨false, μ', ?_, .inl ⟨rfl, rfl, some (.d (Rw' (mulP part []))), o4, ?_⟩⟩
      · rw [z]
        generalize Rw' (mulP part q) = R at *
        have : eqP (Rw' []) (.tuple []) = some true := rfl
        simp [this]
      · rw [h.done hqt]
    · rw [List.concat_eq_append] at e
      subst e
      have hg : g ≠ 0 := fun hz => by
        have t := h.gt
        rw [trim_snoc, if_pos hz] at t
        have := trim_len G0
        rw [t, List.length_append, List.length_singleton] at this
        omega
      obtain ⟨l, e, hl⟩ := mulP_top (l1 := l1) (l2 := G0) hx hg
      have eR : mulP part (G0 ++ [g]) = l ++ [x * g] := by rw [hp]; exact e
      refine ⟨true, μ', ?_, .inr ⟨rfl, _, μ', (trim G0).length, ?_, exb_run hp hx hg h lq lp hbq hbp hb, rfl, _, _, _, rfl, h.next, rfl⟩⟩
      · have em : (Li (mulP part (G0 ++ [g]))).isEmpty = false := by
          rw [eR, Li_empty]
          cases l <;> rfl
        have ne : ¬ Li (mulP part (G0 ++ [g])) = [] := fun z => by
          rw [z] at em
          cases em
        generalize Rw' (mulP part q) = R at *
        simp [ne]
      · have := trim_len G0
        rw [List.length_append, List.length_singleton]
        omega
end LW
namespace LW
open PySem PySem.Spec TL
open L2 (atI ixN)
theorem t_row_sum {μ : Mu} {a b : List Int} (ha : a.length ≤ 1000) (hb : b.length ≤ 1000) : f_law_row_sum [.d (Rw' a), .d (Rw' b)] μ = .ok (.d (Rw' (trim (addP a b)))) μ := by
  obtain ⟨n, hn, h1, h2, h3⟩ : ∃ n : Nat, max a.length b.length = n ∧ a.length ≤ n ∧ b.length ≤ n ∧ n ≤ 1000 := ⟨_, rfl, by omega, by omega, by omega⟩
  have em := max_two (μ := μ) (a := a.length) (b := b.length)
  rw [hn] at em
  have ea1 := t_pad1 (μ := μ) h1 h3
  have eb1 := t_pad1 (μ := μ) h2 h3
  have ea2 := t_pad2 (μ := μ) h1 h3
  have eb2 := t_pad2 (μ := μ) h2 h3
  have lc : lLc (iR1 (aCons (eVar 2) aNil)) (gNm 5) bYes (e2 gPlus (e2 gIx (eVar 3) (eVar 5)) (e2 gIx (eVar 4) (eVar 5))) [5] [some (.d (Rw' a)), some (.d (Rw' b)), some (.d (.int (n : Int))), some (.d (Rw' (pad n a))), some (.d (Rw' (pad n b))), none] μ = .ok (Li (addP a b)) μ := by
    refine lcT_eq (xs := intL 0 n 1) (it_r1 (j := (n : Int)) rfl (by omega) (by omega)) (by rw [intL_len]; omega) (by rw [Li_len, intL_len, addP_len]; exact hn) fun k x z hx hz => ?_
    have hk : k < n := by
      have := (List.getElem?_eq_some_iff.mp hx).1
      rwa [intL_len] at this
    rw [intL_at hk] at hx
    rw [Li_get, addP_get a b k (by omega)] at hz
    cases hx
    cases hz
    have i1 : atI (Li (pad n a)) ((0 : Int) + (k : Int)) = some (.int (a.getD k 0)) := by
      rw [Int.zero_add]
      exact at_n (by rw [Li_get, pad_get h1 hk]; rfl)
    have i2 : atI (Li (pad n b)) ((0 : Int) + (k : Int)) = some (.int (b.getD k 0)) := by
      rw [Int.zero_add]
      exact at_n (by rw [Li_get, pad_get h2 hk]; rfl)
    refine ⟨_, rfl, ?_⟩
    show e2 gPlus (e2 gIx (eVar 3) (eVar 5)) (e2 gIx (eVar 4) (eVar 5)) [some (.d (Rw' a)), some (.d (Rw' b)), some (.d (.int (n : Int))), some (.d (Rw' (pad n a))), some (.d (Rw' (pad n b))), some (.d (.int ((0 : Int) + (k : Int))))] μ = _
    simp only [x_e2, x_v0, x_vs, Out.bind_ok, v_ixt, i1, i2, x_calm, v_plus]
  have tr : f_law_trim [.d (.list (Li (addP a b)))] μ = .ok (.d (Rw' (trim (addP a b)))) μ := t_law_trim (.inl rfl)
  simp [-v_plusT, f_law_row_sum, b_law_row_sum, runD, initR, em, ea1, ea2, eb1, eb2, lc, tr]
end LW
namespace LW
open PySem PySem.Spec TL
open L2 (atI ixN)
theorem inner_snoc {i : Nat} {x : Int} : ∀ (ys : List Int) (j : Nat) (c : List Int) (y : Int), inner i x j (ys ++ [y]) c = addAt (inner i x j ys c) (i + j + ys.length) (x * y)
  | [], j, c, y => rfl
  | z :: ys, j, c, y => by
    show inner i x (j + 1) (ys ++ [y]) (addAt c (i + j) (x * z)) = _
    rw [inner_snoc ys (j + 1)]
    show addAt _ _ _ = addAt (inner i x (j + 1) ys (addAt c (i + j) (x * z))) _ _
    congr 1
    rw [List.length_cons]
    omega
theorem outer_snoc {b : List Int} : ∀ (xs : List Int) (i : Nat) (c : List Int) (x : Int), outer b i (xs ++ [x]) c = inner (i + xs.length) x 0 b (outer b i xs c)
  | [], i, c, x => rfl
  | z :: xs, i, c, x => by
    show outer b (i + 1) (xs ++ [x]) (inner i z 0 b c) = _
    rw [outer_snoc xs (i + 1)]
    show inner _ _ _ _ (outer b (i + 1) xs (inner i z 0 b c)) = inner _ _ _ _ (outer b (i + 1) xs (inner i z 0 b c))
    rw [List.length_cons, show i + 1 + xs.length = i + (xs.length + 1) by omega]
noncomputable abbrev RTB : Sv := sAsg (e2 gPlus (e2 gIx (eVar 2) (e2 gPlus (eVar 3) (eVar 4))) (e2 gTimes (e2 gIx (eVar 0) (eVar 3)) (e2 gIx (eVar 1) (eVar 4)))) (gSb (eVar 2) (e2 gPlus (eVar 3) (eVar 4)))
theorem t_rtb {μ : Mu} {k i j : Nat} {a b c : List Int} (h : μ[k]? = some (some (Li c))) (hi : i < a.length) (hj : j < b.length) (hl : i + j < c.length) (ha : Sm a) (hb : Sm b) :
    RTB [some (.d (Rw' a)), some (.d (Rw' b)), some (.r k), some (.d (.int ((0 : Int) + (i : Int)))), some (.d (.int ((0 : Int) + (j : Int))))] μ =
      .ok (.nx [some (.d (Rw' a)), some (.d (Rw' b)), some (.r k), some (.d (.int ((0 : Int) + (i : Int)))), some (.d (.int ((0 : Int) + (j : Int))))]) (μ.set k (some (Li (addAt c (i + j) (a[i] * b[j]))))) := by
  have ei : (((0 : Int) + (i : Int)) + ((0 : Int) + (j : Int))) = ((i + j : Nat) : Int) := by omega
  have z1 : ((0 : Int) + (i : Int)) = (i : Int) := by omega
  have z2 : ((0 : Int) + (j : Int)) = (j : Int) := by omega
  have e1 := cell_ix h hl
  have e2 := w_times (μ := μ) (ha _ (List.getElem_mem hi)) (hb _ (List.getElem_mem hj))
  have e3 := cell_set (v := c.getD (i + j) 0 + a[i] * b[j]) h hl
  have l1 := Li_at hi
  have l2 := Li_at hj
  rw [← z1] at l1
  rw [← z2] at l2
  simp only [RTB, x_asg, x_e2, x_v0, x_vs, Out.bind_ok, v_plus, x_calm, ei, e1, v_ixt, l1, l2, e2, liftO_ok, x_sb, e3]
  rfl
theorem t_rt_inner {μ : Mu} {k i : Nat} {a b c : List Int} {o : Option Wv} (h : μ[k]? = some (some (Li c))) (hi : i < a.length) (hl : i + b.length ≤ c.length) (ha : Sm a) (hb : Sm b) (lb : b.length ≤ 1000) :
    ∃ o', sFor (iR1 (aCons (en gLen (aCons (eVar 1) aNil)) aNil)) (gNm 4) RTB [some (.d (Rw' a)), some (.d (Rw' b)), some (.r k), some (.d (.int ((0 : Int) + (i : Int)))), o] μ =
      .ok (.nx [some (.d (Rw' a)), some (.d (Rw' b)), some (.r k), some (.d (.int ((0 : Int) + (i : Int)))), o']) (μ.set k (some (Li (inner i a[i] 0 b c)))) := by
  have main := for_run (it := iR1 (aCons (en gLen (aCons (eVar 1) aNil)) aNil)) (xs := intL 0 b.length 1) (t := gNm 4) (b := RTB) (ρ := [some (.d (Rw' a)), some (.d (Rw' b)), some (.r k), some (.d (.int ((0 : Int) + (i : Int)))), o]) (μ := μ) (μ1 := μ)
    (fun n ρ' μ' => n ≤ b.length ∧ μ' = μ.set k (some (Li (inner i a[i] 0 (b.take n) c))) ∧ ∃ o, ρ' = [some (.d (Rw' a)), some (.d (Rw' b)), some (.r k), some (.d (.int ((0 : Int) + (i : Int)))), o])
    (it_r1 (j := (b.length : Int)) (by simp) (by omega) (by omega)) ⟨Nat.zero_le _, by rw [List.take_zero]; exact (set_same h).symm, o, rfl⟩ (fun n x ρ' μ' hx ⟨hn, e0, o, e1⟩ => ?_)
  · subst e0 e1
    have hk : n < b.length := by
      have := (List.getElem?_eq_some_iff.mp hx).1
      rwa [intL_len] at this
    rw [intL_at hk] at hx
    cases hx
    have st := t_rtb (i := i) (j := n) (a := a) (b := b) (get_set (c' := some (Li (inner i a[i] 0 (b.take n) c))) h) hi hk (by rw [inner_len]; omega) ha hb
    rw [List.set_set] at st
    refine ⟨_, _, _, _, rfl, st, hk, ?_, _, rfl⟩
    rw [take_succ0 hk, inner_snoc, List.length_take, Nat.min_eq_left (by omega), Nat.add_zero]
  · obtain ⟨ρ', μ', e, _, rfl, o', rfl⟩ := main
    rw [intL_len, List.take_length] at e
    exact ⟨o', e⟩
theorem t_row_times {μ : Mu} {a b : List Int} (ha : Sm a) (hb : Sm b) (la : a.length ≤ 500) (lb : b.length ≤ 500) : f_law_row_times [.d (Rw' a), .d (Rw' b)] μ = .ok (.d (Rw' (mulP a b))) μ := by
  have r1 : lRep (eFrz (lDisp (aCons (eK (.int 0)) aNil))) (e2 gPlus (en gLen (aCons (eVar 0) aNil)) (en gLen (aCons (eVar 1) aNil))) [some (.d (Rw' a)), some (.d (Rw' b)), none, none, none] μ = .ok (Li (List.replicate (a.length + b.length) 0)) μ := by
    rw [← Li_rep]
    exact t_rep (n := a.length + b.length) (by simp) (by simp) (by omega)
  have main := for_run (it := iR1 (aCons (en gLen (aCons (eVar 0) aNil)) aNil)) (xs := intL 0 a.length 1) (t := gNm 3) (b := sFor (iR1 (aCons (en gLen (aCons (eVar 1) aNil)) aNil)) (gNm 4) RTB) (ρ := [some (.d (Rw' a)), some (.d (Rw' b)), some (.r μ.length), none, none]) (μ := μ ++ [some (Li (List.replicate (a.length + b.length) 0))]) (μ1 := μ ++ [some (Li (List.replicate (a.length + b.length) 0))])
    (fun n ρ' μ' => n ≤ a.length ∧ μ' = μ ++ [some (Li (outer b 0 (a.take n) (List.replicate (a.length + b.length) 0)))] ∧ ∃ o1 o2, ρ' = [some (.d (Rw' a)), some (.d (Rw' b)), some (.r μ.length), o1, o2])
    (it_r1 (j := (a.length : Int)) (by simp) (by omega) (by omega)) ⟨Nat.zero_le _, rfl, none, none, rfl⟩ (fun n x ρ' μ' hx ⟨hn, e0, o1, o2, e1⟩ => ?_)
  · obtain ⟨ρ', μ', e, _, rfl, o1, o2, rfl⟩ := main
    rw [intL_len, List.take_length] at e
    have tr : f_law_trim [.r μ.length] (μ ++ [some (Li (outer b 0 a (List.replicate (a.length + b.length) 0)))]) = .ok (.d (Rw' (mulP a b))) (μ ++ [some (Li (outer b 0 a (List.replicate (a.length + b.length) 0)))]) := by
      rw [← mulP_more (a := a) (b := b) (N := a.length + b.length) (.inr (by omega))]
      exact t_law_trim (.inl (x_dr (by simp)))
    simp [f_law_row_times, b_law_row_times, runD, initR, r1]
    rw [e]
    simp [tr]
  · subst e0 e1
    have hk : n < a.length := by
      have := (List.getElem?_eq_some_iff.mp hx).1
      rwa [intL_len] at this
    rw [intL_at hk] at hx
    cases hx
    obtain ⟨o', e2⟩ := t_rt_inner (c := outer b 0 (a.take n) (List.replicate (a.length + b.length) 0)) (μ := μ ++ [some (Li (outer b 0 (a.take n) (List.replicate (a.length + b.length) 0)))]) (k := μ.length) (i := n) (a := a) (b := b) (o := o2) (by simp) hk (by rw [outer_len, List.length_replicate]; omega) ha hb (by omega)
    refine ⟨_, _, _, _, rfl, e2, hk, ?_, _, _, rfl⟩
    rw [take_succ0 hk, outer_snoc, List.length_take, Nat.min_eq_left (by omega), Nat.zero_add]
    rw [List.set_append_right _ _ (Nat.le_refl _), Nat.sub_self]
    rfl
end LW
namespace LW
open PySem PySem.Spec TL
open L2 (atI ixN)
theorem innerP_snoc {i : Nat} {x : List Int} : ∀ (ys : Pol) (j : Nat) (c : Pol) (y : List Int), innerP i x j (ys ++ [y]) c = addAtP (innerP i x j ys c) (i + j + ys.length) (mulP x y)
  | [], j, c, y => rfl
  | z :: ys, j, c, y => by
    show innerP i x (j + 1) (ys ++ [y]) (addAtP c (i + j) (mulP x z)) = _
    rw [innerP_snoc ys (j + 1)]
    show addAtP _ _ _ = addAtP (innerP i x (j + 1) ys (addAtP c (i + j) (mulP x z))) _ _
    congr 1
    rw [List.length_cons]
    omega
theorem outerP_snoc {b : Pol} : ∀ (xs : Pol) (i : Nat) (c : Pol) (x : List Int), outerP b i (xs ++ [x]) c = innerP (i + xs.length) x 0 b (outerP b i xs c)
  | [], i, c, x => rfl
  | z :: xs, i, c, x => by
    show outerP b (i + 1) (xs ++ [x]) (innerP i z 0 b c) = _
    rw [outerP_snoc xs (i + 1)]
    show innerP _ _ _ _ (outerP b (i + 1) xs (innerP i z 0 b c)) = innerP _ _ _ _ (outerP b (i + 1) xs (innerP i z 0 b c))
    rw [List.length_cons, show i + 1 + xs.length = i + (xs.length + 1) by omega]
theorem Lp_at {P : Pol} {n : Nat} (h : n < P.length) : atI (Lp P) (n : Int) = some (Rw' P[n]) := at_n (by rw [Lp_get, List.getElem?_eq_getElem h]; rfl)
theorem cell_ixP {μ : Mu} {k : Nat} {c : Pol} {n : Nat} (h : μ[k]? = some (some (Lp c))) (hn : n < c.length) : gIx (.r k) (.d (.int (n : Int))) μ = .ok (.d (Rw' (c.getD n []))) μ := by
  rw [v_ixr h, Lp_at hn, List.getD_eq_getElem?_getD, List.getElem?_eq_getElem hn] <;> rfl
theorem cell_setP {μ : Mu} {k : Nat} {c : Pol} {n : Nat} {v : List Int} (h : μ[k]? = some (some (Lp c))) (hn : n < c.length) : setC (.r k) (.d (.int (n : Int))) (.d (Rw' v)) μ = .ok () (μ.set k (some (Lp (c.set n v)))) := by
  have e : ixN (Lp c).length (n : Int) = some n := by
    unfold ixN
    rw [if_pos (by omega), if_pos (by rw [Lp_len]; omega)]
    rfl
  rw [v_setc h, e]
  show Out.ok () (μ.set k (some ((Lp c).set n (Rw' v)))) = _
  unfold Lp
  rw [List.map_set]
def SmP (P : Pol) : Prop := ∀ r ∈ P, Sm r
theorem PB.sm {P : Pol} {M k : Nat} (h : PB M P) (hM : M ≤ 2 ^ k) (hk : k ≤ 7900) : SmP P := fun r hr => (h r hr).sm hM hk
noncomputable abbrev PTB : Sv := sAsg (cF 2 f_law_row_sum (aCons (e2 gIx (eVar 2) (e2 gPlus (eVar 3) (eVar 4))) (aCons (cF 2 f_law_row_times (aCons (e2 gIx (eVar 0) (eVar 3)) (aCons (e2 gIx (eVar 1) (eVar 4)) aNil))) aNil))) (gSb (eVar 2) (e2 gPlus (eVar 3) (eVar 4)))
theorem t_ptb {μ : Mu} {k i j : Nat} {a b c : Pol} (h : μ[k]? = some (some (Lp c))) (hi : i < a.length) (hj : j < b.length) (hl : i + j < c.length) (ha : SmP a) (hb : SmP b) (la : PL 400 a) (lb : PL 400 b) (lc : PL 1000 c) :
    PTB [some (.d (Pl a)), some (.d (Pl b)), some (.r k), some (.d (.int ((0 : Int) + (i : Int)))), some (.d (.int ((0 : Int) + (j : Int))))] μ =
      .ok (.nx [some (.d (Pl a)), some (.d (Pl b)), some (.r k), some (.d (.int ((0 : Int) + (i : Int)))), some (.d (.int ((0 : Int) + (j : Int))))]) (μ.set k (some (Lp (addAtP c (i + j) (mulP a[i] b[j]))))) := by
  have ei : (((0 : Int) + (i : Int)) + ((0 : Int) + (j : Int))) = ((i + j : Nat) : Int) := by omega
  have z1 : ((0 : Int) + (i : Int)) = (i : Int) := by omega
  have z2 : ((0 : Int) + (j : Int)) = (j : Int) := by omega
  have e1 := cell_ixP h hl
  have mi := List.getElem_mem hi
  have mj := List.getElem_mem hj
  have li := la _ mi
  have lj := lb _ mj
  have e2 := t_row_times (μ := μ) (ha _ mi) (hb _ mj) (by omega) (by omega)
  have lm := mulP_len a[i] b[j]
  have e4 := t_row_sum (μ := μ) (a := c.getD (i + j) []) (b := mulP a[i] b[j]) (lc.getD _) (by omega)
  have e3 := cell_setP (v := trim (addP (c.getD (i + j) []) (mulP a[i] b[j]))) h hl
  have l1 := Lp_at hi
  have l2 := Lp_at hj
  rw [← z1] at l1
  rw [← z2] at l2
  simp only [PTB, x_asg, x_cF, x_cons, x_nil, x_e2, x_v0, x_vs, Out.bind_ok, v_plus, x_calm, ei, e1, v_ixt, l1, l2, List.length_cons, List.length_nil, Nat.reduceAdd, if_true, e2, e4, liftO_ok, x_sb, e3]
  rfl
theorem t_pt_inner {μ : Mu} {k i : Nat} {a b c : Pol} {o : Option Wv} (h : μ[k]? = some (some (Lp c))) (hi : i < a.length) (hl : i + b.length ≤ c.length) (ha : SmP a) (hb : SmP b) (la : PL 400 a) (lb : PL 400 b) (lc : PL 900 c) (lb2 : b.length ≤ 1000) :
    ∃ o', sFor (iR1 (aCons (en gLen (aCons (eVar 1) aNil)) aNil)) (gNm 4) PTB [some (.d (Pl a)), some (.d (Pl b)), some (.r k), some (.d (.int ((0 : Int) + (i : Int)))), o] μ =
      .ok (.nx [some (.d (Pl a)), some (.d (Pl b)), some (.r k), some (.d (.int ((0 : Int) + (i : Int)))), o']) (μ.set k (some (Lp (innerP i a[i] 0 b c)))) := by
  have main := for_run (it := iR1 (aCons (en gLen (aCons (eVar 1) aNil)) aNil)) (xs := intL 0 b.length 1) (t := gNm 4) (b := PTB) (ρ := [some (.d (Pl a)), some (.d (Pl b)), some (.r k), some (.d (.int ((0 : Int) + (i : Int)))), o]) (μ := μ) (μ1 := μ)
    (fun n ρ' μ' => n ≤ b.length ∧ μ' = μ.set k (some (Lp (innerP i a[i] 0 (b.take n) c))) ∧ ∃ o, ρ' = [some (.d (Pl a)), some (.d (Pl b)), some (.r k), some (.d (.int ((0 : Int) + (i : Int)))), o])
    (it_r1 (j := (b.length : Int)) (by simp) (by omega) (by omega)) ⟨Nat.zero_le _, by rw [List.take_zero]; exact (set_same h).symm, o, rfl⟩ (fun n x ρ' μ' hx ⟨hn, e0, o, e1⟩ => ?_)
  · subst e0 e1
    have hk : n < b.length := by
      have := (List.getElem?_eq_some_iff.mp hx).1
      rwa [intL_len] at this
    rw [intL_at hk] at hx
    cases hx
    have lin : PL 1000 (innerP i a[i] 0 (b.take n) c) := (PL.innerP (n := 400) (la _ (List.getElem_mem hi)) (by omega) (fun r hr => lb r (List.mem_of_mem_take hr)) lc).up (by omega)
    have st := t_ptb (i := i) (j := n) (a := a) (b := b) (get_set (c' := some (Lp (innerP i a[i] 0 (b.take n) c))) h) hi hk (by rw [innerP_len]; omega) ha hb la lb lin
    rw [List.set_set] at st
    refine ⟨_, _, _, _, rfl, st, hk, ?_, _, rfl⟩
    rw [take_succ0 hk, innerP_snoc, List.length_take, Nat.min_eq_left (by omega), Nat.add_zero]
  · obtain ⟨ρ', μ', e, _, rfl, o', rfl⟩ := main
    rw [intL_len, List.take_length] at e
    exact ⟨o', e⟩
theorem t_law_poly_times {μ : Mu} {a b : Pol} (ha : SmP a) (hb : SmP b) (la : a.length ≤ 500) (lb : b.length ≤ 500) (pa : PL 400 a) (pb : PL 400 b) : f_law_poly_times [.d (Pl a), .d (Pl b)] μ = .ok (.d (Pl (mulPP a b))) μ := by
  have r1 : lRep (eFrz (lDisp (aCons (eTup aNil) aNil))) (e2 gPlus (en gLen (aCons (eVar 0) aNil)) (en gLen (aCons (eVar 1) aNil))) [some (.d (Pl a)), some (.d (Pl b)), none, none, none] μ = .ok (Lp (List.replicate (a.length + b.length) [])) μ := by
    have : Lp (List.replicate (a.length + b.length) []) = List.replicate (a.length + b.length) (.tuple []) := by unfold Lp; rw [List.map_replicate]; rfl
    rw [this]
    exact t_rep (n := a.length + b.length) (by simp) (by simp) (by omega)
  have main := for_run (it := iR1 (aCons (en gLen (aCons (eVar 0) aNil)) aNil)) (xs := intL 0 a.length 1) (t := gNm 3) (b := sFor (iR1 (aCons (en gLen (aCons (eVar 1) aNil)) aNil)) (gNm 4) PTB) (ρ := [some (.d (Pl a)), some (.d (Pl b)), some (.r μ.length), none, none]) (μ := μ ++ [some (Lp (List.replicate (a.length + b.length) []))]) (μ1 := μ ++ [some (Lp (List.replicate (a.length + b.length) []))])
    (fun n ρ' μ' => n ≤ a.length ∧ μ' = μ ++ [some (Lp (outerP b 0 (a.take n) (List.replicate (a.length + b.length) [])))] ∧ ∃ o1 o2, ρ' = [some (.d (Pl a)), some (.d (Pl b)), some (.r μ.length), o1, o2])
    (it_r1 (j := (a.length : Int)) (by simp) (by omega) (by omega)) ⟨Nat.zero_le _, rfl, none, none, rfl⟩ (fun n x ρ' μ' hx ⟨hn, e0, o1, o2, e1⟩ => ?_)
  · obtain ⟨ρ', μ', e, _, rfl, o1, o2, rfl⟩ := main
    rw [intL_len, List.take_length] at e
    have tr : f_law_trim [.r μ.length] (μ ++ [some (Lp (outerP b 0 a (List.replicate (a.length + b.length) [])))]) = .ok (.d (Pl (mulPP a b))) (μ ++ [some (Lp (outerP b 0 a (List.replicate (a.length + b.length) [])))]) :=
      t_law_trimP (.inl (x_dr (by simp)))
    simp [f_law_poly_times, b_law_poly_times, runD, initR, r1]
    rw [e]
    simp [tr]
  · subst e0 e1
    have hk : n < a.length := by
      have := (List.getElem?_eq_some_iff.mp hx).1
      rwa [intL_len] at this
    rw [intL_at hk] at hx
    cases hx
    have lz : PL 900 (List.replicate (a.length + b.length) []) := fun r hr => by rw [List.eq_of_mem_replicate hr]; simp
    have lo : PL 900 (outerP b 0 (a.take n) (List.replicate (a.length + b.length) [])) := PL.outerP (n := 400) pb (by omega) (fun r hr => pa r (List.mem_of_mem_take hr)) lz
    obtain ⟨o', e2⟩ := t_pt_inner (c := outerP b 0 (a.take n) (List.replicate (a.length + b.length) [])) (μ := μ ++ [some (Lp (outerP b 0 (a.take n) (List.replicate (a.length + b.length) [])))]) (k := μ.length) (i := n) (a := a) (b := b) (o := o2) (by simp) hk (by rw [outerP_len, List.length_replicate]; omega) ha hb pa pb lo (by omega)
    refine ⟨_, _, _, _, rfl, e2, hk, ?_, _, _, rfl⟩
    rw [take_succ0 hk, outerP_snoc, List.length_take, Nat.min_eq_left (by omega), Nat.zero_add]
    rw [List.set_append_right _ _ (Nat.le_refl _), Nat.sub_self]
    rfl
end LW
namespace LW
open PySem PySem.Spec TL
open L2 (atI ixN)
def enumFP : Nat → Pol → Cell
  | _, [] => []
  | i, x :: xs => .tuple [.int (i : Int), Rw' x] :: enumFP (i + 1) xs
theorem enumFP_eq : ∀ (xs : Pol) (i : Nat), (Lp xs).mapIdx (fun n x => PyData.tuple [.int ((n + i : Nat) : Int), x]) = enumFP i xs
  | [], i => rfl
  | x :: xs, i => by
    show List.mapIdx _ (Rw' x :: Lp xs) = _
    rw [List.mapIdx_cons]
    have := enumFP_eq xs (i + 1)
    simp only [enumFP, Nat.zero_add]
    rw [← this]
    congr 2
    funext n y
    rw [show n + 1 + i = n + (i + 1) by omega]
theorem enumLP_eq (xs : Pol) : enumL (Lp xs) = enumFP 0 xs := enumFP_eq xs 0
theorem enumFP_len : ∀ (xs : Pol) (i : Nat), (enumFP i xs).length = xs.length
  | [], i => rfl
  | x :: xs, i => by simp [enumFP, enumFP_len xs (i + 1)]
theorem enumFP_get : ∀ (xs : Pol) (i k : Nat), (enumFP i xs)[k]? = xs[k]?.map fun r => .tuple [.int ((i + k : Nat) : Int), Rw' r]
  | [], i, k => by simp [enumFP]
  | x :: xs, i, 0 => by simp [enumFP]
  | x :: xs, i, k + 1 => by
    have := enumFP_get xs (i + 1) k
    simp only [enumFP, List.getElem?_cons_succ]
    rw [this, show i + 1 + k = i + (k + 1) by omega]
end LW
namespace LW
open PySem PySem.Spec TL
open L2 (atI ixN)
theorem t_cut {μ : Mu} {w : Wv} {P : Pol} (h : SqD μ w (Lp P)) : f_cut [w] μ = .ok (.d (Pl (trimP P))) μ := by
  have main : ∃ ρ' μ', sWhile (bAnd (tB' (e2 (gCmp fun i j => decide (j < i)) (eVar 1) (eK (.int 0)))) (tB' (e2 (gEq false) (e2 gIx (eVar 0) (e2 gSub (eVar 1) (eK (.int 1)))) (eTup aNil)))) (sAsg (e2 gSub (eVar 1) (eK (.int 1))) (gNm 1)) [some w, some (.d (.int P.length))] μ = .ok (.nx ρ') μ' ∧
      μ' = μ ∧ ∃ n : Nat, ρ' = [some w, some (.d (.int n))] ∧ n ≤ P.length ∧ P.take n = trimP P := by
    refine wh_run (fun n ρ' μ' => μ' = μ ∧ ρ' = [some w, some (.d (.int n))] ∧ n ≤ P.length ∧ trimP (P.take n) = trimP P) _ P.length ⟨rfl, rfl, Nat.le_refl _, by rw [List.take_length]⟩ ?_
    rintro n ρ' μ' ⟨rfl, rfl, hn, ht⟩
    cases n with
    | zero => exact ⟨false, μ', by simp, .inl ⟨rfl, rfl, 0, rfl, hn, by rw [← ht]; rfl⟩⟩
    | succ n =>
      have ei : ((n + 1 : Nat) : Int) - 1 = (n : Int) := by omega
      have e1 := sqd_ix h (n := n) (x := Rw' P[n]) (by rw [Lp_get, List.getElem?_eq_getElem (show n < P.length by omega)]; rfl)
      have hp : (0 : Int) < ((n + 1 : Nat) : Int) := by omega
      by_cases hz : P[n] = []
      · have hzz : (Li P[n]).isEmpty = true := by rw [Li_empty, hz]; rfl
        refine ⟨true, μ', ?_, .inr ⟨rfl, [some w, some (.d (.int n))], μ', n, by omega, ?_, rfl, rfl, by omega, ?_⟩⟩
        · simp only [x_band, x_tB, x_e2, x_v0, x_vs, x_k, Out.bind_ok, v_cmp, x_calm, x_wB, decide_eq_true hp, if_true, v_sub, ei, e1, v_eqd, eq_tt, x_tup, x_disp, x_nil, x_all0, hzz]
          simp [hzz]
        · simp only [x_asg, x_e2, x_v0, x_vs, x_k, Out.bind_ok, v_sub, x_calm, liftO_ok, x_nm, ei]
          rfl
        · rw [← ht, trimP_take (by omega) hz]
      · have hzz : (Li P[n]).isEmpty = false := by
          rw [Li_empty]
          cases hP : P[n] with
          | nil => exact absurd hP hz
          | cons x xs => rfl
        refine ⟨false, μ', ?_, .inl ⟨rfl, rfl, n + 1, rfl, hn, ?_⟩⟩
        · simp only [x_band, x_tB, x_e2, x_v0, x_vs, x_k, Out.bind_ok, v_cmp, x_calm, x_wB, decide_eq_true hp, if_true, v_sub, ei, e1, v_eqd, eq_tt, x_tup, x_disp, x_nil, x_all0, hzz]
          simp [hzz]
        · rw [← ht, trimP_take' (by omega) hz]
  obtain ⟨ρ', μ', e, rfl, n, rfl, hn, ht⟩ := main
  obtain ⟨u, e2, e3⟩ := sqd_take h (n := n) (by rw [Lp_len]; exact hn)
  have e4 : (Lp P).take n = Lp (trimP P) := by rw [← ht]; exact (List.map_take).symm
  rw [e4] at e3
  have el := sqd_len h
  rw [Lp_len] at el
  simp [f_cut, b_cut, runD, initR, el]
  rw [e]
  simp [e2, e3]
end LW
namespace LW
open PySem PySem.Spec TL
open L2 (atI ixN)
theorem sml_nat {n : Nat} (h : n ≤ 1000000) : Sml (n : Int) := .of (k := 20) (by rw [Int.natAbs_natCast]; exact Nat.le_trans h (by decide)) (by decide)
theorem t_derived_by {μ : Mu} {P : Pol} (hP : P.length ≤ 1000) (sP : SmP P) (nP : PL 1000 P) : f_derived_by [.d (Pl P)] μ = .ok (.d (Pl (led P))) μ := by
  have lc : lLc (iEnumT (aCons (eVar 0) aNil)) (gTp [gNm 1, gNm 2]) bYes (cF 2 f_scaled (aCons (eVar 2) (aCons (eVar 1) aNil))) [1, 2] [some (.d (Pl P)), none, none] μ = .ok (Lp (ledF 0 P)) μ := by
    refine lcT_eq (xs := enumFP 0 P) (by rw [← enumLP_eq]; rfl) (by rw [enumFP_len]; omega) (by rw [enumFP_len, Lp_len, ledF_len]) fun k x z hx hz => ?_
    have hk : k < P.length := by
      have := (List.getElem?_eq_some_iff.mp hx).1
      rwa [enumFP_len] at this
    rw [enumFP_get, List.getElem?_eq_getElem hk] at hx
    rw [Lp_get, ledF_get, List.getElem?_eq_getElem hk] at hz
    cases hx
    cases hz
    have m := List.getElem_mem hk
    have s := t_scaled (μ := μ) (xs := P[k]) (k := ((0 + k : Nat) : Int)) (nP _ m) (sml_nat (by omega)) (sP _ m)
    refine ⟨_, rfl, ?_⟩
    show cF 2 f_scaled _ [some (.d (Pl P)), some (.d (.int ((0 + k : Nat) : Int))), some (.d (Rw' P[k]))] μ = _
    simp only [x_cF, x_cons, x_v0, x_vs, Out.bind_ok, x_nil, List.length_cons, List.length_nil, Nat.reduceAdd, if_true, s]
  have cu : cutL (Lp (ledF 0 P)) (some 1) none = Lp (ledF 1 (P.drop 1)) := by
    cases P with
    | nil => rfl
    | cons r P =>
      show cutL (Rw' _ :: Lp (ledF 1 P)) (some 1) none = Lp (ledF 1 P)
      generalize Lp (ledF 1 P) = l
      unfold cutL
      rw [show HT.sIx (Rw' (trim (r.map (((0 : Nat) : Int) * ·))) :: l).length 0 (some 1) = 1 from ?_]
      · rw [show HT.sIx (Rw' (trim (r.map (((0 : Nat) : Int) * ·))) :: l).length (Rw' (trim (r.map (((0 : Nat) : Int) * ·))) :: l).length none = l.length + 1 from rfl]
        rw [List.drop_one, List.tail_cons, Nat.add_sub_cancel, List.take_length]
      · have := HT.sIx_nat (Rw' (trim (r.map (((0 : Nat) : Int) * ·))) :: l).length 0 1
        rw [List.length_cons] at this ⊢
        rw [show ((1 : Nat) : Int) = 1 from rfl] at this
        rw [this]
        omega
  have tr : f_cut [.d (.list (Lp (ledF 1 (P.drop 1))))] μ = .ok (.d (Pl (led P))) μ := t_cut (.inl rfl)
  have sl : gSl (.d (.list (Lp (ledF 0 P)))) (some 1) none μ = .ok (.d (.list (Lp (ledF 1 (P.drop 1))))) μ := by
    rw [← cu]
    rfl
  simp [-List.drop_one, f_derived_by, b_derived_by, runD, initR, lc, sl, tr]
end LW
namespace LW
open PySem PySem.Spec TL
open L2 (atI ixN)
/-- the numbers of a polynomial at a place -/
def cf (P : List (List Int)) (x : Int) (k : Nat) : Int := hv x (P.getD k [])
theorem resV_disc {P : List (List Int)} (hP : TP P) (h2 : 2 ≤ P.length) (h5 : P.length ≤ 5) (x : Int) : resV P (led P) x = Q.sd (P.length - 1) * (cf P x (P.length - 1) * Q.disc (P.length - 1) (cf P x)) := by
  unfold resV
  rw [led_length hP h2, show P.length - 1 - 1 = P.length - 1 - 1 from rfl, ← Q.res_disc (c := cf P x) (by omega) (by omega)]
  exact res_congr (fun k hk => rfl) fun k hk => led_val k
theorem sd_abs (n : Nat) : (Q.sd n).natAbs = 1 := by
  unfold Q.sd
  split <;> rfl
theorem sd_sq (n : Nat) : Q.sd n * Q.sd n = 1 := by
  unfold Q.sd
  split <;> rfl
theorem last_is {P : List (List Int)} (h : 1 ≤ P.length) : atI (Lp P) (-1) = some (Rw' (P.getD (P.length - 1) [])) := by
  rcases List.eq_nil_or_concat P with e | ⟨l, z, e⟩
  · subst e
    simp at h
  · rw [List.concat_eq_append] at e
    subst e
    have e1 : Lp (l ++ [z]) = Lp l ++ [Rw' z] := List.map_append
    have e2 : (l ++ [z]).getD ((l ++ [z]).length - 1) [] = z := by
      rw [List.getD_eq_getElem?_getD, List.length_append, List.length_singleton, Nat.add_sub_cancel, List.getElem?_append_right (Nat.le_refl _), Nat.sub_self]
      rfl
    rw [e1, e2]
    exact L2.atI_last _ _
theorem trim_scale {a : List Int} (ha : trim a = a) {k : Int} (hk : k * k = 1) : trim ((trim (a.map (k * ·))).map (k * ·)) = a := by
  refine row_hv (trim_idem _) ha fun x => ?_
  rw [hv_trim, hv_scl, hv_trim, hv_scl, ← Int.mul_assoc, hk, Int.one_mul]
/-- the discriminant told: R a row of the discriminant's values -/
theorem t_discriminant_of {μ : Mu} {P : List (List Int)} {R : List Int} {br : Nat} (hP : TP P) (h2 : 2 ≤ P.length) (h5 : P.length ≤ 5) (hn : PL 5 P) (hb : PB (2 ^ 105) P) (hR : trim R = R) (lR : R.length ≤ 200) (bR : BM (2 ^ br) R) (hbr : br ≤ 3000)
    (hv' : ∀ x : Int, hv x R = Q.disc (P.length - 1) (cf P x)) : f_discriminant_of [.d (Pl P)] μ = .ok (.d (Rw' R)) μ := by
  have sP := hb.sm (k := 105) (Nat.le_refl _) (by omega)
  have td := t_derived_by (μ := μ) (P := P) (by omega) sP (hn.up (by omega))
  have ll := led_length hP h2
  have z1 : Sz 110 P := ⟨h5, hn, fun r hr => (hb r hr).up (Nat.pow_le_pow_right (by decide) (by decide))⟩
  have z2 : Sz 110 (led P) := ⟨by omega, hn.led, fun r hr => ((hb.led h5) r hr).up (by decide)⟩
  obtain ⟨D, hD, hDv⟩ := resV_D (P := P) (Q := led P)
  obtain ⟨tr, _⟩ := t_resultant_of (μ := μ) z1 z2 (by omega) (by omega) (by omega) (by omega) hD hDv
  -- the head
  have hmem : P.getD (P.length - 1) [] ∈ P := by
    rw [List.getD_eq_getElem?_getD, List.getElem?_eq_getElem (show P.length - 1 < P.length by omega)]
    exact List.getElem_mem _
  have hht := hP.2 _ hmem
  have hhne : P.getD (P.length - 1) [] ≠ [] := fun z => by
    obtain ⟨z', l, e, hz⟩ := last_ofP hP.1 (by intro y; rw [y] at h2; simp at h2)
    have e2 : P.getD (P.length - 1) [] = z' := by
      rw [e, List.getD_eq_getElem?_getD, List.length_append, List.length_singleton, Nat.add_sub_cancel, List.getElem?_append_right (Nat.le_refl _), Nat.sub_self]
      rfl
    exact hz (by rw [← e2, z])
  have hhl : (P.getD (P.length - 1) []).length ≤ 5 := hn _ hmem
  have hhb : BM (2 ^ 105) (P.getD (P.length - 1) []) := hb _ hmem
  have eD : trim D = mulP (P.getD (P.length - 1) []) (trim (R.map (Q.sd (P.length - 1) * ·))) := by
    refine row_hv (trim_idem _) (mulP_trim _ _) fun x => ?_
    rw [hv_trim, ← hDv, resV_disc hP h2 h5, hv_mulP, hv_trim, hv_scl, hv']
    show _ * (hv (x : Int) (P.getD (P.length - 1) []) * _) = _
    grind
  have lq := trim_len (R.map (Q.sd (P.length - 1) * ·))
  rw [List.length_map] at lq
  have bq : BM (2 ^ br) (trim (R.map (Q.sd (P.length - 1) * ·))) := BM.trim fun y hy => by
    obtain ⟨z, hz, rfl⟩ := List.mem_map.mp hy
    show (Q.sd (P.length - 1) * z).natAbs ≤ _
    rw [Int.natAbs_mul, sd_abs, Nat.one_mul]
    exact bR z hz
  have ex := t_exact_by (μ := μ) hht hhne (trim_idem _) (Nat.le_trans lq lR) (by omega) bq hhb (by omega)
  rw [← eD] at ex
  have la := last_is (P := P) (by omega)
  have eP : (P.length : Int) - 1 = ((P.length - 1 : Nat) : Int) := by omega
  have hcase : P.length - 1 = 1 ∨ P.length - 1 = 2 ∨ P.length - 1 = 3 ∨ P.length - 1 = 4 := by omega
  have fin : ∀ (n : Nat) (b : Bool), P.length - 1 = n → n ≤ 4 → decide ((n : Int) * ((n : Int) - 1) / 2 % 2 = 1) = b → (b = true → Q.sd n = -1) → (b = false → Q.sd n = 1) → f_discriminant_of [.d (Pl P)] μ = .ok (.d (Rw' R)) μ := fun n b e hn4 hd h1 h0 => by
    rw [e] at ex eP lq bq eD la
    have t1 := v_times (μ := μ) (i := (n : Int)) (j := (n : Int) - 1) (by omega) (by omega) (by omega) (by omega)
    have t2 := v_div (μ := μ) (i := (n : Int) * ((n : Int) - 1)) (j := 2) (by decide) (by decide)
    have t3 := v_mod (μ := μ) (i := (n : Int) * ((n : Int) - 1) / 2) (j := 2) (by decide)
    have hb' : ((n : Int) * ((n : Int) - 1) / 2 % 2 == 1) = b := by
      rw [← hd]
      rfl
    have lL : ((Lp P).length : Int) = (P.length : Int) := by rw [Lp_len]
    cases b with
    | true =>
      have hs := h1 rfl
      have sc := t_scaled (μ := μ) (xs := trim (R.map (Q.sd n * ·))) (k := -1) (by omega) (Sml.of (k := 1) (by decide) (by decide)) (bq.sm (k := br) (Nat.le_refl _) (by omega))
      have er := trim_scale hR (k := -1) (by decide)
      rw [hs] at sc ex
      rw [er] at sc
      generalize Rw' (trim (R.map (-1 * ·))) = X at *
      generalize Rw' (P.getD n []) = Hd at *
      generalize Rw' (trim D) = DD at *
      generalize Pl (led P) = LP at *
      generalize ((n : Int) * ((n : Int) - 1) / 2 % 2) = z3 at *
      generalize ((n : Int) * ((n : Int) - 1) / 2) = z2 at *
      generalize ((n : Int) * ((n : Int) - 1)) = z1 at *
      simp [f_discriminant_of, b_discriminant_of, runD, initR, td, tr, la, eP, ex, t1, t2, t3, hb', sc]
    | false =>
      have hs := h0 rfl
      have er : trim (R.map (1 * ·)) = R := row_hv (trim_idem _) hR fun x => by rw [hv_trim, hv_scl, Int.one_mul]
      rw [hs, er] at ex
      generalize Rw' (P.getD n []) = Hd at *
      generalize Rw' (trim D) = DD at *
      generalize Pl (led P) = LP at *
      generalize ((n : Int) * ((n : Int) - 1) / 2 % 2) = z3 at *
      generalize ((n : Int) * ((n : Int) - 1) / 2) = z2 at *
      generalize ((n : Int) * ((n : Int) - 1)) = z1 at *
      simp [f_discriminant_of, b_discriminant_of, runD, initR, td, tr, la, eP, ex, t1, t2, t3, hb']
  rcases hcase with e | e | e | e
  · exact fin 1 false e (by decide) (by decide) (by decide) (by decide)
  · exact fin 2 true e (by decide) (by decide) (by decide) (by decide)
  · exact fin 3 true e (by decide) (by decide) (by decide) (by decide)
  · exact fin 4 false e (by decide) (by decide) (by decide) (by decide)
theorem t_discriminant {μ : Mu} {P : List (List Int)} {R : List Int} {br : Nat} (hP : TP P) (h2 : 2 ≤ P.length) (h5 : P.length ≤ 5) (hn : PL 5 P) (hb : PB (2 ^ 105) P) (hR : trim R = R) (lR : R.length ≤ 200) (bR : BM (2 ^ br) R) (hbr : br ≤ 3000)
    (hv' : ∀ x : Int, hv x R = Q.disc (P.length - 1) (cf P x)) : f_discriminant [.d (Pl P)] μ = .ok (.d (Rw' R)) μ := by
  have c1 := t_check_poly (μ := μ) (n := 2) hP (by omega) (hn.up (by omega)) (by omega)
  have t := t_discriminant_of (μ := μ) hP h2 h5 hn hb hR lR bR hbr hv'
  simp [f_discriminant, b_discriminant, runD, initR, c1, t]
end LW
namespace LW
open PySem PySem.Spec TL
open L2 (atI ixN)
theorem t_law_scaled {μ : Mu} {xs : List Int} {k : Int} (hl : xs.length ≤ 1000) (hk : Sml k) (hb : Sm xs) : f_law_scaled [.d (Rw' xs), .d (.int k)] μ = .ok (.d (Rw' (trim (xs.map (k * ·))))) μ := by
  have e1 : lLc (iAny (eVar 0)) (gNm 2) bYes (e2 gTimes (eVar 1) (eVar 2)) [2] [some (.d (Rw' xs)), some (.d (.int k)), none] μ = .ok (Li (xs.map (k * ·))) μ := lc_ints rfl (by omega) fun x hx => by
    simp [w_times (μ := μ) hk (hb x hx)]
  have tr : f_law_trim [.d (.list (Li (xs.map (k * ·))))] μ = .ok (.d (Rw' (trim (xs.map (k * ·))))) μ := t_law_trim (.inl rfl)
  simp [f_law_scaled, b_law_scaled, runD, initR, e1, tr]
end LW
namespace LW
open PySem PySem.Spec TL
open L2 (atI ixN)
/-- a row: without nought at its end, of at most l numbers of at most b bits -/
structure RB3 (l b : Nat) (a : List Int) : Prop where
  t : trim a = a
  l : a.length ≤ l
  b : BM (2 ^ b) a
theorem RB3.up {l b l2 b2 : Nat} {a : List Int} (h : RB3 l b a) (h1 : l ≤ l2) (h2 : b ≤ b2) : RB3 l2 b2 a := ⟨h.t, Nat.le_trans h.l h1, h.b.up (Nat.pow_le_pow_right (by decide) h2)⟩
theorem RB3.nil {l b : Nat} : RB3 l b [] := ⟨rfl, Nat.zero_le _, fun x hx => (nomatch hx)⟩
theorem RB3.one {b : Nat} {k : Int} (h0 : k ≠ 0) (h : k.natAbs ≤ 2 ^ b) : RB3 1 b [k] := ⟨trim_last [] k h0, Nat.le_refl _, fun x hx => by cases List.mem_singleton.mp hx; exact h⟩
theorem RB3.sm {l b : Nat} {a : List Int} (h : RB3 l b a) (hb : b ≤ 7900) : Sm a := h.b.sm (Nat.le_refl _) hb
theorem RB3.mul {l1 b1 l2 b2 : Nat} {a c : List Int} (h : RB3 l1 b1 a) (k : RB3 l2 b2 c) (h1 : l1 ≤ 64) (h2 : l2 ≤ 64) : RB3 (l1 + l2) (b1 + b2 + 12) (mulP a c) := by
  refine ⟨mulP_trim _ _, ?_, (BM.mulP h.b k.b).up ?_⟩
  · have := mulP_len a c
    have := h.l
    have := k.l
    omega
  · rw [show b1 + b2 + 12 = 12 + (b1 + b2) by omega, Nat.pow_add 2 12, Nat.pow_add 2 b1, ← Nat.mul_assoc]
    refine Nat.mul_le_mul_right _ ?_
    have : a.length * c.length ≤ 64 * 64 := Nat.mul_le_mul (Nat.le_trans h.l h1) (Nat.le_trans k.l h2)
    exact Nat.le_trans this (by decide)
theorem RB3.add {l b : Nat} {a c : List Int} (h : RB3 l b a) (k : RB3 l b c) : RB3 l (b + 1) (trim (addP a c)) := by
  refine ⟨trim_idem _, ?_, BM.trim ((h.b.addP k.b).up ?_)⟩
  · have := trim_len (addP a c)
    rw [addP_len] at this
    have := h.l
    have := k.l
    omega
  · rw [Nat.pow_succ]
    omega
theorem RB3.scale {l b : Nat} {a : List Int} {k : Int} (h : RB3 l b a) (hk : k.natAbs ≤ 4) : RB3 l (b + 2) (trim (a.map (k * ·))) := by
  refine ⟨trim_idem _, ?_, BM.trim fun y hy => ?_⟩
  · have := trim_len (a.map (k * ·))
    rw [List.length_map] at this
    exact Nat.le_trans this h.l
  · obtain ⟨z, hz, rfl⟩ := List.mem_map.mp hy
    show (k * z).natAbs ≤ _
    rw [Int.natAbs_mul, Nat.pow_add, Nat.mul_comm (2 ^ b)]
    exact Nat.mul_le_mul hk (h.b z hz)
theorem RB3.times {μ : Mu} {l1 b1 l2 b2 : Nat} {a c : List Int} (h : RB3 l1 b1 a) (k : RB3 l2 b2 c) (h1 : l1 ≤ 64) (h2 : l2 ≤ 64) (h3 : b1 ≤ 7000) (h4 : b2 ≤ 7000) : f_law_row_times [.d (Rw' a), .d (Rw' c)] μ = .ok (.d (Rw' (mulP a c))) μ :=
  t_row_times (h.sm (by omega)) (k.sm (by omega)) (Nat.le_trans h.l (by omega)) (Nat.le_trans k.l (by omega))
theorem t_row_less {μ : Mu} {l b : Nat} {a c : List Int} (h : RB3 l b a) (k : RB3 l b c) (hl : l ≤ 200) (hb : b ≤ 7000) : f_law_row_less [.d (Rw' a), .d (Rw' c)] μ = .ok (.d (Rw' (trim (addP a (trim (c.map ((-1 : Int) * ·))))))) μ := by
  have s := t_law_scaled (μ := μ) (xs := c) (k := -1) (Nat.le_trans k.l (by omega)) (Sml.of (k := 1) (by decide) (by decide)) (k.sm (by omega))
  have hl2 := trim_len (c.map ((-1 : Int) * ·))
  rw [List.length_map] at hl2
  have p := t_row_sum (μ := μ) (a := a) (b := trim (c.map ((-1 : Int) * ·))) (Nat.le_trans h.l (by omega)) (Nat.le_trans hl2 (Nat.le_trans k.l (by omega)))
  generalize trim (c.map ((-1 : Int) * ·)) = B at *
  simp [f_law_row_less, b_law_row_less, runD, initR, s, p]
/-- a whole number times rows -/
def allP (m : List Int) (L : List (List Int)) : List Int := L.foldl mulP m
def prL (x : Int) (L : List (List Int)) : Int := L.foldl (fun v a => v * hv x a) 1
theorem hv_allP {x : Int} : ∀ (L : List (List Int)) (m : List Int), hv x (allP m L) = L.foldl (fun v a => v * hv x a) (hv x m)
  | [], m => rfl
  | a :: L, m => by
    show hv x (allP (mulP m a) L) = L.foldl _ (hv x m * hv x a)
    rw [hv_allP L, hv_mulP]
theorem allP_RB {b : Nat} : ∀ {L : List (List Int)} {m : List Int} {l c : Nat}, RB3 l c m → (∀ a ∈ L, RB3 8 b a) → l + 8 * L.length ≤ 64 → RB3 (l + 8 * L.length) (c + L.length * (b + 12)) (allP m L)
  | [], m, l, c, h, _, _ => by simpa [allP] using h
  | a :: L, m, l, c, h, hL, hl => by
    rw [List.length_cons] at hl
    have h1 := h.mul (hL a List.mem_cons_self) (by omega) (by decide)
    have h2 := allP_RB h1 (fun z hz => hL z (List.mem_cons_of_mem _ hz)) (by omega)
    refine h2.up (by rw [List.length_cons]; omega) ?_
    rw [List.length_cons, Nat.succ_mul]
    omega
/-- what is made of items that may all be multiplied -/
theorem t_law_allG {μ : Mu} {by' : Int} {L : List (List Int)} (h : ∀ i, i < L.length → Sm (allP [by'] (L.take i)) ∧ (allP [by'] (L.take i)).length ≤ 500) (hL : ∀ a ∈ L, Sm a ∧ a.length ≤ 500) :
    f_law_all [.d (.int by'), .d (.list (L.map Rw'))] μ = .ok (.d (Rw' (allP [by'] L))) μ := by
  have main := for_run (it := iAny (eVar 1)) (xs := L.map Rw') (t := gNm 3) (b := sAsg (cF 2 f_law_row_times (aCons (eVar 2) (aCons (eVar 3) aNil))) (gNm 2)) (ρ := [some (.d (.int by')), some (.d (.list (L.map Rw'))), some (.d (Rw' [by'])), none]) (μ := μ) (μ1 := μ)
    (fun n ρ' μ' => n ≤ L.length ∧ μ' = μ ∧ ∃ o, ρ' = [some (.d (.int by')), some (.d (.list (L.map Rw'))), some (.d (Rw' (allP [by'] (L.take n)))), o]) rfl ⟨Nat.zero_le _, rfl, none, rfl⟩ (fun n y ρ' μ' hy ⟨hn, e0, o, e1'⟩ => ?_)
  · obtain ⟨ρ', μ', e, _, rfl, o, rfl⟩ := main
    rw [List.length_map, List.take_length] at e
    unfold f_law_all
    refine run_ret0 ?_
    show sSeq (sAsg (eTup (aCons (eVar 0) aNil)) (gNm 2)) _ [some (.d (.int by')), some (.d (.list (L.map Rw'))), none, none] μ' = _
    have s1 : sAsg (eTup (aCons (eVar 0) aNil)) (gNm 2) [some (.d (.int by')), some (.d (.list (L.map Rw'))), none, none] μ' = .ok (.nx [some (.d (.int by')), some (.d (.list (L.map Rw'))), some (.d (Rw' [by'])), none]) μ' := by
      generalize L.map Rw' = LL at *
      simp
    rw [seq_ok s1, seq_ok e]
    generalize L.map Rw' = LL at *
    simp
  · subst e0 e1'
    have hk : n < L.length := by
      have := (List.getElem?_eq_some_iff.mp hy).1
      rwa [List.length_map] at this
    rw [List.getElem?_map, List.getElem?_eq_getElem hk] at hy
    cases hy
    have ha := hL _ (List.getElem_mem hk)
    have hm := h n hk
    have t := t_row_times (μ := μ') (a := allP [by'] (L.take n)) (b := L[n]) hm.1 ha.1 hm.2 ha.2
    have ht : allP [by'] (L.take (n + 1)) = mulP (allP [by'] (L.take n)) L[n] := by
      unfold allP
      rw [take_succ0 hk, List.foldl_append]
      rfl
    refine ⟨_, _, [some (.d (.int by')), some (.d (.list (L.map Rw'))), some (.d (Rw' (allP [by'] (L.take (n + 1))))), some (.d (Rw' L[n]))], μ', rfl, ?_, hk, rfl, _, rfl⟩
    rw [ht]
    generalize L.map Rw' = LL at *
    generalize L[n] = a at *
    generalize allP [by'] (L.take n) = A at *
    simp [t]
theorem t_law_all {μ : Mu} {by' : Int} {L : List (List Int)} {b : Nat} (h0 : by' ≠ 0) (hb : by'.natAbs ≤ 2 ^ 5) (hL : ∀ a ∈ L, RB3 8 b a) (hl : L.length ≤ 4) (hbb : b ≤ 1000) :
    f_law_all [.d (.int by'), .d (.list (L.map Rw'))] μ = .ok (.d (Rw' (allP [by'] L))) μ ∧ RB3 33 (5 + 4 * (b + 12)) (allP [by'] L) := by
  have key : ∀ i, i ≤ L.length → RB3 33 (5 + 4 * (b + 12)) (allP [by'] (L.take i)) := fun i hi => by
    have := allP_RB (RB3.one h0 hb) (L := L.take i) (fun a ha => hL a (List.mem_of_mem_take ha)) (by rw [List.length_take]; omega)
    refine this.up (by rw [List.length_take]; omega) ?_
    have : (L.take i).length * (b + 12) ≤ 4 * (b + 12) := Nat.mul_le_mul_right _ (by rw [List.length_take]; omega)
    omega
  refine ⟨t_law_allG (fun i hi => ⟨(key i (by omega)).sm (by omega), Nat.le_trans (key i (by omega)).l (by omega)⟩) fun a ha => ⟨(hL a ha).sm (by omega), Nat.le_trans (hL a ha).l (by omega)⟩, ?_⟩
  have := key L.length (Nat.le_refl _)
  rwa [List.take_length] at this
end LW
namespace LW
open PySem PySem.Spec TL
open L2 (atI ixN)
theorem disc2_is (c : Nat → Int) : Q.disc 2 c = c 1 * c 1 - 4 * (c 2 * c 0) := by
  show Q.den c Q.D2 = _
  simp [Q.D2, Q.den, Q.mden]
  grind
theorem disc3_is (c : Nat → Int) : Q.disc 3 c = c 2 * c 2 * c 1 * c 1 - 4 * (c 3 * c 1 * c 1 * c 1) - 4 * (c 2 * c 2 * c 2 * c 0) - 27 * (c 3 * c 3 * c 0 * c 0) + 18 * (c 3 * c 2 * c 1 * c 0) := by
  show Q.den c Q.D3 = _
  simp [Q.D3, Q.den, Q.mden]
  grind
theorem disc1_is (c : Nat → Int) : Q.disc 1 c = 1 := Q.den_num c 2 1
theorem sum_RB {μ : Mu} {l b : Nat} {a c : List Int} (h : RB3 l b a) (k : RB3 l b c) (hl : l ≤ 200) : f_law_row_sum [.d (Rw' a), .d (Rw' c)] μ = .ok (.d (Rw' (trim (addP a c)))) μ ∧ RB3 l (b + 1) (trim (addP a c)) :=
  ⟨t_row_sum (Nat.le_trans h.l (by omega)) (Nat.le_trans k.l (by omega)), h.add k⟩
theorem t_formula {μ : Mu} {P : List (List Int)} (h2 : 2 ≤ P.length) (h4 : P.length ≤ 4) (hr : ∀ r ∈ P, RB3 8 20 r) :
    ∃ R, f_law_formula [.d (Pl P)] μ = .ok (.d (Rw' R)) μ ∧ RB3 40 200 R ∧ ∀ x : Int, hv x R = Q.disc (P.length - 1) (cf P x) := by
  have all := fun (by' : Int) (L : List (List Int)) (h0 : by' ≠ 0) (hb : by'.natAbs ≤ 2 ^ 5) (hL : ∀ a ∈ L, RB3 8 20 a) (hl : L.length ≤ 4) => t_law_all (μ := μ) (b := 20) h0 hb hL hl (by decide)
  match P, h2, h4, hr with
  | [c0, c1], _, _, hr =>
    refine ⟨[1], ?_, (RB3.one (b := 0) (by decide) (by decide)).up (by decide) (by decide), fun x => ?_⟩
    · simp [f_law_formula, b_law_formula, runD, initR]
    · show 1 + x * 0 = Q.disc 1 _
      rw [disc1_is]
      omega
  | [c0, c1, c2], _, _, hr =>
    have r0 := hr c0 (by simp)
    have r1 := hr c1 (by simp)
    have r2 := hr c2 (by simp)
    obtain ⟨a1, b1⟩ := all 1 [c1, c1] (by decide) (by decide) (by intro a ha; simp at ha; rcases ha with rfl | rfl <;> assumption) (by simp)
    obtain ⟨a2, b2⟩ := all (-4) [c2, c0] (by decide) (by decide) (by intro a ha; simp at ha; rcases ha with rfl | rfl <;> assumption) (by simp)
    obtain ⟨s1, t1⟩ := sum_RB (μ := μ) b1 b2 (by decide)
    refine ⟨_, ?_, t1.up (by decide) (by decide), fun x => ?_⟩
    · have g : (Pl [c0, c1, c2]) = .tuple [Rw' c0, Rw' c1, Rw' c2] := rfl
      rw [g]
      simp only [List.map_cons, List.map_nil] at a1 a2
      generalize Rw' c0 = C0 at *
      generalize Rw' c1 = C1 at *
      generalize Rw' c2 = C2 at *
      generalize Rw' (allP [1] [c1, c1]) = A1 at *
      generalize Rw' (allP [-4] [c2, c0]) = A2 at *
      simp [f_law_formula, b_law_formula, runD, initR, a1, a2, s1]
    · show _ = Q.disc 2 (cf [c0, c1, c2] x)
      rw [hv_trim, hv_addP, hv_allP, hv_allP, disc2_is]
      show (1 + x * 0) * hv x c1 * hv x c1 + (-4 + x * 0) * hv x c2 * hv x c0 = hv x c1 * hv x c1 - 4 * (hv x c2 * hv x c0)
      grind
  | [c0, c1, c2, c3], _, _, hr =>
    have r0 := hr c0 (by simp)
    have r1 := hr c1 (by simp)
    have r2 := hr c2 (by simp)
    have r3 := hr c3 (by simp)
    obtain ⟨a1, b1⟩ := all 1 [c2, c2, c1, c1] (by decide) (by decide) (by intro a ha; simp at ha; rcases ha with rfl | rfl <;> assumption) (by simp)
    obtain ⟨a2, b2⟩ := all (-4) [c3, c1, c1, c1] (by decide) (by decide) (by intro a ha; simp at ha; rcases ha with rfl | rfl <;> assumption) (by simp)
    obtain ⟨a3, b3⟩ := all (-4) [c2, c2, c2, c0] (by decide) (by decide) (by intro a ha; simp at ha; rcases ha with rfl | rfl <;> assumption) (by simp)
    obtain ⟨a4, b4⟩ := all (-27) [c3, c3, c0, c0] (by decide) (by decide) (by intro a ha; simp at ha; rcases ha with rfl | rfl <;> assumption) (by simp)
    obtain ⟨a5, b5⟩ := all 18 [c3, c2, c1, c0] (by decide) (by decide) (by intro a ha; simp at ha; rcases ha with rfl | rfl | rfl | rfl <;> assumption) (by simp)
    obtain ⟨s1, t1⟩ := sum_RB (μ := μ) b1 b2 (by decide)
    obtain ⟨s2, t2⟩ := sum_RB (μ := μ) t1 (b3.up (Nat.le_refl _) (Nat.le_succ _)) (by decide)
    obtain ⟨s3, t3⟩ := sum_RB (μ := μ) t2 (b4.up (Nat.le_refl _) (by omega)) (by decide)
    obtain ⟨s4, t4⟩ := sum_RB (μ := μ) t3 (b5.up (Nat.le_refl _) (by omega)) (by decide)
    refine ⟨_, ?_, t4.up (by decide) (by decide), fun x => ?_⟩
    · have g : (Pl [c0, c1, c2, c3]) = .tuple [Rw' c0, Rw' c1, Rw' c2, Rw' c3] := rfl
      rw [g]
      simp only [List.map_cons, List.map_nil] at a1 a2 a3 a4 a5
      clear t1 t2 t3 t4 b1 b2 b3 b4 b5 all r0 r1 r2 r3 hr
      generalize Rw' c0 = C0 at *
      generalize Rw' c1 = C1 at *
      generalize Rw' c2 = C2 at *
      generalize Rw' c3 = C3 at *
      generalize allP [1] [c2, c2, c1, c1] = A1 at *
      generalize allP [-4] [c3, c1, c1, c1] = A2 at *
      generalize allP [-4] [c2, c2, c2, c0] = A3 at *
      generalize allP [-27] [c3, c3, c0, c0] = A4 at *
      generalize allP [18] [c3, c2, c1, c0] = A5 at *
      generalize trim (addP (trim (addP (trim (addP (trim (addP A1 A2)) A3)) A4)) A5) = B4 at *
      generalize trim (addP (trim (addP (trim (addP A1 A2)) A3)) A4) = B3 at *
      generalize trim (addP (trim (addP A1 A2)) A3) = B2 at *
      generalize trim (addP A1 A2) = B1 at *
      simp [f_law_formula, b_law_formula, runD, initR, a1, a2, a3, a4, a5, s1, s2, s3, s4]
    · show _ = Q.disc 3 (cf [c0, c1, c2, c3] x)
      rw [hv_trim, hv_addP, hv_trim, hv_addP, hv_trim, hv_addP, hv_trim, hv_addP, hv_allP, hv_allP, hv_allP, hv_allP, hv_allP, disc3_is]
      show (1 + x * 0) * hv x c2 * hv x c2 * hv x c1 * hv x c1 + (-4 + x * 0) * hv x c3 * hv x c1 * hv x c1 * hv x c1 + (-4 + x * 0) * hv x c2 * hv x c2 * hv x c2 * hv x c0 + (-27 + x * 0) * hv x c3 * hv x c3 * hv x c0 * hv x c0 + (18 + x * 0) * hv x c3 * hv x c2 * hv x c1 * hv x c0
        = hv x c2 * hv x c2 * hv x c1 * hv x c1 - 4 * (hv x c3 * hv x c1 * hv x c1 * hv x c1) - 4 * (hv x c2 * hv x c2 * hv x c2 * hv x c0) - 27 * (hv x c3 * hv x c3 * hv x c0 * hv x c0) + 18 * (hv x c3 * hv x c2 * hv x c1 * hv x c0)
      grind
end LW
namespace LW
open PySem PySem.Spec TL
open L2 (atI ixN)
/-- the law's own well -/
def Wl (m : Nat) (c : Cell) : Prop := ∃ a b n : Int, c = [.int a, .int b, .int n] ∧ 0 ≤ a ∧ 0 ≤ b ∧ b < 2147483563 ∧ 0 ≤ n ∧ n ≤ m
def DrawP (m : Nat) (many : Int) (x : PyData) (c' : Cell) : Prop := ∃ r, x = .int r ∧ 0 ≤ r ∧ r < many ∧ Wl (m + 1) c'
theorem t_draw0 {μ : Mu} {k m : Nat} {many : Int} {c : Cell} (h : μ[k]? = some (some c)) (w : Wl m c) (hm : m < 1000000000) (h1 : 0 < many) (h2 : many < 1000000000) : Tl μ k (f_law_draw [.r k, .d (.int many)] μ) (DrawP m many) := by
  obtain ⟨a, b, n, rfl, ha, hb, hb2, hn, hn2⟩ := w
  by_cases ha0 : 0 < a
  · simp [f_law_draw, b_law_draw, runD, initR, v_ixr h, v_setc h, ha0, v_divmod h1 (by omega : many < 1000000000000000000)]
    exact ⟨_, rfl, _, rfl, Int.emod_nonneg _ (by omega), Int.emod_lt_of_pos _ h1, _, _, _, rfl, Int.ediv_nonneg ha (by omega), hb, hb2, hn, by omega⟩
  · have h3 : ∀ c1 : Cell, (μ.set k (some c1))[k]? = some (some c1) := fun c1 => get_set h
    simp (disch := omega) [f_law_draw, b_law_draw, runD, initR, v_ixr h, v_setc h, ha0, v_ixr (h3 _), v_setc (h3 _), TL.v_times, TL.v_mod, TL.v_div]
    exact ⟨_, rfl, _, rfl, Int.emod_nonneg _ (by omega), Int.emod_lt_of_pos _ h1, _, _, _, rfl, ha, Int.emod_nonneg _ (by omega), Int.emod_lt_of_pos _ (by omega), by omega, by omega⟩
theorem t_draw {μ : Mu} {k m : Nat} {many : Int} {c : Cell} (h : μ[k]? = some (some c)) (w : Wl m c) (hm : m < 1000000000) (h1 : 0 < many) (h2 : many < 1000000000) :
    ∃ r c', f_law_draw [.r k, .d (.int many)] μ = .ok (.d (.int r)) (μ.set k (some c')) ∧ 0 ≤ r ∧ r < many ∧ Wl (m + 1) c' := by
  obtain ⟨x, c', e, r, rfl, p⟩ := (t_draw0 h w hm h1 h2).ok
  exact ⟨r, c', e, p⟩

theorem Wl.up {m n : Nat} {c : Cell} (w : Wl m c) (h : m ≤ n) : Wl n c := by
  obtain ⟨a, b, i, rfl, q1, q2, q3, q4, q5⟩ := w
  exact ⟨a, b, i, rfl, q1, q2, q3, q4, by omega⟩
theorem t_pick {μ : Mu} {k m : Nat} {xs : List PyData} {c : Cell} (h : μ[k]? = some (some c)) (w : Wl m c) (hm : m < 900000000) (h0 : 0 < xs.length) (h1 : xs.length < 100000) :
    ∃ x c', f_law_pick [.r k, .d (.tuple xs)] μ = .ok (.d x) (μ.set k (some c')) ∧ Wl (m + 1) c' ∧ x ∈ xs := by
  obtain ⟨r, c1, e1, r0, r1, w1⟩ := t_draw (many := xs.length) h w (by omega) (by omega) (by omega)
  obtain ⟨x, e2, hx⟩ := at_nat r0 r1
  exact ⟨x, c1, by simp [f_law_pick, b_law_pick, runD, initR, e1, e2], w1, hx⟩
theorem cut_in {xs : List PyData} {lo hi : Option Int} : (cutL xs lo hi).length ≤ xs.length ∧ ∀ y ∈ cutL xs lo hi, y ∈ xs := by
  unfold cutL
  refine ⟨?_, fun y hy => List.mem_of_mem_drop (List.mem_of_mem_take hy)⟩
  rw [List.length_take, List.length_drop]
  omega
@[simp] theorem v_slt {μ : Mu} {xs : List PyData} {lo hi : Option Int} : gSl (.d (.tuple xs)) lo hi μ = .ok (.d (.tuple (cutL xs lo hi))) μ := rfl
@[simp] theorem v_sll {μ : Mu} {xs : List PyData} {lo hi : Option Int} : gSl (.d (.list xs)) lo hi μ = .ok (.d (.list (cutL xs lo hi))) μ := rfl
@[simp] theorem v_revt {μ : Mu} {xs : List PyData} : gRev (.d (.tuple xs)) μ = .ok (.d (.tuple xs.reverse)) μ := rfl
theorem t_wstep {sc a : Wv} {y v p q : Int} {μ : Mu} (v0 : 0 ≤ v) (v1 : v < 1000000000000) (hp : 0 < p) (hq : 0 < q) :
    (sAsg (e2 gMod (en gInt (aCons (e2 gPlus (e2 gPlus (e2 gTimes (eVar 2) (eK (.int 48029))) (e2 gMod (en gInt (aCons (eVar 3) aNil)) (eK (.int p)))) (eK (.int 5))) aNil)) (eK (.int q))) (gNm 2))
      [some sc, some a, some (.d (.int v)), some (.d (.int y)), none] μ = .ok (.nx [some sc, some a, some (.d (.int ((v * 48029 + y % p + 5) % q))), some (.d (.int y)), none]) μ := by
  simp (disch := omega) [TL.v_times, TL.v_mod]
theorem t_wloop {ns : List Int} {a : Wv} {v p q : Int} {μ : Mu} (v0 : 0 ≤ v) (v1 : v < q) (hp : 0 < p) (hq : 0 < q) (hq2 : q < 1000000000000) : ∃ v' o, sFor (iAny (eSl (eVar 0) none (some (eK (.int 9))))) (gNm 3)
    (sAsg (e2 gMod (en gInt (aCons (e2 gPlus (e2 gPlus (e2 gTimes (eVar 2) (eK (.int 48029))) (e2 gMod (en gInt (aCons (eVar 3) aNil)) (eK (.int p)))) (eK (.int 5))) aNil)) (eK (.int q))) (gNm 2))
    [some (.d (.list (ns.map PyData.int))), some a, some (.d (.int v)), none, none] μ = .ok (.nx [some (.d (.list (ns.map PyData.int))), some a, some (.d (.int v')), o, none]) μ ∧ 0 ≤ v' ∧ v' < q := by
  have main := for_run (it := (iAny (eSl (eVar 0) none (some (eK (.int 9)))))) (xs := cutL (ns.map PyData.int) none (some 9)) (t := gNm 3)
    (b := (sAsg (e2 gMod (en gInt (aCons (e2 gPlus (e2 gPlus (e2 gTimes (eVar 2) (eK (.int 48029))) (e2 gMod (en gInt (aCons (eVar 3) aNil)) (eK (.int p)))) (eK (.int 5))) aNil)) (eK (.int q))) (gNm 2)))
    (ρ := [some (.d (.list (ns.map PyData.int))), some a, some (.d (.int v)), none, none]) (μ := μ) (μ1 := μ)
    (fun _ ρ' μ' => μ' = μ ∧ ∃ v x, ρ' = [some (.d (.list (ns.map PyData.int))), some a, some (.d (.int v)), x, none] ∧ 0 ≤ v ∧ v < q)
    rfl ⟨rfl, _, none, rfl, v0, v1⟩ (fun n x ρ' μ' hx ⟨e0, v, o, e1, v0, v1⟩ => ?_)
  · obtain ⟨ρ', μ', e, rfl, v, o, rfl, v0, v1⟩ := main
    exact ⟨v, o, e, v0, v1⟩
  · subst e0 e1
    have hm := cut_in.2 x (List.mem_of_getElem? hx)
    obtain ⟨y, _, rfl⟩ := List.mem_map.mp hm
    exact ⟨_, _, _, _, rfl, t_wstep v0 (by omega) hp hq, rfl, _, _, rfl, Int.emod_nonneg _ (by omega), Int.emod_lt_of_pos _ hq⟩
theorem t_wown {ns : List Int} {i : Nat} {o2 o3 o4 : Option Wv} {μ : Mu} : ∃ z : Int, (eIf (tB' (e2 (gCmp fun i j => decide (i < j)) (eVar 1) (en gLen (aCons (eVar 0) aNil)))) (en gInt (aCons (e2 gIx (eVar 0) (eVar 1)) aNil)) (eK (.int 0))) [some (.d (.list (ns.map PyData.int))), some (.d (.int i)), o2, o3, o4] μ = .ok (.d (.int z)) μ := by
  by_cases hl : i < ns.length
  · have : atI (ns.map PyData.int) (i : Int) = some (.int ns[i]) := at_n (by rw [List.getElem?_map, List.getElem?_eq_getElem hl]; rfl)
    exact ⟨ns[i], by simp [this, hl]⟩
  · exact ⟨0, by simp [hl]⟩
noncomputable def M_well (p q : Int) : Ev :=
  (e2 gMod (en gInt (aCons (e2 gPlus (e2 gPlus (e2 gTimes (eVar 2) (eK (.int 43))) (e2 gTimes (e2 gMod (en gInt (aCons (eVar 4) aNil)) (eK (.int p))) (eK (.int 20047)))) (eK (.int 13))) aNil)) (eK (.int q)))
noncomputable def U_well : Sv :=
  (sRet (eNew (lDisp (aCons (eIf (bOr (tB' (e2 (gCmp fun i j => decide (i < j)) (eVar 4) (eK (.int 0)))) (tB' (e2 (gCmp fun i j => decide (j ≤ i)) (eVar 4) (e2 gPow (eK (.int 10)) (eK (.int 14)))))) (en gAbs (aCons (eVar 4) aNil)) (eK (.int 0))) (aCons (eVar 2) (aCons (eK (.int 0)) aNil))))))
theorem t_wmix {sc a : Wv} {v z p q : Int} {o o4 : Option Wv} {μ : Mu} (v0 : 0 ≤ v) (v1 : v < 1000000000000) (hp : 0 < p) (hp2 : p < 1000000000000) (hq : 0 < q) :
    sAsg (M_well p q) (gNm 2) [some sc, some a, some (.d (.int v)), o, some (.d (.int z))] μ = .ok (.nx [some sc, some a, some (.d (.int ((v * 43 + z % p * 20047 + 13) % q))), o, some (.d (.int z))]) μ := by
  have h1 := Int.emod_nonneg z (show p ≠ 0 by omega)
  have h2 := Int.emod_lt_of_pos z hp
  simp (disch := omega) [M_well, TL.v_times, TL.v_mod]
theorem t_wret {sc a : Wv} {v z : Int} {o : Option Wv} {μ : Mu} : U_well [some sc, some a, some (.d (.int v)), o, some (.d (.int z))] μ = .ok (.rt (.r μ.length)) (μ ++ [some [.int (if z < 0 ∨ 10 ^ 14 ≤ z then (if z < 0 then -z else z) else 0), .int v, .int 0]]) := by
  have p : gPow (.d (.int 10)) (.d (.int 14)) μ = .ok (.d (.int (10 ^ 14))) μ := rfl
  generalize (10 : Int) ^ 14 = big at p ⊢
  by_cases hz : z < 0
  · simp [-v_pow, U_well, hz, p]
  · by_cases hz2 : big ≤ z
    · simp [-v_pow, U_well, hz, hz2, p]
    · simp [-v_pow, U_well, hz, hz2, p]
theorem well_is : b_law_well = sSeq (sAsg (e2 gPlus (eK (.int 827039)) (e2 gTimes (eK (.int 7127)) (eVar 1))) (gNm 2)) (sSeq (sFor (iAny (eSl (eVar 0) none (some (eK (.int 9))))) (gNm 3) (sAsg (e2 gMod (en gInt (aCons (e2 gPlus (e2 gPlus (e2 gTimes (eVar 2) (eK (.int 48029))) (e2 gMod (en gInt (aCons (eVar 3) aNil)) (eK (.int 2147483587)))) (eK (.int 5))) aNil)) (eK (.int 2147483563))) (gNm 2))) (sSeq (sAsg (eIf (tB' (e2 (gCmp fun i j => decide (i < j)) (eVar 1) (en gLen (aCons (eVar 0) aNil)))) (en gInt (aCons (e2 gIx (eVar 0) (eVar 1)) aNil)) (eK (.int 0))) (gNm 4)) (sSeq (sAsg (M_well 2147483587 2147483563) (gNm 2)) U_well))) := rfl
theorem t_well {ns : List Int} {i : Nat} {μ : Mu} (hi : i ≤ 100) : ∃ c, f_law_well [.d (.list (ns.map PyData.int)), .d (.int i)] μ = .ok (.r μ.length) (μ ++ [some c]) ∧ Wl 0 c := by
  have t1 := TL.v_times (μ := μ) (i := 7127) (j := i) (by omega) (by omega) (by omega) (by omega)
  obtain ⟨v, o, e, v0, v1⟩ := t_wloop (ns := ns) (a := .d (.int i)) (v := 827039 + 7127 * i) (p := 2147483587) (q := 2147483563) (μ := μ) (by omega) (by omega) (by omega) (by omega) (by omega)
  obtain ⟨z, ez⟩ := t_wown (ns := ns) (i := i) (o2 := some (.d (.int v))) (o3 := o) (o4 := none) (μ := μ)
  have em := t_wmix (sc := .d (.list (ns.map PyData.int))) (a := .d (.int i)) (v := v) (z := z) (p := 2147483587) (q := 2147483563) (o := o) (o4 := none) (μ := μ) v0 (by omega) (by omega) (by omega) (by omega)
  have er := t_wret (sc := .d (.list (ns.map PyData.int))) (a := .d (.int i)) (v := (v * 43 + z % 2147483587 * 20047 + 13) % 2147483563) (z := z) (o := o) (μ := μ)
  have q : b_law_well [some (.d (.list (ns.map PyData.int))), some (.d (.int i)), none, none, none] μ = .ok (.rt (.r μ.length)) (μ ++ [some [.int (if z < 0 ∨ 10 ^ 14 ≤ z then (if z < 0 then -z else z) else 0), .int ((v * 43 + z % 2147483587 * 20047 + 13) % 2147483563), .int 0]]) := by
    rw [well_is, seq_ok (asg_ok (w := .d (.int (827039 + 7127 * i))) (μ' := μ) (by simp [t1]))]
    show sSeq _ _ [some (.d (.list (ns.map PyData.int))), some (.d (.int i)), some (.d (.int (827039 + 7127 * i))), none, none] μ = _
    rw [seq_ok e, seq_ok (asg_ok ez)]
    show sSeq _ _ [some (.d (.list (ns.map PyData.int))), some (.d (.int i)), some (.d (.int v)), o, some (.d (.int z))] μ = _
    rw [seq_ok em]
    exact er
  have q2 : f_law_well [.d (.list (ns.map PyData.int)), .d (.int i)] μ = .ok (.r μ.length) (μ ++ [some [.int (if z < 0 ∨ 10 ^ 14 ≤ z then (if z < 0 then -z else z) else 0), .int ((v * 43 + z % 2147483587 * 20047 + 13) % 2147483563), .int 0]]) := by
    show (match b_law_well [some (.d (.list (ns.map PyData.int))), some (.d (.int i)), none, none, none] μ with
      | .ok (.rt w) μ' => leave μ.length w μ'
      | .ok (.nx _) μ' => leave μ.length (.d .none) μ'
      | .ok (.er x us _) μ' => match allD us with
        | some c => .err x (c.map Wv.d) (μ'.take μ.length)
        | none => .bad
      | _ => .bad) = _
    rw [q]
    simp [leave]
  have hz : (0 : Int) ≤ (if z < 0 ∨ 10 ^ 14 ≤ z then (if z < 0 then -z else z) else 0) := by
    split
    · split <;> omega
    · omega
  exact ⟨_, q2, _, _, _, rfl, hz, Int.emod_nonneg _ (by omega), Int.emod_lt_of_pos _ (by omega), by omega, by omega⟩
end LW
namespace LW
open PySem PySem.Spec TL
open L2 (atI ixN)
/-- a list filled from the well -/
theorem fillG {μ : Mu} {k d m j : Nat} {mk : Option Wv → Rho} {it : TL.Iv} {t : Gv} {b : Sv} {R : PyData → Prop} {c : Cell} {μ1 : Mu} {o0 : Option Wv} (hj : j ≤ 1000) (hit : it (mk o0) μ1 = .ok ⟨intL 0 j 1, []⟩ (μ.set k (some c) ++ [some []])) (w : Wl m c)
    (ht : ∀ w o μ, t w (mk o) μ = .ok (mk (some w)) μ)
    (hb : ∀ o c n l, n ≤ 1000 → Wl (m + n * d) c → l.length = n → (∀ y ∈ l, R y) → ∃ y c', b (mk o) (μ.set k (some c) ++ [some l]) = .ok (.nx (mk o)) (μ.set k (some c') ++ [some (l ++ [y])]) ∧ Wl (m + n * d + d) c' ∧ R y) :
    ∃ o c' l, sFor it t b (mk o0) μ1 = .ok (.nx (mk o)) (μ.set k (some c') ++ [some l]) ∧ Wl (m + j * d) c' ∧ l.length = j ∧ ∀ y ∈ l, R y := by
  have main := for_run (t := t) (b := b) (fun n ρ' μ' => n ≤ j ∧ ∃ o c' l, ρ' = mk o ∧ μ' = μ.set k (some c') ++ [some l] ∧ Wl (m + n * d) c' ∧ l.length = n ∧ ∀ y ∈ l, R y) hit
    ⟨Nat.zero_le _, o0, c, [], rfl, rfl, by simpa using w, rfl, fun y hy => by cases hy⟩ (fun n x ρ' μ' hx ⟨hn, o, c', l, e1, e2, w', hl, hr⟩ => ?_)
  · obtain ⟨ρ', μ', e, hn, o, c', l, rfl, rfl, w', hl, hr⟩ := main
    rw [intL_len] at hl w'
    exact ⟨o, c', l, e, w', hl, hr⟩
  · subst e1 e2
    have hn2 : n < j := by
      have := (List.getElem?_eq_some_iff.mp hx).1
      rwa [intL_len] at this
    obtain ⟨y, c2, eb, w2, r2⟩ := hb (some (.d x)) c' n l (by omega) w' hl hr
    refine ⟨_, _, _, _, ht (.d x) o _, eb, hn2, some (.d x), c2, l ++ [y], rfl, rfl, ?_, by rw [List.length_append, hl]; rfl, fun z hz => ?_⟩
    · rw [Nat.succ_mul, ← Nat.add_assoc]
      exact w2
    · rcases List.mem_append.mp hz with hz | hz
      · exact hr z hz
      · simp at hz
        rw [hz]
        exact r2
/-- whole numbers in a list -/
theorem ints_list {M : Nat} : ∀ {l : Cell}, (∀ y ∈ l, ∃ i : Int, y = .int i ∧ i.natAbs ≤ M) → ∃ xs, l = Li xs ∧ BM M xs
  | [], _ => ⟨[], rfl, fun x hx => by cases hx⟩
  | y :: l, h => by
    obtain ⟨i, rfl, hi⟩ := h y List.mem_cons_self
    obtain ⟨xs, rfl, hx⟩ := ints_list (l := l) fun z hz => h z (List.mem_cons_of_mem _ hz)
    exact ⟨i :: xs, rfl, fun x hm => by
      rcases List.mem_cons.mp hm with rfl | hm
      · exact hi
      · exact hx x hm⟩
/-- a row as laws draw them -/
def RowO (n M : Nat) (x : PyData) : Prop := ∃ a : List Int, x = Rw' a ∧ trim a = a ∧ a.length ≤ n ∧ BM M a
def PolO (l n M : Nat) (x : PyData) : Prop := ∃ P : Pol, x = Pl P ∧ TP P ∧ P.length ≤ l ∧ PL n P ∧ PB M P
theorem rows_list {n M : Nat} : ∀ {l : Cell}, (∀ y ∈ l, RowO n M y) → ∃ P : Pol, l = Lp P ∧ TR P ∧ PL n P ∧ PB M P
  | [], _ => ⟨[], rfl, TP.nil.2, (by intro r hr; cases hr), (by intro r hr; cases hr)⟩
  | y :: l, h => by
    obtain ⟨a, rfl, h1, h2, h3⟩ := h y List.mem_cons_self
    obtain ⟨P, rfl, p1, p2, p3⟩ := rows_list (l := l) fun z hz => h z (List.mem_cons_of_mem _ hz)
    refine ⟨a :: P, rfl, p1.cons h1, fun r hr => ?_, fun r hr => ?_⟩
    · rcases List.mem_cons.mp hr with rfl | hr
      · exact h2
      · exact p2 r hr
    · rcases List.mem_cons.mp hr with rfl | hr
      · exact h3
      · exact p3 r hr
end LW
namespace LW
open PySem PySem.Spec TL
open L2 (atI ixN)
theorem t_number {μ : Mu} {k m : Nat} {c : Cell} (h : μ[k]? = some (some c)) (w : Wl m c) (hm : m < 900000000) :
    ∃ r c', f_law_number [.r k] μ = .ok (.d (.int r)) (μ.set k (some c')) ∧ Wl (m + 2) c' ∧ r.natAbs ≤ 500000 := by
  obtain ⟨r, c1, e1, _, _, w1⟩ := t_draw (many := 16) h w (by omega) (by omega) (by omega)
  have h1 : (μ.set k (some c1))[k]? = some (some c1) := get_set h
  by_cases hr : r = 0
  · subst hr
    obtain ⟨r2, c2, e2, _, _, w2⟩ := t_draw (many := 1000000) h1 w1 (by omega) (by omega) (by omega)
    exact ⟨r2 - 500000, c2, by simp [f_law_number, b_law_number, runD, initR, e1, e2], w2, by omega⟩
  · obtain ⟨r2, c2, e2, _, _, w2⟩ := t_draw (many := 9) h1 w1 (by omega) (by omega) (by omega)
    exact ⟨r2 - 4, c2, by simp [f_law_number, b_law_number, runD, initR, e1, e2, hr], w2, by omega⟩
end LW
namespace LW
open PySem PySem.Spec TL
open L2 (atI ixN)
theorem t_row {μ : Mu} {k m : Nat} {many : Int} {c : Cell} (h : μ[k]? = some (some c)) (w : Wl m c) (h0 : 0 ≤ many) (h9 : many ≤ 9) (hm : m < 800000000) :
    ∃ x c', f_law_row [.r k, .d (.int many)] μ = .ok (.d x) (μ.set k (some c')) ∧ Wl (m + 3000) c' ∧ RowO many.toNat 500000 x := by
  have hk := lt_of_get h
  have h' : (μ ++ [some []])[k]? = some (some c) := app_get h
  obtain ⟨j, c1, e1, j0, j1, w1⟩ := t_draw (many := many + 1) h' w (by omega) (by omega) (by omega)
  rw [app_set hk] at e1
  have main := fillG (μ := μ) (k := k) (d := 2) (m := m + 1) (j := j.toNat) (mk := fun o => [some (.r k), some (.d (.int many)), some (.r μ.length), o]) (t := gNm 3) (b := sExpr (eMeth1 gApp (eVar 2) (aCons (cF 1 f_law_number (aCons (eVar 0) aNil)) aNil))) (R := fun y => ∃ i : Int, y = .int i ∧ i.natAbs ≤ 500000) (μ1 := μ ++ [some []]) (o0 := none)
    (it := iR1 (aCons (cF 2 f_law_draw (aCons (eVar 0) (aCons (e2 gPlus (eVar 1) (eK (.int 1))) aNil))) aNil)) (by omega) (it_r1 (j := j) (by simp [e1]) (by omega) (by omega)) w1 (fun w o μ => rfl) (fun o c n l hn w hl _ => ?_)
  · obtain ⟨o, c2, l, e2, w2, hl, hr⟩ := main
    obtain ⟨xs, rfl, hb⟩ := ints_list hr
    have tr := t_law_trim (μ := μ.set k (some c2) ++ [some (Li xs)]) (w := .r μ.length) (xs := xs) (.inl (x_dr get_last))
    refine ⟨Rw' (trim xs), c2, ?_, w2.up (by omega), trim xs, rfl, trim_idem xs, ?_, hb.trim⟩
    · simp [f_law_row, b_law_row, runD, initR]
      rw [e2]
      simp [tr]
    · have := trim_len xs
      rw [Li_len] at hl
      omega
  · have g1 : (μ.set k (some c) ++ [some l])[k]? = some (some c) := app_get (get_set h)
    have hd : n * 2 ≤ 2000 := by omega
    obtain ⟨y, c3, e3, w3, r3⟩ := t_number g1 w (by omega)
    rw [app_set (by rw [List.length_set]; exact hk), List.set_set] at e3
    have lv : live (.r μ.length) (μ.set k (some c) ++ [some l]) = true := live_r get_last
    refine ⟨.int y, c3, ?_, w3, y, rfl, r3⟩
    simp [x_meth, lv, e3, v_app (k := μ.length) (μ := μ.set k (some c3) ++ [some l]) get_last (by omega)]
end LW
namespace LW
open PySem PySem.Spec TL
open L2 (atI ixN)
theorem fillS {st : Cell → Cell → Mu} {M : Rho → Prop} {m d j : Nat} {it : TL.Iv} {t : Gv} {b : Sv} {R : PyData → Prop} {c : Cell} {ρ0 : Rho} {μ1 : Mu} (hj : j ≤ 1000) (hit : it ρ0 μ1 = .ok ⟨intL 0 j 1, []⟩ (st c [])) (hM : M ρ0) (w : Wl m c)
    (ht : ∀ w ρ μ, M ρ → ∃ ρ1, t w ρ μ = .ok ρ1 μ ∧ M ρ1)
    (hb : ∀ ρ c n l, M ρ → n < j → Wl (m + n * d) c → l.length = n → (∀ y ∈ l, R y) → ∃ ρ' y c', M ρ' ∧ b ρ (st c l) = .ok (.nx ρ') (st c' (l ++ [y])) ∧ Wl (m + n * d + d) c' ∧ R y) :
    ∃ ρ' c' l, M ρ' ∧ sFor it t b ρ0 μ1 = .ok (.nx ρ') (st c' l) ∧ Wl (m + j * d) c' ∧ l.length = j ∧ ∀ y ∈ l, R y := by
  have main := for_run (t := t) (b := b) (fun n ρ' μ' => n ≤ j ∧ M ρ' ∧ ∃ c' l, μ' = st c' l ∧ Wl (m + n * d) c' ∧ l.length = n ∧ ∀ y ∈ l, R y) hit
    ⟨Nat.zero_le _, hM, c, [], rfl, by simpa using w, rfl, fun y hy => by cases hy⟩ (fun n x ρ' μ' hx ⟨hn, hm, c', l, d2, w', hl, hr⟩ => ?_)
  · obtain ⟨ρ', μ', e, hn, hm, c', l, rfl, w', hl, hr⟩ := main
    rw [intL_len] at hl w'
    exact ⟨ρ', c', l, hm, e, w', hl, hr⟩
  · subst d2
    have hn2 : n < j := by
      have := (List.getElem?_eq_some_iff.mp hx).1
      rwa [intL_len] at this
    obtain ⟨ρ1, et, hm1⟩ := ht (.d x) ρ' (st c' l) hm
    obtain ⟨ρ2, y, c2, hm2, eb, w2, r2⟩ := hb ρ1 c' n l hm1 hn2 w' hl hr
    refine ⟨_, _, _, _, et, eb, hn2, hm2, c2, l ++ [y], rfl, ?_, by rw [List.length_append, hl]; rfl, fun z hz => ?_⟩
    · rw [Nat.succ_mul, ← Nat.add_assoc]
      exact w2
    · rcases List.mem_append.mp hz with hz | hz
      · exact hr z hz
      · simp at hz
        rw [hz]
        exact r2
section
variable {μ : Mu} {k : Nat}
/-- a store: the well, two lists -/
abbrev s2 (μ : Mu) (k : Nat) (c a b : Cell) : Mu := μ.set k (some c) ++ [some a, some b]
variable {c c' a b : Cell}
theorem s2_well (hk : k < μ.length) : (s2 μ k c a b)[k]? = some (some c) := by
  unfold s2
  rw [List.getElem?_append_left (by rw [List.length_set]; exact hk), List.getElem?_set_self hk]
theorem s2_set (hk : k < μ.length) : (s2 μ k c a b).set k (some c') = s2 μ k c' a b := by
  unfold s2
  rw [List.set_append_left _ _ (by rw [List.length_set]; exact hk), List.set_set]
theorem s2_a : (s2 μ k c a b)[μ.length]? = some (some a) := by
  unfold s2
  rw [List.getElem?_append_right (by rw [List.length_set]; exact Nat.le_refl _), List.length_set, Nat.sub_self]
  rfl
theorem s2_b : (s2 μ k c a b)[μ.length + 1]? = some (some b) := by
  unfold s2
  rw [List.getElem?_append_right (by rw [List.length_set]; omega), List.length_set, show μ.length + 1 - μ.length = 1 by omega]
  rfl
theorem s2_seta {x : Cell} : (s2 μ k c a b).set μ.length (some x) = s2 μ k c x b := by
  unfold s2
  rw [List.set_append_right _ _ (by rw [List.length_set]; exact Nat.le_refl _), List.length_set, Nat.sub_self]
  rfl
theorem s2_setb {x : Cell} : (s2 μ k c a b).set (μ.length + 1) (some x) = s2 μ k c a x := by
  unfold s2
  rw [List.set_append_right _ _ (by rw [List.length_set]; omega), List.length_set, show μ.length + 1 - μ.length = 1 by omega]
  rfl
end
abbrev rr (k m : Nat) (o1 o2 o3 o4 o7 o8 o9 o10 o11 : Option Wv) : Rho := [some (.r k), o1, o2, o3, o4, some (.r m), some (.r (m + 1)), o7, o8, o9, o10, o11]
/-- the drawn polynomial of degree 1 to 3 -/
structure DrP (P : Pol) : Prop where
  t : TP P
  l : 2 ≤ P.length ∧ P.length ≤ 4
  r : ∀ r ∈ P, RB3 3 19 r
theorem rb_of {n : Nat} {a : List Int} (h1 : trim a = a) (h2 : a.length ≤ n) (h3 : BM 500000 a) : RB3 n 19 a := ⟨h1, h2, h3.up (by decide)⟩
noncomputable def W2 : Sv := sFor (iR1 (aCons (e2 gPlus (eK (.int 1)) (cF 2 f_law_draw (aCons (eVar 0) (aCons (eK (.int 3)) aNil)))) aNil)) (gNm 1) (sExpr (eMeth1 gApp (eVar 5) (aCons (cF 2 f_law_row (aCons (eVar 0) (aCons (eK (.int 3)) aNil))) aNil)))
noncomputable def W3 : Sv := sAsg (cF 2 f_law_row (aCons (eVar 0) (aCons (eK (.int 2)) aNil))) (gNm 2)
noncomputable def W4h : Ev := eIf (tB' (e2 (gEq true) (eVar 2) (eTup aNil))) (eVar 2) (eTup (aCons (eK (.int 1)) aNil))
noncomputable def W4 : Sv := sAsg (e2 gPlus (en gTuple (aCons (eVar 5) aNil)) (eTup (aCons W4h aNil))) (gNm 3)
theorem w234 {μ : Mu} {k m : Nat} {c : Cell} (hk : k < μ.length) (w : Wl m c) (hm : m < 700000000) (R : Sv) : ∃ P o1 o2 c' a, sSeq W2 (sSeq W3 (sSeq W4 R)) (rr k μ.length none none none none none none none none none) (s2 μ k c [] []) = R (rr k μ.length o1 o2 (some (.d (Pl P))) none none none none none none) (s2 μ k c' a []) ∧ Wl (m + 13000) c' ∧ DrP P := by
  obtain ⟨j, c1, d1, j0, j1, w1⟩ := t_draw (many := 3) (s2_well (a := []) (b := []) (c := c) hk) w (by omega) (by omega) (by omega)
  rw [s2_set hk] at d1
  obtain ⟨ρ', c2, l, ⟨o1, rfl⟩, d2, w2, hl, hr⟩ := fillS (st := fun c l => s2 μ k c l []) (M := fun ρ => ∃ o1, ρ = rr k μ.length o1 none none none none none none none none) (m := m + 1) (d := 3000) (j := (1 + j).toNat) (it := iR1 (aCons (e2 gPlus (eK (.int 1)) (cF 2 f_law_draw (aCons (eVar 0) (aCons (eK (.int 3)) aNil)))) aNil)) (t := gNm 1) (b := sExpr (eMeth1 gApp (eVar 5) (aCons (cF 2 f_law_row (aCons (eVar 0) (aCons (eK (.int 3)) aNil))) aNil))) (R := RowO 3 500000) (c := c1) (ρ0 := rr k μ.length none none none none none none none none none) (μ1 := s2 μ k c [] [])
    (by omega) (it_r1 (j := 1 + j) (by simp only [x_cons, x_nil, TL.x_e2, x_k, Out.bind_ok, x_cF, x_v0, List.length_cons, List.length_nil, Nat.reduceAdd, if_true, d1, v_plus, x_calm]) (by omega) (by omega)) ⟨none, rfl⟩ w1 (fun w ρ μ ⟨o1, e⟩ => by subst e; exact ⟨_, rfl, some w, rfl⟩) (fun ρ c n l ⟨o1, e⟩ hn w hl _ => by
      subst e
      have hd : n * 3000 ≤ 9000 := by omega
      obtain ⟨y, c3, e3, w3, r3⟩ := t_row (many := 3) (s2_well (a := l) (b := []) (c := c) hk) w (by omega) (by omega) (by omega)
      rw [s2_set hk] at e3
      have lv : live (.r μ.length) (s2 μ k c l []) = true := live_r s2_a
      have ap := v_app (x := y) (s2_a (μ := μ) (k := k) (c := c3) (a := l) (b := [])) (by omega)
      rw [s2_seta] at ap
      refine ⟨rr k μ.length o1 none none none none none none none none, y, c3, ⟨o1, rfl⟩, ?_, w3, r3⟩
      show sExpr _ (rr k μ.length o1 none none none none none none none none) (s2 μ k c l []) = .ok (.nx (rr k μ.length o1 none none none none none none none none)) (s2 μ k c3 (l ++ [y]) [])
      generalize s2 μ k c l [] = ν1 at *
      generalize s2 μ k c3 (l ++ [y]) [] = ν3 at *
      generalize s2 μ k c3 l [] = ν2 at *
      simp [x_meth, lv, e3, ap])
  obtain ⟨A, rfl, p1, p2, p3⟩ := rows_list hr
  rw [Lp_len] at hl
  obtain ⟨y, c3, d3, w3, hd, rfl, q1, q2, q3⟩ := t_row (many := 2) (s2_well (a := Lp A) (b := []) (c := c2) hk) w2 (by omega) (by omega) (by omega)
  rw [s2_set hk] at d3
  have q2 : hd.length ≤ 2 := q2
  have tA : gTuple [.r μ.length] (s2 μ k c3 (Lp A) []) = .ok (.d (.tuple (Lp A))) (s2 μ k c3 (Lp A) []) := v_tupr s2_a
  -- the head
  have key : ∃ hd' : List Int, trim hd' = hd' ∧ hd' ≠ [] ∧ RB3 3 19 hd' ∧ W4h (rr k μ.length o1 (some (.d (Rw' hd))) none none none none none none none) (s2 μ k c3 (Lp A) []) = .ok (.d (Rw' hd')) (s2 μ k c3 (Lp A) []) := by
    by_cases he : hd = []
    · subst he
      refine ⟨[1], by decide, by decide, (RB3.one (b := 0) (by decide) (by decide)).up (by decide) (by decide), ?_⟩
      have : eqP (Rw' []) (.tuple []) = some true := rfl
      unfold W4h
      simp [this]
    · refine ⟨hd, q1, he, (rb_of q1 q2 q3).up (by decide) (Nat.le_refl _), ?_⟩
      have : eqP (Rw' hd) (.tuple []) = some false := by
        have h1 : eqP (Rw' hd) (.tuple []) = some (Li hd).isEmpty := eq_tt
        rw [h1, Li_empty]
        cases hd with
        | nil => exact absurd rfl he
        | cons x y => rfl
      generalize Rw' hd = H at *
      unfold W4h
      simp [this]
  obtain ⟨hd', h1, h2, h3, h4⟩ := key
  have pl : gPlus (.d (.tuple (Lp A))) (.d (.tuple [Rw' hd'])) (s2 μ k c3 (Lp A) []) = .ok (.d (Pl (A ++ [hd']))) (s2 μ k c3 (Lp A) []) := by
    rw [v_plusT, if_pos (by rw [Lp_len, List.length_singleton]; omega)]
    have : Lp A ++ [Rw' hd'] = Lp (A ++ [hd']) := by
      unfold Lp
      rw [List.map_append]
      rfl
    rw [this]
  refine ⟨A ++ [hd'], o1, some (.d (Rw' hd)), c3, Lp A, ?_, w3.up (by omega), ⟨⟨trimP_last _ _ h2, fun r hr => ?_⟩, by rw [List.length_append, List.length_singleton]; omega, fun r hr => ?_⟩⟩
  · have s3 : W3 (rr k μ.length o1 none none none none none none none none) (s2 μ k c2 (Lp A) []) = .ok (.nx (rr k μ.length o1 (some (.d (Rw' hd))) none none none none none none none)) (s2 μ k c3 (Lp A) []) := by
      unfold W3
      generalize s2 μ k c2 (Lp A) [] = ν1 at *
      generalize s2 μ k c3 (Lp A) [] = ν2 at *
      generalize Rw' hd = H at *
      simp [d3]
    have s4 : W4 (rr k μ.length o1 (some (.d (Rw' hd))) none none none none none none none) (s2 μ k c3 (Lp A) []) = .ok (.nx (rr k μ.length o1 (some (.d (Rw' hd))) (some (.d (Pl (A ++ [hd'])))) none none none none none none)) (s2 μ k c3 (Lp A) []) := by
      unfold W4
      generalize Pl (A ++ [hd']) = PP at *
      generalize s2 μ k c3 (Lp A) [] = ν2 at *
      generalize Rw' hd = H at *
      generalize Rw' hd' = H' at *
      generalize Lp A = LA at *
      simp [-v_plusT, h4, tA, pl]
    have d2' : W2 (rr k μ.length none none none none none none none none none) (s2 μ k c [] []) = .ok (.nx (rr k μ.length o1 none none none none none none none none)) (s2 μ k c2 (Lp A) []) := d2
    rw [seq_ok d2', seq_ok s3, seq_ok s4]
  · rcases List.mem_append.mp hr with hr | hr
    · exact p1 r hr
    · cases List.mem_singleton.mp hr
      exact h1
  · rcases List.mem_append.mp hr with hr | hr
    · exact rb_of (p1 r hr) (p2 r hr) (p3 r hr)
    · cases List.mem_singleton.mp hr
      exact h3
end LW
namespace LW
open PySem PySem.Spec TL
open L2 (atI ixN)
def itm (p : List Int × List Int) : PyData := .tuple [Rw' p.1, Rw' p.2]
noncomputable def W5u : Ev := eIf (tB' (e2 (gCmp fun i j => decide (j < i)) (cF 2 f_law_draw (aCons (eVar 0) (aCons (eK (.int 5)) aNil))) (eK (.int 0)))) (eTup (aCons (cF 2 f_law_pick (aCons (eVar 0) (aCons (eTup (aCons (eK (.int 1)) (aCons (eK (.int 1)) (aCons (e1 gNeg (eK (.int 1))) (aCons (eK (.int 2)) (aCons (eK (.int 1)) aNil)))))) aNil))) aNil)) (eTup (aCons (e2 gSub (cF 2 f_law_draw (aCons (eVar 0) (aCons (eK (.int 5)) aNil))) (eK (.int 2))) (aCons (eK (.int 1)) aNil)))
noncomputable def W5a : Sv := sExpr (eMeth1 gApp (eVar 6) (aCons (eTup (aCons (eVar 7) (aCons (cF 2 f_law_row (aCons (eVar 0) (aCons (eK (.int 2)) aNil))) aNil))) aNil))
noncomputable def W5b : Sv := sSeq (sAsg W5u (gNm 7)) W5a
noncomputable def W5 : Sv := sFor (iR1 (aCons (e2 gPlus (eK (.int 2)) (cF 2 f_law_draw (aCons (eVar 0) (aCons (eK (.int 3)) aNil)))) aNil)) (gNm 1) W5b
noncomputable def W6s : Sv := sAsg (eTup (aCons (cF 2 f_law_scaled (aCons (e2 gIx (e2 gIx (eVar 6) (eK (.int 0))) (eK (.int 0))) (aCons (eK (.int 3)) aNil))) (aCons (cF 2 f_law_scaled (aCons (e2 gIx (e2 gIx (eVar 6) (eK (.int 0))) (eK (.int 1))) (aCons (eK (.int 3)) aNil))) aNil))) (gSb (eVar 6) (e1 gNeg (eK (.int 1))))
noncomputable def W6 : Sv := sIf (tB' (e2 (gEq false) (cF 2 f_law_draw (aCons (eVar 0) (aCons (eK (.int 6)) aNil))) (eK (.int 0)))) W6s sNext
theorem w5u_run {μ : Mu} {k m : Nat} {c a b : Cell} {o1 o2 o3 o4 o7 o8 o9 o10 o11 : Option Wv} (hk : k < μ.length) (w : Wl m c) (hm : m < 600000000) :
    ∃ u c', W5u (rr k μ.length o1 o2 o3 o4 o7 o8 o9 o10 o11) (s2 μ k c a b) = .ok (.d (Rw' u)) (s2 μ k c' a b) ∧ Wl (m + 2) c' ∧ RB3 2 19 u ∧ u ≠ [] := by
  obtain ⟨r, c1, d1, r0, r1, w1⟩ := t_draw (many := 5) (s2_well (a := a) (b := b) hk) w (by omega) (by omega) (by omega)
  rw [s2_set hk] at d1
  by_cases hr : 0 < r
  · obtain ⟨x, c2, d2, w2, hx⟩ := t_pick (xs := [.int 1, .int 1, .int (-1), .int 2, .int 1]) (s2_well (a := a) (b := b) (c := c1) hk) w1 (by omega) (by decide) (by decide)
    rw [s2_set hk] at d2
    have key : ∃ i : Int, x = .int i ∧ i ≠ 0 ∧ i.natAbs ≤ 2 ^ 1 := by
      simp only [List.mem_cons, List.not_mem_nil, or_false] at hx
      rcases hx with rfl | rfl | rfl | rfl | rfl
      · exact ⟨1, rfl, by decide, by decide⟩
      · exact ⟨1, rfl, by decide, by decide⟩
      · exact ⟨-1, rfl, by decide, by decide⟩
      · exact ⟨2, rfl, by decide, by decide⟩
      · exact ⟨1, rfl, by decide, by decide⟩
    obtain ⟨i, rfl, h0, hb⟩ := key
    refine ⟨[i], c2, ?_, w2, (RB3.one h0 hb).up (by decide) (by decide), by simp⟩
    unfold W5u
    generalize s2 μ k c a b = ν0 at *
    generalize s2 μ k c1 a b = ν1 at *
    generalize s2 μ k c2 a b = ν2 at *
    simp [d1, hr, d2]
  · obtain ⟨d, c2, d2, e0, e1', w2⟩ := t_draw (many := 5) (s2_well (a := a) (b := b) (c := c1) hk) w1 (by omega) (by omega) (by omega)
    rw [s2_set hk] at d2
    refine ⟨[d - 2, 1], c2, ?_, w2, ⟨trim_last [d - 2] 1 (by decide), by simp, fun y hy => ?_⟩, by simp⟩
    · unfold W5u
      generalize s2 μ k c a b = ν0 at *
      generalize s2 μ k c1 a b = ν1 at *
      generalize s2 μ k c2 a b = ν2 at *
      simp [d1, hr, d2]
      rfl
    · simp only [List.mem_cons, List.not_mem_nil, or_false] at hy
      rcases hy with rfl | rfl
      · have : (2 : Nat) ^ 19 = 524288 := by decide
        omega
      · decide
/-- an item as drawn -/
def ItO (b : Nat) (y : PyData) : Prop := ∃ u v : List Int, y = itm (u, v) ∧ RB3 2 b u ∧ u ≠ [] ∧ RB3 2 b v
theorem items_list {b : Nat} : ∀ {l : Cell}, (∀ y ∈ l, ItO b y) → ∃ L : Lin, l = L.map itm ∧ ∀ p ∈ L, RB3 2 b p.1 ∧ p.1 ≠ [] ∧ RB3 2 b p.2
  | [], _ => ⟨[], rfl, fun p hp => by cases hp⟩
  | y :: l, h => by
    obtain ⟨u, v, rfl, h1, h2, h3⟩ := h y List.mem_cons_self
    obtain ⟨L, rfl, hL⟩ := items_list (l := l) fun z hz => h z (List.mem_cons_of_mem _ hz)
    refine ⟨(u, v) :: L, rfl, fun p hp => ?_⟩
    rcases List.mem_cons.mp hp with rfl | hp
    · exact ⟨h1, h2, h3⟩
    · exact hL p hp
theorem okL_of {L : Lin} (hl : 2 ≤ L.length ∧ L.length ≤ 4) (h : ∀ p ∈ L, RB3 2 21 p.1 ∧ p.1 ≠ [] ∧ RB3 2 21 p.2) : OkL L := by
  have g : ∀ k, k < L.length → L.getD k ([], []) ∈ L := fun k hk => by
    rw [List.getD_eq_getElem?_getD, List.getElem?_eq_getElem hk]
    exact List.getElem_mem hk
  exact ⟨hl, fun k hk => let ⟨a, b, c⟩ := h _ (g k hk); ⟨a.t, b, a.l, a.b⟩, fun k hk => let ⟨a, b, c⟩ := h _ (g k hk); ⟨c.t, c.l, c.b⟩⟩
theorem scale3_ne {a : List Int} (ha : trim a = a) (hne : a ≠ []) : trim (a.map ((3 : Int) * ·)) ≠ [] := fun z => by
  refine hne (row_hv ha rfl fun x => ?_)
  have h1 := hv_trim (x := (x : Int)) (a.map ((3 : Int) * ·))
  rw [z, hv_scl] at h1
  have h1 : (0 : Int) = 3 * hv (x : Int) a := h1
  show hv (x : Int) a = 0
  omega
theorem w56 {μ : Mu} {k m : Nat} {c a : Cell} {o1 o2 o3 : Option Wv} (hk : k < μ.length) (w : Wl m c) (hm : m < 500000000) (R : Sv) :
    ∃ L o1' o7 c', sSeq W5 (sSeq W6 R) (rr k μ.length o1 o2 o3 none none none none none none) (s2 μ k c a []) = R (rr k μ.length o1' o2 o3 none o7 none none none none) (s2 μ k c' a (L.map itm)) ∧ Wl (m + 20000) c' ∧ OkL L := by
  obtain ⟨j, c1, d1, j0, j1, w1⟩ := t_draw (many := 3) (s2_well (a := a) (b := []) (c := c) hk) w (by omega) (by omega) (by omega)
  rw [s2_set hk] at d1
  obtain ⟨ρ', c2, l, ⟨o1', o7, rfl⟩, d2, w2, hl, hr⟩ := fillS (st := fun c l => s2 μ k c a l) (M := fun ρ => ∃ o1 o7, ρ = rr k μ.length o1 o2 o3 none o7 none none none none) (m := m + 1) (d := 3002) (j := (2 + j).toNat) (it := iR1 (aCons (e2 gPlus (eK (.int 2)) (cF 2 f_law_draw (aCons (eVar 0) (aCons (eK (.int 3)) aNil)))) aNil)) (t := gNm 1) (b := W5b) (R := ItO 19) (c := c1) (ρ0 := rr k μ.length o1 o2 o3 none none none none none none) (μ1 := s2 μ k c a [])
    (by omega) (it_r1 (j := 2 + j) (by simp only [x_cons, x_nil, TL.x_e2, x_k, Out.bind_ok, x_cF, x_v0, List.length_cons, List.length_nil, Nat.reduceAdd, if_true, d1, v_plus, x_calm]) (by omega) (by omega)) ⟨o1, none, rfl⟩ w1 (fun w ρ μ ⟨o1, o7, e⟩ => by subst e; exact ⟨_, rfl, some w, o7, rfl⟩) (fun ρ c n l ⟨o1, o7, e⟩ hn w hl _ => by
      subst e
      have hd : n * 3002 ≤ 15010 := by omega
      obtain ⟨u, c3, e3, w3, hu, hu2⟩ := w5u_run (μ := μ) (k := k) (a := a) (b := l) (o1 := o1) (o2 := o2) (o3 := o3) (o4 := none) (o7 := o7) (o8 := none) (o9 := none) (o10 := none) (o11 := none) hk w (by omega)
      obtain ⟨y, c4, e4, w4, v, rfl, q1, q2, q3⟩ := t_row (many := 2) (s2_well (a := a) (b := l) (c := c3) hk) w3 (by omega) (by omega) (by omega)
      rw [s2_set hk] at e4
      have q2 : v.length ≤ 2 := q2
      have lv : live (.r (μ.length + 1)) (s2 μ k c3 a l) = true := live_r s2_b
      have ap := v_app (x := itm (u, v)) (s2_b (μ := μ) (k := k) (c := c4) (a := a) (b := l)) (by omega)
      rw [s2_setb] at ap
      refine ⟨rr k μ.length o1 o2 o3 none (some (.d (Rw' u))) none none none none, itm (u, v), c4, ⟨o1, _, rfl⟩, ?_, w4.up (by omega), u, v, rfl, hu, hu2, rb_of q1 q2 q3⟩
      show W5b (rr k μ.length o1 o2 o3 none o7 none none none none) (s2 μ k c a l) = .ok (.nx (rr k μ.length o1 o2 o3 none (some (.d (Rw' u))) none none none none)) (s2 μ k c4 a (l ++ [itm (u, v)]))
      have sa : sAsg W5u (gNm 7) (rr k μ.length o1 o2 o3 none o7 none none none none) (s2 μ k c a l) = .ok (.nx (rr k μ.length o1 o2 o3 none (some (.d (Rw' u))) none none none none)) (s2 μ k c3 a l) := asg_ok e3
      unfold W5b
      rw [seq_ok sa]
      unfold W5a itm
      unfold itm at ap
      show sExpr _ _ _ = _
      simp only [show ((u, v) : List Int × List Int).1 = u from rfl, show ((u, v) : List Int × List Int).2 = v from rfl] at ap ⊢
      generalize s2 μ k c3 a l = ν1 at *
      generalize s2 μ k c4 a (l ++ [PyData.tuple [Rw' u, Rw' v]]) = ν3 at *
      generalize s2 μ k c4 a l = ν2 at *
      generalize Rw' u = U at *
      generalize Rw' v = V at *
      simp [x_meth, lv, e4, ap])
  obtain ⟨L0, rfl, hL⟩ := items_list hr
  rw [List.length_map] at hl
  have d2' : W5 (rr k μ.length o1 o2 o3 none none none none none none) (s2 μ k c a []) = .ok (.nx (rr k μ.length o1' o2 o3 none o7 none none none none)) (s2 μ k c2 a (L0.map itm)) := d2
  obtain ⟨r, c3, d3, r0, r1, w3⟩ := t_draw (many := 6) (s2_well (a := a) (b := L0.map itm) (c := c2) hk) w2 (by omega) (by omega) (by omega)
  rw [s2_set hk] at d3
  by_cases hr0 : r = 0
  · subst hr0
    match hL0 : L0, hl, hL with
    | [], hl, _ => simp at hl; omega
    | p0 :: L1, hl, hL =>
      obtain ⟨h1, h2, h3⟩ := hL p0 List.mem_cons_self
      have sU := t_law_scaled (μ := s2 μ k c3 a ((p0 :: L1).map itm)) (xs := p0.1) (k := 3) (Nat.le_trans h1.l (by decide)) (Sml.of (k := 2) (by decide) (by decide)) (h1.sm (by decide))
      have sV := t_law_scaled (μ := s2 μ k c3 a ((p0 :: L1).map itm)) (xs := p0.2) (k := 3) (Nat.le_trans h3.l (by decide)) (Sml.of (k := 2) (by decide) (by decide)) (h3.sm (by decide))
      have g0 : gIx (.r (μ.length + 1)) (.d (.int 0)) (s2 μ k c3 a ((p0 :: L1).map itm)) = .ok (.d (.tuple [Rw' p0.1, Rw' p0.2])) (s2 μ k c3 a ((p0 :: L1).map itm)) := by
        rw [v_ixr s2_b, List.map_cons, at_0]
        rfl
      have st : setC (.r (μ.length + 1)) (.d (.int (-1))) (.d (itm (trim (p0.1.map (3 * ·)), trim (p0.2.map (3 * ·))))) (s2 μ k c3 a ((p0 :: L1).map itm)) = .ok () (s2 μ k c3 a (((p0 :: L1).set L1.length (trim (p0.1.map (3 * ·)), trim (p0.2.map (3 * ·)))).map itm)) := by
        rw [v_setc s2_b]
        have : ixN ((p0 :: L1).map itm).length (-1) = some L1.length := by
          unfold ixN
          rw [if_neg (by decide), List.length_map, List.length_cons, if_pos (by omega)]
          congr 1
          omega
        rw [this]
        show Out.ok () ((s2 μ k c3 a ((p0 :: L1).map itm)).set (μ.length + 1) _) = _
        rw [s2_setb, List.map_set]
      refine ⟨(p0 :: L1).set L1.length (trim (p0.1.map (3 * ·)), trim (p0.2.map (3 * ·))), o1', o7, c3, ?_, w3.up (by omega), okL_of (by rw [List.length_set]; omega) fun p hp => ?_⟩
      · rw [seq_ok d2']
        have s6 : W6 (rr k μ.length o1' o2 o3 none o7 none none none none) (s2 μ k c2 a ((p0 :: L1).map itm)) = .ok (.nx (rr k μ.length o1' o2 o3 none o7 none none none none)) (s2 μ k c3 a (((p0 :: L1).set L1.length (trim (p0.1.map (3 * ·)), trim (p0.2.map (3 * ·)))).map itm)) := by
          have ex : W6s (rr k μ.length o1' o2 o3 none o7 none none none none) (s2 μ k c3 a ((p0 :: L1).map itm)) = .ok (.nx (rr k μ.length o1' o2 o3 none o7 none none none none)) (s2 μ k c3 a (((p0 :: L1).set L1.length (trim (p0.1.map (3 * ·)), trim (p0.2.map (3 * ·)))).map itm)) := by
            unfold W6s
            have st' : setC (.r (μ.length + 1)) (.d (.int (-1))) (.d (.tuple [Rw' (trim (p0.1.map (3 * ·))), Rw' (trim (p0.2.map (3 * ·)))])) (s2 μ k c3 a ((p0 :: L1).map itm)) = .ok () (s2 μ k c3 a (((p0 :: L1).set L1.length (trim (p0.1.map (3 * ·)), trim (p0.2.map (3 * ·)))).map itm)) := st
            generalize s2 μ k c3 a (((p0 :: L1).set L1.length (trim (p0.1.map (3 * ·)), trim (p0.2.map (3 * ·)))).map itm) = ν4 at *
            generalize s2 μ k c3 a ((p0 :: L1).map itm) = ν3 at *
            generalize Rw' (trim (p0.1.map (3 * ·))) = U3 at *
            generalize Rw' (trim (p0.2.map (3 * ·))) = V3 at *
            generalize Rw' p0.1 = U at *
            generalize Rw' p0.2 = V at *
            simp [g0, sU, sV, st']
          unfold W6
          generalize s2 μ k c3 a (((p0 :: L1).set L1.length (trim (p0.1.map (3 * ·)), trim (p0.2.map (3 * ·)))).map itm) = ν4 at *
          generalize s2 μ k c3 a ((p0 :: L1).map itm) = ν3 at *
          generalize s2 μ k c2 a ((p0 :: L1).map itm) = ν2 at *
          simp [d3, ex]
        rw [seq_ok s6]
      · rcases List.mem_or_eq_of_mem_set hp with hp | rfl
        · obtain ⟨a1, a2, a3⟩ := hL p hp
          exact ⟨a1.up (Nat.le_refl _) (by decide), a2, a3.up (Nat.le_refl _) (by decide)⟩
        · exact ⟨h1.scale (by decide), scale3_ne h1.t h2, h3.scale (by decide)⟩
  · refine ⟨L0, o1', o7, c3, ?_, w3.up (by omega), okL_of (by omega) fun p hp => let ⟨a1, a2, a3⟩ := hL p hp; ⟨a1.up (Nat.le_refl _) (by decide), a2, a3.up (Nat.le_refl _) (by decide)⟩⟩
    rw [seq_ok d2']
    have s6 : W6 (rr k μ.length o1' o2 o3 none o7 none none none none) (s2 μ k c2 a (L0.map itm)) = .ok (.nx (rr k μ.length o1' o2 o3 none o7 none none none none)) (s2 μ k c3 a (L0.map itm)) := by
      unfold W6
      simp [d3, hr0]
    rw [seq_ok s6]
end LW
namespace LW
open PySem PySem.Spec TL
open L2 (atI ixN)
/-- may be shown: N parts, D deep -/
structure Shb (N D : Nat) (x : PyData) : Prop where
  sh : x.showable = true
  ls : x.leavesShort 1921 = true
  w : x.bulk ≤ N
  d : x.depth ≤ D
  nd : x.hasDict = false
structure ShbAll (N D : Nat) (xs : List PyData) : Prop where
  sh : PyData.showableAll xs = true
  ls : PyData.leavesShortAll 1921 xs = true
  w : PyData.bulkAll xs ≤ N
  d : PyData.depthAll xs ≤ D
  nd : PyData.hasDictAll xs = false
theorem Shb.ok {N D : Nat} {x : PyData} (h : Shb N D x) (hN : N ≤ 8000) (hD : D ≤ 60) : reprOk x = true := by
  have h1 := PyData.shown_le_bulk 1921 (by omega) x h.ls
  have h2 : (1921 + 2) * x.bulk ≤ 1923 * 8000 := Nat.mul_le_mul_left _ (Nat.le_trans h.w hN)
  unfold reprOk
  rw [h.sh, h.nd, decide_eq_true (show x.shown.length ≤ 16777216 by omega), decide_eq_true (show x.depth ≤ 60 from Nat.le_trans h.d hD)]
  rfl
theorem Shb.repr {N D : Nat} {x : PyData} {μ : Mu} (h : Shb N D x) (hN : N ≤ 8000) (hD : D ≤ 60) : gRepr [.d x] μ = .ok (.d (.str x.shown)) μ := by
  show (if reprOk x = true then Out.ok (wS x.shown) μ else Out.bad) = _
  rw [if_pos (h.ok hN hD)]
theorem Shb.reprC {N D : Nat} {xs : List PyData} {μ : Mu} {k : Nat} (h : Shb N D (.list xs)) (hN : N ≤ 8000) (hD : D ≤ 60) (hk : μ[k]? = some (some xs)) : gRepr [.r k] μ = .ok (.d (.str (PyData.list xs).shown)) μ := by
  show (match dataOf μ (.r k) with
    | some x => if reprOk x = true then Out.ok (wS x.shown) μ else .bad
    | none => .bad) = _
  rw [x_dr hk]
  show (if reprOk (.list xs) = true then Out.ok (wS (PyData.list xs).shown) μ else Out.bad) = _
  rw [if_pos (h.ok hN hD)]
theorem ShbAll.nil {N D : Nat} : ShbAll N D [] := ⟨rfl, rfl, Nat.zero_le _, Nat.zero_le _, rfl⟩
theorem ShbAll.cons {N D N2 : Nat} {x : PyData} {xs : List PyData} (h : Shb N D x) (t : ShbAll N2 D xs) : ShbAll (N + 1 + N2) D (x :: xs) := by
  refine ⟨?_, ?_, ?_, ?_, ?_⟩
  · simp [PyData.showableAll, h.sh, t.sh]
  · simp [PyData.leavesShortAll, h.ls, t.ls]
  · have := h.w
    have := t.w
    simp only [PyData.bulkAll]
    omega
  · have := h.d
    have := t.d
    simp only [PyData.depthAll]
    omega
  · simp [PyData.hasDictAll, h.nd, t.nd]
theorem ShbAll.of {N D : Nat} : ∀ {xs : List PyData}, (∀ x ∈ xs, Shb N D x) → ShbAll (xs.length * (N + 1)) D xs
  | [], _ => .nil
  | x :: xs, h => by
    have := ShbAll.cons (h x List.mem_cons_self) (ShbAll.of fun y hy => h y (List.mem_cons_of_mem _ hy))
    rw [List.length_cons, Nat.succ_mul]
    rwa [Nat.add_comm (N + 1)] at this
theorem Shb.list {N D : Nat} {xs : List PyData} (t : ShbAll N D xs) : Shb N (D + 1) (.list xs) := by
  refine ⟨t.sh, t.ls, ?_, ?_, t.nd⟩
  · simp only [PyData.bulk]
    exact t.w
  · have := t.d
    simp only [PyData.depth]
    omega
theorem Shb.tuple {N D : Nat} {xs : List PyData} (t : ShbAll N D xs) : Shb N (D + 1) (.tuple xs) := by
  refine ⟨t.sh, t.ls, ?_, ?_, t.nd⟩
  · simp only [PyData.bulk]
    exact t.w
  · have := t.d
    simp only [PyData.depth]
    omega
theorem Shb.up {N D N2 D2 : Nat} {x : PyData} (h : Shb N D x) (hN : N ≤ N2) (hD : D ≤ D2) : Shb N2 D2 x := ⟨h.sh, h.ls, Nat.le_trans h.w hN, Nat.le_trans h.d hD, h.nd⟩
theorem ShbAll.up {N D N2 D2 : Nat} {x : List PyData} (h : ShbAll N D x) (hN : N ≤ N2) (hD : D ≤ D2) : ShbAll N2 D2 x := ⟨h.sh, h.ls, Nat.le_trans h.w hN, Nat.le_trans h.d hD, h.nd⟩
theorem Shb.bool {b : Bool} : Shb 0 0 (.bool b) := ⟨rfl, rfl, Nat.le_refl _, Nat.le_refl _, rfl⟩
theorem Shb.none : Shb 0 0 .none := ⟨rfl, rfl, Nat.le_refl _, Nat.le_refl _, rfl⟩
theorem Shb.int {i : Int} (h : i.natAbs < 2 ^ 1920) : Shb 0 0 (.int i) := by
  have hl2 : i.natAbs.log2 < 1920 := by
    by_cases hz : i.natAbs = 0
    · rw [hz]
      decide
    · exact (Nat.log2_lt hz).mpr h
  refine ⟨by simp [PyData.showable, hl2], ?_, Nat.le_refl _, Nat.le_refl _, rfl⟩
  simp only [PyData.leavesShort, decide_eq_true_eq]
  exact PyProof.Rows.int_text_len_1921 hl2
theorem Shb.row {a : List Int} {M k n : Nat} (h : BM M a) (hM : M ≤ 2 ^ k) (hk : k ≤ 1915) (hn : a.length ≤ n) : Shb n 1 (Rw' a) := by
  have := ShbAll.of (N := 0) (D := 0) (xs := Li a) fun x hx => by
    obtain ⟨i, hi, rfl⟩ := Li_mem hx
    exact Shb.int (Nat.lt_of_le_of_lt (Nat.le_trans (h i hi) hM) (Nat.pow_lt_pow_right (by omega) (by omega)))
  rw [Li_len] at this
  exact (Shb.tuple this).up (by omega) (by omega)
theorem Shb.pol {P : Pol} {M k l n : Nat} (h : PB M P) (hM : M ≤ 2 ^ k) (hk : k ≤ 1915) (hn : PL n P) (hl : P.length ≤ l) : Shb (l * (n + 1)) 2 (Pl P) := by
  have := ShbAll.of (N := n) (D := 1) (xs := Lp P) fun x hx => by
    obtain ⟨r, hr, rfl⟩ := Lp_mem hx
    exact Shb.row (h r hr) hM hk (hn r hr)
  rw [Lp_len] at this
  exact (Shb.tuple this).up (Nat.mul_le_mul_right _ hl) (by omega)
theorem Shb.frac {q : Rat} {k : Nat} (h : RB k q) (hk : k ≤ 1915) : Shb 2 1 (Fq q) := by
  have i1 : q.num.natAbs < 2 ^ 1920 := Nat.lt_of_le_of_lt h.1 (Nat.pow_lt_pow_right (by omega) (by omega))
  have i2 : ((q.den : Nat) : Int).natAbs < 2 ^ 1920 := by
    rw [Int.natAbs_natCast]
    exact Nat.lt_of_le_of_lt h.2 (Nat.pow_lt_pow_right (by omega) (by omega))
  exact (Shb.tuple (ShbAll.cons (Shb.int i1) (ShbAll.cons (Shb.int i2) (ShbAll.nil (N := 0))))).up (by omega) (by omega)
end LW
namespace LW
open PySem PySem.Spec TL
open L2 (atI ixN)
noncomputable def W1 : Sv := sPar 5 6 (aCons (eNew (lDisp aNil)) (aCons (eNew (lDisp aNil)) aNil))
noncomputable def W7 : Sv := sPar 8 9 (aCons (cF 2 f_law_pick (aCons (eVar 0) (aCons (eTup (aCons (eK (.int 1)) (aCons (e1 gNeg (eK (.int 1))) (aCons (eK (.int 2)) (aCons (eK (.int 1)) (aCons (e1 gNeg (eK (.int 3))) aNil)))))) aNil))) (aCons (eTup (aCons (eK (.int 1)) aNil)) aNil))
noncomputable def W8 : Sv := sAsg (eTup (aCons (eTup (aCons (eVar 8) aNil)) aNil)) (gNm 4)
noncomputable def W9t : Sv := sAsg (cF 2 f_law_poly_times (aCons (eVar 4) (aCons (eTup (aCons (e2 gIx (e2 gIx (eVar 6) (eVar 1)) (eK (.int 1))) (aCons (e2 gIx (e2 gIx (eVar 6) (eVar 1)) (eK (.int 0))) aNil))) aNil))) (gNm 4)
noncomputable def W9g : Sv := sAsg (cF 2 f_law_row_less (aCons (cF 2 f_law_row_times (aCons (e2 gIx (e2 gIx (eVar 6) (eVar 1)) (eK (.int 0))) (aCons (e2 gIx (e2 gIx (eVar 6) (eVar 10)) (eK (.int 1))) aNil))) (aCons (cF 2 f_law_row_times (aCons (e2 gIx (e2 gIx (eVar 6) (eVar 1)) (eK (.int 1))) (aCons (e2 gIx (e2 gIx (eVar 6) (eVar 10)) (eK (.int 0))) aNil))) aNil))) (gNm 11)
noncomputable def W9d : Sv := sAsg (cF 2 f_law_all (aCons (eK (.int 1)) (aCons (eFrz (lDisp (aCons (eVar 9) (aCons (eVar 11) (aCons (eVar 11) aNil))))) aNil))) (gNm 9)
noncomputable def W9i : Sv := sFor (iR1 (aCons (eVar 1) aNil)) (gNm 10) (sSeq W9g W9d)
noncomputable def W9 : Sv := sFor (iR1 (aCons (en gLen (aCons (eVar 6) aNil)) aNil)) (gNm 1) (sSeq W9t W9i)
noncomputable def W10b : Sv := sAsg (cF 2 f_law_scaled (aCons (eVar 9) (aCons (eVar 8) aNil))) (gNm 9)
noncomputable def W10 : Sv := sFor (iR1 (aCons (e2 gSub (e2 gTimes (eK (.int 2)) (en gLen (aCons (eVar 6) aNil))) (eK (.int 2))) aNil)) (gNm 1) W10b
noncomputable def W11 : Sv := sRet (e2 (gEq false) (en gRepr (aCons (eFrz (lDisp (aCons (cF 1 f_discriminant (aCons (eVar 3) aNil)) (aCons (cFK [0] 1 f_discriminant (aCons (eVar 4) aNil)) aNil)))) aNil)) (en gRepr (aCons (eFrz (lDisp (aCons (cF 1 f_law_formula (aCons (eVar 3) aNil)) (aCons (eVar 9) aNil)))) aNil)))
theorem W_is : b_law_right = sSeq W1 (sSeq W2 (sSeq W3 (sSeq W4 (sSeq W5 (sSeq W6 (sSeq W7 (sSeq W8 (sSeq W9 (sSeq W10 W11))))))))) := rfl
section
variable {ν : Mu} {m : Nat} {L : Lin} {k0 : Nat} {o1 o2 o3 o4 o7 o8 o9 o10 o11 : Option Wv}
/-- the store holds the factors -/
abbrev HasL (ν : Mu) (m : Nat) (L : Lin) : Prop := ν[m + 1]? = some (some (L.map itm))
theorem ix_item (h : HasL ν m L) {k : Nat} (hk : k < L.length) : gIx (.r (m + 1)) (.d (.int (k : Int))) ν = .ok (.d (.tuple [Rw' (uu L k), Rw' (vv L k)])) ν := by
  rw [v_ixr h]
  have : atI (L.map itm) (k : Int) = some (itm (L.getD k ([], []))) := at_n (by
    rw [List.getElem?_map, List.getD_eq_getElem?_getD, List.getElem?_eq_getElem hk]
    rfl)
  rw [this]
  rfl
def gapR (L : Lin) (k n : Nat) : List Int := trim (addP (mulP (uu L k) (vv L n)) (trim ((mulP (vv L k) (uu L n)).map ((-1 : Int) * ·))))
theorem gapR_val {x : Int} {k n : Nat} : hv x (gapR L k n) = gpv L x k n := by
  unfold gapR gpv
  rw [hv_trim, hv_addP, hv_trim, hv_scl, hv_mulP, hv_mulP]
  omega
theorem okU (h : OkL L) {k : Nat} (hk : k < L.length) : RB3 2 21 (uu L k) := let ⟨a, _, b, c⟩ := h.u k hk; ⟨a, b, c⟩
theorem okV (h : OkL L) {k : Nat} (hk : k < L.length) : RB3 2 21 (vv L k) := let ⟨a, b, c⟩ := h.v k hk; ⟨a, b, c⟩
theorem gapR_RB (h : OkL L) {k n : Nat} (hk : k < L.length) (hn : n < L.length) : RB3 4 57 (gapR L k n) :=
  (((okU h hk).mul (okV h hn) (by decide) (by decide)).up (l2 := 4) (b2 := 56) (by decide) (by decide)).add (((okV h hk).mul (okU h hn) (by decide) (by decide)).scale (by decide))
theorem w9g_run (hL : HasL ν m L) (h : OkL L) {k n : Nat} (hk : k < L.length) (hn : n < L.length) : W9g (rr k0 m (some (.d (.int (k : Int)))) o2 o3 o4 o7 o8 o9 (some (.d (.int (n : Int)))) o11) ν = .ok (.nx (rr k0 m (some (.d (.int (k : Int)))) o2 o3 o4 o7 o8 o9 (some (.d (.int (n : Int)))) (some (.d (Rw' (gapR L k n)))))) ν := by
  have i1 := ix_item hL hk
  have i2 := ix_item hL hn
  have t1 := RB3.times (μ := ν) (okU h hk) (okV h hn) (by decide) (by decide) (by decide) (by decide)
  have t2 := RB3.times (μ := ν) (okV h hk) (okU h hn) (by decide) (by decide) (by decide) (by decide)
  have t3 := t_row_less (μ := ν) ((okU h hk).mul (okV h hn) (by decide) (by decide)) ((okV h hk).mul (okU h hn) (by decide) (by decide)) (by decide) (by decide)
  change f_law_row_less [.d (Rw' (mulP (uu L k) (vv L n))), .d (Rw' (mulP (vv L k) (uu L n)))] ν = .ok (.d (Rw' (gapR L k n))) ν at t3
  unfold W9g
  generalize Rw' (gapR L k n) = G at *
  generalize Rw' (mulP (uu L k) (vv L n)) = M1 at *
  generalize Rw' (mulP (vv L k) (uu L n)) = M2 at *
  generalize Rw' (uu L k) = U1 at *
  generalize Rw' (vv L k) = V1 at *
  generalize Rw' (uu L n) = U2 at *
  generalize Rw' (vv L n) = V2 at *
  simp [i1, i2, t1, t2, t3]
def dueN (D G : List Int) : List Int := allP [1] [D, G, G]
theorem dueN_val {x : Int} {D G : List Int} : hv x (dueN D G) = hv x D * hv x G * hv x G := by
  unfold dueN
  rw [hv_allP]
  show (1 + x * 0) * hv x D * hv x G * hv x G = _
  grind
theorem w9d_run {D G : List Int} {l b : Nat} (hD : RB3 l b D) (hG : RB3 4 57 G) (hl : l ≤ 50) (hb : b ≤ 3000) : W9d (rr k0 m o1 o2 o3 o4 o7 o8 (some (.d (Rw' D))) o10 (some (.d (Rw' G)))) ν = .ok (.nx (rr k0 m o1 o2 o3 o4 o7 o8 (some (.d (Rw' (dueN D G)))) o10 (some (.d (Rw' G))))) ν ∧ RB3 (l + 9) (b + 150) (dueN D G) := by
  have h0 : RB3 1 0 [1] := RB3.one (by decide) (by decide)
  have h1 := h0.mul hD (by decide) (by omega)
  have h2 := h1.mul hG (by omega) (by decide)
  have h3 := h2.mul hG (by omega) (by decide)
  have t := t_law_allG (μ := ν) (by' := 1) (L := [D, G, G]) (fun i hi => by
    match i, hi with
    | 0, _ => exact ⟨h0.sm (by decide), by show 1 ≤ 500; decide⟩
    | 1, _ => exact ⟨h1.sm (by omega), Nat.le_trans h1.l (by omega)⟩
    | 2, _ => exact ⟨h2.sm (by omega), Nat.le_trans h2.l (by omega)⟩) (fun a ha => by
    simp only [List.mem_cons, List.not_mem_nil, or_false] at ha
    rcases ha with rfl | rfl | rfl
    · exact ⟨hD.sm (by omega), Nat.le_trans hD.l (by omega)⟩
    · exact ⟨hG.sm (by decide), Nat.le_trans hG.l (by decide)⟩
    · exact ⟨hG.sm (by decide), Nat.le_trans hG.l (by decide)⟩)
  change f_law_all [.d (.int 1), .d (.list [Rw' D, Rw' G, Rw' G])] ν = .ok (.d (Rw' (dueN D G))) ν at t
  refine ⟨?_, h3.up (by omega) (by omega)⟩
  unfold W9d
  generalize Rw' (dueN D G) = N at *
  generalize Rw' D = DD at *
  generalize Rw' G = GG at *
  simp [t]
/-- pairs up to k -/
def sk : Nat → Nat
  | 0 => 0
  | k + 1 => sk k + k
theorem sk_le {k : Nat} (h : k ≤ 4) : sk k ≤ 6 := by
  match k, h with
  | 0, _ => decide
  | 1, _ => decide
  | 2, _ => decide
  | 3, _ => decide
  | 4, _ => decide
theorem w9i_run (hL : HasL ν m L) (h : OkL L) {k : Nat} (hk : k < L.length) {D : List Int} (hD : RB3 (1 + 9 * sk k) (1 + 150 * sk k) D) (hv' : ∀ x : Int, hv x D = Dgv L x k) :
    ∃ D' o10' o11', W9i (rr k0 m (some (.d (.int (k : Int)))) o2 o3 o4 o7 o8 (some (.d (Rw' D))) o10 o11) ν = .ok (.nx (rr k0 m (some (.d (.int (k : Int)))) o2 o3 o4 o7 o8 (some (.d (Rw' D'))) o10' o11')) ν ∧ RB3 (1 + 9 * sk (k + 1)) (1 + 150 * sk (k + 1)) D' ∧ ∀ x : Int, hv x D' = Dgv L x (k + 1) := by
  have hl4 := h.l.2
  have hs := sk_le (k := k + 1) (by omega)
  have hs' : sk (k + 1) = sk k + k := rfl
  have main := for_run (it := iR1 (aCons (eVar 1) aNil)) (xs := intL 0 k 1) (t := gNm 10) (b := sSeq W9g W9d) (ρ := rr k0 m (some (.d (.int (k : Int)))) o2 o3 o4 o7 o8 (some (.d (Rw' D))) o10 o11) (μ := ν) (μ1 := ν)
    (fun n ρ' μ' => n ≤ k ∧ μ' = ν ∧ ∃ D' o10' o11', ρ' = rr k0 m (some (.d (.int (k : Int)))) o2 o3 o4 o7 o8 (some (.d (Rw' D'))) o10' o11' ∧ RB3 (1 + 9 * (sk k + n)) (1 + 150 * (sk k + n)) D' ∧ ∀ x : Int, hv x D' = Dgv L x k * Egv L x k n)
    (it_r1 (j := (k : Int)) (by simp) (by omega) (by omega)) ⟨Nat.zero_le _, rfl, D, o10, o11, rfl, hD, fun x => by rw [hv' x]; exact (Int.mul_one _).symm⟩ (fun n y ρ' μ' hy ⟨hn, f0, D', o10', o11', f1, r, v⟩ => ?_)
  · obtain ⟨ρ', μ', e, _, rfl, D', o10', o11', rfl, r, v⟩ := main
    rw [intL_len] at r v
    exact ⟨D', o10', o11', e, r, v⟩
  · subst f0 f1
    have hn' : n < k := by
      have := (List.getElem?_eq_some_iff.mp hy).1
      rwa [intL_len] at this
    rw [intL_at hn', Int.zero_add] at hy
    cases hy
    have g := w9g_run (k0 := k0) (o2 := o2) (o3 := o3) (o4 := o4) (o7 := o7) (o8 := o8) (o9 := some (.d (Rw' D'))) (o11 := o11') hL h hk (show n < L.length by omega)
    obtain ⟨d, rd⟩ := w9d_run (ν := μ') (k0 := k0) (m := m) (o1 := some (.d (.int (k : Int)))) (o2 := o2) (o3 := o3) (o4 := o4) (o7 := o7) (o8 := o8) (o10 := some (.d (.int (n : Int)))) r (gapR_RB h hk (show n < L.length by omega)) (by omega) (by omega)
    refine ⟨_, _, _, μ', rfl, (seq_ok g).trans d, hn', rfl, dueN D' (gapR L k n), _, _, rfl, rd.up (by omega) (by omega), fun x => ?_⟩
    rw [dueN_val, v x, gapR_val]
    show _ = Dgv L x k * (Egv L x k n * gpv L x k n * gpv L x k n)
    grind
theorem w9t_run (hL : HasL ν m L) (h : OkL L) {b : Int} (hb : b ≠ 0) (hb2 : b.natAbs ≤ 4) {k : Nat} (hk : k < L.length) : W9t (rr k0 m (some (.d (.int (k : Int)))) o2 o3 (some (.d (Pl (twoP b L k)))) o7 o8 o9 o10 o11) ν = .ok (.nx (rr k0 m (some (.d (.int (k : Int)))) o2 o3 (some (.d (Pl (twoP b L (k + 1))))) o7 o8 o9 o10 o11)) ν := by
  have i1 := ix_item hL hk
  have hl4 := h.l.2
  obtain ⟨t, l, n⟩ := two_ok h hb hb2 k (by omega)
  have sP : SmP (twoP b L k) := fun r hr => (n r hr).2.sm (k := 2 + 25 * k) (Nat.le_refl _) (by omega)
  have sQ : SmP [vv L k, uu L k] := fun r hr => by
    simp only [List.mem_cons, List.not_mem_nil, or_false] at hr
    rcases hr with rfl | rfl
    · exact (okV h hk).sm (by decide)
    · exact (okU h hk).sm (by decide)
  have nQ : PL 400 [vv L k, uu L k] := fun r hr => by
    simp only [List.mem_cons, List.not_mem_nil, or_false] at hr
    rcases hr with rfl | rfl
    · exact Nat.le_trans (okV h hk).l (by decide)
    · exact Nat.le_trans (okU h hk).l (by decide)
  have pt := t_law_poly_times (μ := ν) (a := twoP b L k) (b := [vv L k, uu L k]) sP sQ (by omega) (by simp) (fun r hr => by have := (n r hr).1; omega) nQ
  change f_law_poly_times [.d (Pl (twoP b L k)), .d (.tuple [Rw' (vv L k), Rw' (uu L k)])] ν = .ok (.d (Pl (twoP b L (k + 1)))) ν at pt
  unfold W9t
  generalize Pl (twoP b L (k + 1)) = T1 at *
  generalize Pl (twoP b L k) = T0 at *
  generalize Rw' (uu L k) = U1 at *
  generalize Rw' (vv L k) = V1 at *
  simp [i1, pt]
theorem w9_run (hL : HasL ν m L) (h : OkL L) {b : Int} (hb : b ≠ 0) (hb2 : b.natAbs ≤ 4) :
    ∃ D o1' o10' o11', W9 (rr k0 m o1 o2 o3 (some (.d (Pl [[b]]))) o7 (some (.d (.int b))) (some (.d (Rw' [1]))) none none) ν = .ok (.nx (rr k0 m o1' o2 o3 (some (.d (Pl (twoP b L L.length)))) o7 (some (.d (.int b))) (some (.d (Rw' D))) o10' o11')) ν ∧ RB3 55 901 D ∧ ∀ x : Int, hv x D = Dgv L x L.length := by
  have hlen : gLen [.r (m + 1)] ν = .ok (.d (.int L.length)) ν := by
    have := sqd_len (.inl (x_dr hL) : SqD ν (.r (m + 1)) (L.map itm))
    rwa [List.length_map] at this
  have hl := h.l
  have main := for_run (it := iR1 (aCons (en gLen (aCons (eVar 6) aNil)) aNil)) (xs := intL 0 L.length 1) (t := gNm 1) (b := sSeq W9t W9i) (ρ := rr k0 m o1 o2 o3 (some (.d (Pl [[b]]))) o7 (some (.d (.int b))) (some (.d (Rw' [1]))) none none) (μ := ν) (μ1 := ν)
    (fun k ρ' μ' => k ≤ L.length ∧ μ' = ν ∧ ∃ D o1' o10' o11', ρ' = rr k0 m o1' o2 o3 (some (.d (Pl (twoP b L k)))) o7 (some (.d (.int b))) (some (.d (Rw' D))) o10' o11' ∧ RB3 (1 + 9 * sk k) (1 + 150 * sk k) D ∧ ∀ x : Int, hv x D = Dgv L x k)
    (it_r1 (j := (L.length : Int)) (by simp [hlen]) (by omega) (by omega)) ⟨Nat.zero_le _, rfl, [1], o1, none, none, rfl, (RB3.one (b := 0) (by decide) (by decide)).up (by decide) (by decide), fun x => by show 1 + x * 0 = 1; omega⟩ (fun k y ρ' μ' hy ⟨hn, f0, D, o1', o10', o11', f1, r, v⟩ => ?_)
  · obtain ⟨ρ', μ', e, _, rfl, D, o1', o10', o11', rfl, r, v⟩ := main
    rw [intL_len] at r v e
    have hs := sk_le (k := L.length) (by omega)
    exact ⟨D, o1', o10', o11', e, r.up (by omega) (by omega), v⟩
  · subst f0 f1
    have hk : k < L.length := by
      have := (List.getElem?_eq_some_iff.mp hy).1
      rwa [intL_len] at this
    rw [intL_at hk, Int.zero_add] at hy
    cases hy
    have t := w9t_run (k0 := k0) (o2 := o2) (o3 := o3) (o7 := o7) (o8 := some (.d (.int b))) (o9 := some (.d (Rw' D))) (o10 := o10') (o11 := o11') hL h hb hb2 hk
    obtain ⟨D', p, q, d, rd, vd⟩ := w9i_run (k0 := k0) (o2 := o2) (o3 := o3) (o4 := some (.d (Pl (twoP b L (k + 1))))) (o7 := o7) (o8 := some (.d (.int b))) (o10 := o10') (o11 := o11') hL h hk r v
    exact ⟨_, _, _, μ', rfl, (seq_ok t).trans d, hk, rfl, D', _, p, q, rfl, rd, vd⟩
theorem w10_run (hL : HasL ν m L) (hl : 2 ≤ L.length ∧ L.length ≤ 4) {b : Int} (hb2 : b.natAbs ≤ 4) {D : List Int} (hD : RB3 55 901 D) :
    ∃ D' o1', W10 (rr k0 m o1 o2 o3 o4 o7 (some (.d (.int b))) (some (.d (Rw' D))) o10 o11) ν = .ok (.nx (rr k0 m o1' o2 o3 o4 o7 (some (.d (.int b))) (some (.d (Rw' D'))) o10 o11)) ν ∧ RB3 55 920 D' ∧ ∀ x : Int, hv x D' = b ^ (2 * (L.length - 1)) * hv x D := by
  have hlen : gLen [.r (m + 1)] ν = .ok (.d (.int L.length)) ν := by
    have := sqd_len (.inl (x_dr hL) : SqD ν (.r (m + 1)) (L.map itm))
    rwa [List.length_map] at this
  have t1 := v_times (μ := ν) (i := 2) (j := (L.length : Int)) (by omega) (by omega) (by omega) (by omega)
  have main := for_run (it := iR1 (aCons (e2 gSub (e2 gTimes (eK (.int 2)) (en gLen (aCons (eVar 6) aNil))) (eK (.int 2))) aNil)) (xs := intL 0 (2 * (L.length - 1)) 1) (t := gNm 1) (b := W10b) (ρ := rr k0 m o1 o2 o3 o4 o7 (some (.d (.int b))) (some (.d (Rw' D))) o10 o11) (μ := ν) (μ1 := ν)
    (fun k ρ' μ' => k ≤ 2 * (L.length - 1) ∧ μ' = ν ∧ ∃ D' o1', ρ' = rr k0 m o1' o2 o3 o4 o7 (some (.d (.int b))) (some (.d (Rw' D'))) o10 o11 ∧ RB3 55 (901 + 2 * k) D' ∧ ∀ x : Int, hv x D' = b ^ k * hv x D)
    (by rw [it_r1 (j := 2 * (L.length : Int) - 2) (μ1 := ν) (by simp [hlen, t1]) (by omega) (by omega), show (2 * (L.length : Int) - 2).toNat = 2 * (L.length - 1) by omega]) ⟨Nat.zero_le _, rfl, D, o1, rfl, hD, fun x => by rw [Int.pow_zero, Int.one_mul]⟩ (fun k y ρ' μ' hy ⟨hn, f0, D', o1', f1, r, v⟩ => ?_)
  · obtain ⟨ρ', μ', e, _, rfl, D', o1', rfl, r, v⟩ := main
    rw [intL_len] at r v
    exact ⟨D', o1', e, r.up (by omega) (by omega), v⟩
  · subst f0 f1
    have hk : k < 2 * (L.length - 1) := by
      have := (List.getElem?_eq_some_iff.mp hy).1
      rwa [intL_len] at this
    have sc := t_law_scaled (μ := μ') (xs := D') (k := b) (Nat.le_trans r.l (by decide)) (Sml.of (k := 2) hb2 (by decide)) (r.sm (by omega))
    refine ⟨_, _, rr k0 m (some (.d y)) o2 o3 o4 o7 (some (.d (.int b))) (some (.d (Rw' (trim (D'.map (b * ·)))))) o10 o11, μ', rfl, ?_, hk, rfl, _, _, rfl, (r.scale hb2).up (Nat.le_refl _) (by omega), fun x => ?_⟩
    · unfold W10b
      generalize Rw' (trim (D'.map (b * ·))) = X at *
      generalize Rw' D' = Y at *
      simp [sc]
    · rw [hv_trim, hv_scl, v x, Int.pow_succ]
      grind
end
theorem t_right {μ : Mu} {k : Nat} {c : Cell} (h : μ[k]? = some (some c)) (w : Wl 0 c) : ∃ c', f_law_right [.r k] μ = .ok (.d (.bool true)) (μ.set k (some c')) := by
  have hk := lt_of_get h
  have s1 : W1 [some (.r k), none, none, none, none, none, none, none, none, none, none, none] μ = .ok (.nx (rr k μ.length none none none none none none none none none)) (s2 μ k c [] []) := by
    have : s2 μ k c [] [] = μ ++ [some [], some []] := by
      unfold s2
      rw [set_same h]
    rw [this]
    unfold W1
    simp
  obtain ⟨P, o1, o2, c1, a, e1', w1, hP⟩ := w234 (μ := μ) (k := k) (c := c) hk w (by omega) (sSeq W5 (sSeq W6 (sSeq W7 (sSeq W8 (sSeq W9 (sSeq W10 W11))))))
  obtain ⟨L, o1', o7, c2, e2', w2, hL⟩ := w56 (μ := μ) (k := k) (c := c1) (a := a) (o1 := o1) (o2 := o2) (o3 := some (.d (Pl P))) hk w1 (by omega) (sSeq W7 (sSeq W8 (sSeq W9 (sSeq W10 W11))))
  obtain ⟨y, c3, d3, w3, hy⟩ := t_pick (xs := [.int 1, .int (-1), .int 2, .int 1, .int (-3)]) (s2_well (a := a) (b := L.map itm) (c := c2) hk) w2 (by omega) (by decide) (by decide)
  rw [s2_set hk] at d3
  have key : ∃ b : Int, y = .int b ∧ b ≠ 0 ∧ b.natAbs ≤ 4 := by
    simp only [List.mem_cons, List.not_mem_nil, or_false] at hy
    rcases hy with rfl | rfl | rfl | rfl | rfl
    · exact ⟨1, rfl, by decide, by decide⟩
    · exact ⟨-1, rfl, by decide, by decide⟩
    · exact ⟨2, rfl, by decide, by decide⟩
    · exact ⟨1, rfl, by decide, by decide⟩
    · exact ⟨-3, rfl, by decide, by decide⟩
  obtain ⟨b, rfl, hb, hb2⟩ := key
  have hHL : HasL (s2 μ k c3 a (L.map itm)) μ.length L := s2_b
  obtain ⟨D, p1, p10, p11, e9, rD, vD⟩ := w9_run (k0 := k) (o1 := o1') (o2 := o2) (o3 := some (.d (Pl P))) (o7 := o7) hHL hL hb hb2
  obtain ⟨D', q1, e10, rD', vD'⟩ := w10_run (k0 := k) (o1 := p1) (o2 := o2) (o3 := some (.d (Pl P))) (o4 := some (.d (Pl (twoP b L L.length)))) (o7 := o7) (o10 := p10) (o11 := p11) hHL hL.l hb2 rD
  have lP := hP.l
  have hl := hL.l
  obtain ⟨R, f1, rR, vR⟩ := t_formula (μ := s2 μ k c3 a (L.map itm)) (P := P) lP.1 lP.2 (fun r hr => (hP.r r hr).up (by decide) (by decide))
  have d1 := t_discriminant (μ := s2 μ k c3 a (L.map itm)) (P := P) (R := R) (br := 200) hP.t lP.1 (by omega) (fun r hr => Nat.le_trans (hP.r r hr).l (by decide)) (fun r hr => (hP.r r hr).b.up (Nat.pow_le_pow_right (by decide) (by decide))) rR.t (Nat.le_trans rR.l (by decide)) rR.b (by decide) vR
  obtain ⟨t2, l2, n2⟩ := two_ok hL hb hb2 L.length (Nat.le_refl _)
  have d2 := t_discriminant (μ := s2 μ k c3 a (L.map itm)) (P := twoP b L L.length) (R := D') (br := 920) t2 (by omega) (by omega) (fun r hr => by have := (n2 r hr).1; omega) (fun r hr => (n2 r hr).2.up (Nat.pow_le_pow_right (by decide) (by omega))) rD'.t (Nat.le_trans rD'.l (by decide)) rD'.b (by decide) (fun x => by
    rw [vD' x, vD x, l2, Nat.add_sub_cancel]
    have := two_disc hL hb hb2 (x := x) (L.length - 1) (by omega)
    rw [show L.length - 1 + 1 = L.length by omega] at this
    exact this.symm)
  have sh : Shb 200 2 (.list [Rw' R, Rw' D']) := by
    have hs : ∀ y ∈ [Rw' R, Rw' D'], Shb 60 1 y := fun y hy => by
      simp only [List.mem_cons, List.not_mem_nil, or_false] at hy
      rcases hy with rfl | rfl
      · exact Shb.row rR.b (Nat.le_refl _) (by decide) (Nat.le_trans rR.l (by decide))
      · exact Shb.row rD'.b (Nat.le_refl _) (by decide) (Nat.le_trans rD'.l (by decide))
    exact (Shb.list (ShbAll.of hs)).up (by show 2 * (60 + 1) ≤ 200; decide) (by decide)
  have rp := Shb.repr (μ := s2 μ k c3 a (L.map itm)) sh (by decide) (by decide)
  have s7 : W7 (rr k μ.length o1' o2 (some (.d (Pl P))) none o7 none none none none) (s2 μ k c2 a (L.map itm)) = .ok (.nx (rr k μ.length o1' o2 (some (.d (Pl P))) none o7 (some (.d (.int b))) (some (.d (Rw' [1]))) none none)) (s2 μ k c3 a (L.map itm)) := by
    unfold W7
    generalize s2 μ k c2 a (L.map itm) = ν2 at *
    generalize s2 μ k c3 a (L.map itm) = ν3 at *
    simp [d3]
  have s8 : W8 (rr k μ.length o1' o2 (some (.d (Pl P))) none o7 (some (.d (.int b))) (some (.d (Rw' [1]))) none none) (s2 μ k c3 a (L.map itm)) = .ok (.nx (rr k μ.length o1' o2 (some (.d (Pl P))) (some (.d (Pl [[b]]))) o7 (some (.d (.int b))) (some (.d (Rw' [1]))) none none)) (s2 μ k c3 a (L.map itm)) := by
    unfold W8
    generalize s2 μ k c3 a (L.map itm) = ν3 at *
    simp
    rfl
  have s11 : W11 (rr k μ.length q1 o2 (some (.d (Pl P))) (some (.d (Pl (twoP b L L.length)))) o7 (some (.d (.int b))) (some (.d (Rw' D'))) p10 p11) (s2 μ k c3 a (L.map itm)) = .ok (.rt (.d (.bool true))) (s2 μ k c3 a (L.map itm)) := by
    unfold W11
    generalize s2 μ k c3 a (L.map itm) = ν3 at *
    generalize Pl (twoP b L L.length) = T at *
    generalize Pl P = PP at *
    generalize Rw' R = RR at *
    generalize Rw' D' = DD at *
    simp [permL, d1, d2, f1, rp]
  have fin := run_rt (n := 12) (b := b_law_right) (ws := [.r k]) (μ := μ) (μ' := s2 μ k c3 a (L.map itm)) (x := .bool true) (by
    rw [W_is]
    show sSeq _ _ [some (.r k), none, none, none, none, none, none, none, none, none, none, none] μ = _
    rw [seq_ok s1, e1', e2', seq_ok s7, seq_ok s8, seq_ok e9, seq_ok e10, s11])
  refine ⟨c3, ?_⟩
  rw [take_setapp] at fin
  exact fin
end LW
namespace LW
open PySem PySem.Spec TL
open L2 (atI ixN)
theorem law_told : ∀ ns : List Int, ns.length ≤ 63 → (∀ z ∈ ns, Builtin.Int.intBits z ≤ 1048576) → arity 1 f_law [.d (.list (ns.map PyData.int))] [] = .ok (.d (.bool true)) [] := by
  intro ns hn _
  have hj : ∃ j : Int, en gMax (aCons (eK (.int 1)) (aCons (en gMin (aCons (en gLen (aCons (eVar 0) aNil)) (aCons (eK (.int 2)) aNil))) aNil)) [some (.d (.list (ns.map PyData.int))), none] [] = .ok (.d (.int j)) [] ∧ 0 ≤ j ∧ j ≤ 100 := by
    refine ⟨if (if (2 : Int) < ns.length then 2 else (ns.length : Int)) > 1 then (if (2 : Int) < ns.length then 2 else (ns.length : Int)) else 1, ?_, ?_⟩
    · simp [gMax, gMin]
    · split <;> split <;> omega
  obtain ⟨j, ej, j0, j1⟩ := hj
  obtain ⟨ys, μ', e, _, hl, hr⟩ := lc_run (Iv := fun _ _ => True) (R := fun _ y => y = .bool true) (it := iR1 (aCons (en gMax (aCons (eK (.int 1)) (aCons (en gMin (aCons (en gLen (aCons (eVar 0) aNil)) (aCons (eK (.int 2)) aNil))) aNil))) aNil)) (xs := intL 0 j.toNat 1) (i := 1)
    (e := cF 1 f_law_right (aCons (cF 2 f_law_well (aCons (eVar 0) (aCons (eVar 1) aNil))) aNil)) (ρ := [some (.d (.list (ns.map PyData.int))), none]) (μ := []) (μ1 := [])
    (it_r1 (by rw [x_cons, ej]; rfl) (by omega) (by omega)) trivial (by rw [intL_len]; omega) fun x hx n μ _ => by
      obtain ⟨q, hq, rfl⟩ := List.mem_map.mp hx
      have hq : q < j.toNat := List.mem_range.mp hq
      have eq : (0 : Int) + (q : Int) * 1 = (q : Int) := by omega
      rw [eq]
      obtain ⟨c, e1, w⟩ := t_well (ns := ns) (i := q) (μ := μ) (by omega)
      obtain ⟨c', e2⟩ := t_right (k := μ.length) (μ := μ ++ [some c]) (by simp) w
      exact ⟨.bool true, μ ++ [some c'], by simp [e1, e2], trivial, rfl⟩
  have hb : ys = (List.replicate ys.length true).map PyData.bool := by
    apply List.ext_getElem?
    intro k
    by_cases hk : k < ys.length
    · have hk' : k < (intL 0 j.toNat 1).length := by omega
      rw [List.getElem?_eq_getElem hk, hr k _ _ (List.getElem?_eq_getElem hk') (List.getElem?_eq_getElem hk)]
      simp [hk]
    · rw [List.getElem?_eq_none (by omega), List.getElem?_eq_none (by simp; omega)]
  have ga : gAll [.d (.list ys)] μ' = .ok (.d (.bool true)) μ' := by
    rw [hb]
    show (match boolsOf ((List.replicate ys.length true).map PyData.bool) with
      | some bs => Out.ok (wBl (bs.all id)) μ'
      | none => Out.bad) = _
    rw [boolsOf_bools]
    simp
  show f_law [.d (.list (ns.map PyData.int))] [] = _
  have q : b_law [some (.d (.list (ns.map PyData.int))), none] [] = .ok (.rt (.d (.bool true))) μ' := by
    unfold b_law
    simp [e, ga]
  show (match b_law [some (.d (.list (ns.map PyData.int))), none] [] with
      | .ok (.rt w) μ' => leave 0 w μ'
      | .ok (.nx _) μ' => leave 0 (.d .none) μ'
      | .ok (.er x us _) μ' => match allD us with
        | some c => .err x (c.map Wv.d) (μ'.take 0)
        | none => .bad
      | _ => .bad) = _
  rw [q]
  rfl
end LW
open PySem PySem.W PyProof.Rows
set_option maxHeartbeats 0 in
theorem PySem.Challenge.cw_twoletters_k27_discriminants_of_degrees_holds : PySem.Challenge.rw_twoletters_k27_discriminants_of_degrees.Holds := by
  w_on; o_law; k_head; (case hw => w_witness2)
  k_fill
  refine TL.walk_G (l := PySem.Challenge.rw_twoletters_k27_discriminants_of_degrees) (n := 63) (k := 8) (x := "_law_script") (g := LW.f_law) rfl (by decide) rfl ⟨rfl, by decide, by decide⟩ (fun w h Y => PySem.W.kIn_of Y) ?F LW.law_told
  case F =>
    intro w mg fa h KX G hmg
    refine' LW.all_mk KX G hmg ?a0 ?l0 ?c0 ?k0 ?a1 ?l1 ?c1 ?k1 ?a2 ?l2 ?c2 ?k2 ?a3 ?l3 ?c3 ?k3 ?a4 ?l4 ?c4 ?k4 ?a5 ?l5 ?c5 ?k5 ?a6 ?l6 ?c6 ?k6 ?a7 ?l7 ?c7 ?k7 ?a8 ?l8 ?c8 ?k8 ?a9 ?l9 ?c9 ?k9 ?a10 ?l10 ?c10 ?k10 ?a11 ?l11 ?c11 ?k11 ?a12 ?l12 ?c12 ?k12 ?a13 ?l13 ?c13 ?k13 ?a14 ?l14 ?c14 ?k14 ?a15 ?l15 ?c15 ?k15 ?a16 ?l16 ?c16 ?k16 ?a17 ?l17 ?c17 ?k17 ?a18 ?l18 ?c18 ?k18 ?a19 ?l19 ?c19 ?k19 ?a20 ?l20 ?t20 ?c20 ?k20 ?a21 ?l21 ?c21 ?k21 ?a22 ?l22 ?c22 ?k22 ?a23 ?l23 ?c23 ?k23 ?a24 ?l24 ?c24 ?k24 ?a25 ?l25 ?c25 ?k25 ?a26 ?l26 ?c26 ?k26 ?a27 ?l27 ?c27 ?k27 ?a28 ?l28 ?c28 ?k28 ?a29 ?l29 ?c29 ?k29 ?a30 ?l30 ?c30 ?k30 ?a31 ?l31 ?c31 ?k31 ?a32 ?l32 ?c32 ?k32 ?a33 ?l33 ?c33 ?k33 ?a34 ?l34 ?c34 ?k34 ?a35 ?l35 ?c35 ?k35 ?a36 ?l36 ?c36 ?k36 ?z_abs ?z_all ?z_bool ?z_divmod ?z_enumerate ?z_int ?z_isinstance ?z_len ?z_list ?z_max ?z_min ?z_range ?z_repr ?z_tuple ?z_zip
    (case a0 => k_is); (case l0 => k_is); (case c0 => k_is); (case k0 => k_is); (case a1 => k_is); (case l1 => k_is); (case c1 => k_is); (case k1 => k_is); (case a2 => k_is); (case l2 => k_is); (case c2 => k_is); (case k2 => k_is); (case a3 => k_is); (case l3 => k_is); (case c3 => k_is); (case k3 => k_is); (case a4 => k_is); (case l4 => k_is); (case c4 => k_is); (case k4 => k_is); (case a5 => k_is); (case l5 => k_is); (case c5 => k_is); (case k5 => k_is); (case a6 => k_is); (case l6 => k_is); (case c6 => k_is); (case k6 => k_is); (case a7 => k_is); (case l7 => k_is); (case c7 => k_is); (case k7 => k_is); (case a8 => k_is); (case l8 => k_is); (case c8 => k_is); (case k8 => k_is); (case a9 => k_is); (case l9 => k_is); (case c9 => k_is); (case k9 => k_is); (case a10 => k_is); (case l10 => k_is); (case c10 => k_is); (case k10 => k_is); (case a11 => k_is); (case l11 => k_is); (case c11 => k_is); (case k11 => k_is); (case a12 => k_is); (case l12 => k_is); (case c12 => k_is); (case k12 => k_is); (case a13 => k_is); (case l13 => k_is); (case c13 => k_is); (case k13 => k_is); (case a14 => k_is); (case l14 => k_is); (case c14 => k_is); (case k14 => k_is); (case a15 => k_is); (case l15 => k_is); (case c15 => k_is); (case k15 => k_is); (case a16 => k_is); (case l16 => k_is); (case c16 => k_is); (case k16 => k_is); (case a17 => k_is); (case l17 => k_is); (case c17 => k_is); (case k17 => k_is); (case a18 => k_is); (case l18 => k_is); (case c18 => k_is); (case k18 => k_is); (case a19 => k_is); (case l19 => k_is); (case c19 => k_is); (case k19 => k_is); (case a20 => k_is); (case l20 => k_is); (case t20 => k_is); (case c20 => k_is); (case k20 => k_is); (case a21 => k_is); (case l21 => k_is); (case c21 => k_is); (case k21 => k_is); (case a22 => k_is); (case l22 => k_is); (case c22 => k_is); (case k22 => k_is); (case a23 => k_is); (case l23 => k_is); (case c23 => k_is); (case k23 => k_is); (case a24 => k_is); (case l24 => k_is); (case c24 => k_is); (case k24 => k_is); (case a25 => k_is); (case l25 => k_is); (case c25 => k_is); (case k25 => k_is); (case a26 => k_is); (case l26 => k_is); (case c26 => k_is); (case k26 => k_is); (case a27 => k_is); (case l27 => k_is); (case c27 => k_is); (case k27 => k_is); (case a28 => k_is); (case l28 => k_is); (case c28 => k_is); (case k28 => k_is); (case a29 => k_is); (case l29 => k_is); (case c29 => k_is); (case k29 => k_is); (case a30 => k_is); (case l30 => k_is); (case c30 => k_is); (case k30 => k_is); (case a31 => k_is); (case l31 => k_is); (case c31 => k_is); (case k31 => k_is); (case a32 => k_is); (case l32 => k_is); (case c32 => k_is); (case k32 => k_is); (case a33 => k_is); (case l33 => k_is); (case c33 => k_is); (case k33 => k_is); (case a34 => k_is); (case l34 => k_is); (case c34 => k_is); (case k34 => k_is); (case a35 => k_is); (case l35 => k_is); (case c35 => k_is); (case k35 => k_is); (case a36 => k_is); (case l36 => k_is); (case c36 => k_is); (case k36 => k_is); (case z_abs => k_is); (case z_all => k_is); (case z_bool => k_is); (case z_divmod => k_is); (case z_enumerate => k_is); (case z_int => k_is); (case z_isinstance => k_is); (case z_len => k_is); (case z_list => k_is); (case z_max => k_is); (case z_min => k_is); (case z_range => k_is); (case z_repr => k_is); (case z_tuple => k_is); (case z_zip => k_is)
