import PyProof.Rows.All
import Wide.All
import OpenK.AllK
import Wide.FinOn
import HandS.ForExc
import HandS.Comp
import HandS.Iter
import HandS.Dict
import HandS.Text
import HandS.TupAny
import HandS.Zip
import HandS.IsInst
import HandS.WideBits
import HandS.Gcd
import PyProof.Rows.EqBoolInt
import PyProof.Rows.IntBool
import PyProof.ReprRoads
import PyProof.P3In
import HandS.EndBits
import HandS.RaiseMore
import HandS.Style
import HandS.TupMul
import HandS.Defaults
import KE.GoesMore
import HandS.HeadHook3
import HandS.Strs
import HandS.Codes
import PySem.Challenge.RW_twoletters_k44_whole_exchanged_put_and_p
set_option Elab.async false
set_option linter.all false
set_option maxRecDepth 100000
set_option maxHeartbeats 4000000
/-! TL0: values, stores, outcomes; how they lie in the abstract heap. -/
namespace TL
open PySem PySem.Spec L2
abbrev St := L2.St

/-- a list of the module, known to the object -/
def LsK (K : PySem.W.Frag) (a : Addr) (xs : List V) : Prop := ∃ (its : List Value) (n : Nat), K.lookup a = some { cls := .type "list", data := .seq its.toArray n } ∧ xs.length ≤ sizeLine ∧ Vals xs its
/-- a list that stays as it is -/
def Ls (K : PySem.W.Frag) (H : Hp) (a : Addr) (xs : List V) : Prop := Rd H a (.lst xs) ∨ LsK K a xs
theorem Ls.of {K : PySem.W.Frag} {H : Hp} {a : Addr} {xs : List V} (h : H a = some (.lst xs)) : Ls K H a xs := .inl (.of h)
theorem Ls.sq {K : PySem.W.Frag} {H : Hp} {a : Addr} {xs : List V} (h : Ls K H a xs) : SqL K H a xs := by
  rcases h with h | ⟨its, n, h, hz, r⟩
  · exact .inl h
  · exact .inr ⟨_, its.toArray, n, h, rfl, rfl, rfl, by rw [List.size_toArray, ← r.length]; exact hz, by simpa using r⟩
theorem Ls.ob {X : Cx} {pins : List (Addr × Obj)} {σ : L2.St} {H : Hp} {s : Shared} {a : Addr} {xs : List V} (h : Ls X.K H a xs) (I : Inv X pins σ H s) : xs.length ≤ sizeLine ∧ ∃ (its : List Value) (n : Nat), Vals xs its ∧ s.heap.get? a = some { cls := .type "list", data := .seq its.toArray n } := by
  rcases h with h | ⟨its, n, h, hz, r⟩
  · obtain ⟨z, its, n, r, e⟩ := h.ok I.hok
    exact ⟨z, its, n, r, e⟩
  · exact ⟨hz, its, n, r, I.kIn a _ h⟩

/-! ### data in the abstract heap -/
mutual
inductive Dq (K : PySem.W.Frag) (H : Hp) : V → PyData → Prop
  | non : Dq K H .non .none
  | bl (b : Bool) : Dq K H (.bl b) (.bool b)
  | int (i : Int) : Dq K H (.int i) (.int i)
  | str (x : Str) : Dq K H (.str x) (.str x)
  | lst {a : Addr} {xs : List V} {ds : List PyData} : Ls K H a xs → DqAll K H xs ds → Dq K H (.ref a) (.list ds)
  | tup {a : Addr} {xs : List V} {ds : List PyData} : SqT K H a xs → DqAll K H xs ds → Dq K H (.ref a) (.tuple ds)
  | dic {a : Addr} : H a = some (.dK []) → Dq K H (.ref a) (.dict [])
inductive DqAll (K : PySem.W.Frag) (H : Hp) : List V → List PyData → Prop
  | nil : DqAll K H [] []
  | cons {v : V} {vs : List V} {d : PyData} {ds : List PyData} : Dq K H v d → DqAll K H vs ds → DqAll K H (v :: vs) (d :: ds)
end

theorem sameR {H H' : Hp} {a : Addr} {u : HO} (e : Same H H') (h : Rd H a u) : Rd H' a u := by
  rcases h with h | ⟨o, h⟩
  · exact .inl (e _ _ h)
  · exact .inr ⟨o, e _ _ h⟩
theorem sameL {K : PySem.W.Frag} {H H' : Hp} {a : Addr} {xs : List V} (e : Same H H') (h : Ls K H a xs) : Ls K H' a xs := h.elim (fun z => .inl (sameR e z)) .inr
theorem sameT {K : PySem.W.Frag} {H H' : Hp} {a : Addr} {xs : List V} (e : Same H H') (h : SqT K H a xs) : SqT K H' a xs := by
  rcases h with (h | ⟨o, h⟩) | h
  · exact .inl (.inl (e _ _ h))
  · exact .inl (.inr ⟨o, e _ _ h⟩)
  · exact .inr h
section
variable {K : PySem.W.Frag} {H H' : Hp}
mutual
theorem Dq.mono (e : Same H H') : ∀ {v : V} {d : PyData}, Dq K H v d → Dq K H' v d
  | _, _, .non => .non
  | _, _, .bl b => .bl b
  | _, _, .int i => .int i
  | _, _, .str x => .str x
  | _, _, .lst h hs => .lst (sameL e h) (hs.mono e)
  | _, _, .tup h hs => .tup (sameT e h) (hs.mono e)
  | _, _, .dic h => .dic (e _ _ h)
theorem DqAll.mono (e : Same H H') : ∀ {vs : List V} {ds : List PyData}, DqAll K H vs ds → DqAll K H' vs ds
  | _, _, .nil => .nil
  | _, _, .cons h hs => .cons (h.mono e) (hs.mono e)
end
theorem DqAll.length : ∀ {vs : List V} {ds : List PyData}, DqAll K H vs ds → vs.length = ds.length
  | _, _, .nil => rfl
  | _, _, .cons _ h => congrArg Nat.succ (DqAll.length h)
theorem DqAll.get : ∀ {vs : List V} {ds : List PyData} {i : Nat} {d : PyData}, DqAll K H vs ds → ds[i]? = some d → ∃ v, vs[i]? = some v ∧ Dq K H v d
  | _, _, _, _, .nil, e => by simp at e
  | _, _, 0, _, .cons r _, e => by
    simp at e
    subst e
    exact ⟨_, rfl, r⟩
  | _, _, i + 1, x, .cons _ t, e => by
    obtain ⟨u, h1, h2⟩ := DqAll.get (i := i) (d := x) t (by simpa using e)
    exact ⟨u, by simpa using h1, h2⟩
theorem DqAll.getV : ∀ {vs : List V} {ds : List PyData} {i : Nat} {v : V}, DqAll K H vs ds → vs[i]? = some v → ∃ d, ds[i]? = some d ∧ Dq K H v d
  | _, _, _, _, .nil, e => by simp at e
  | _, _, 0, _, .cons r _, e => by
    simp at e
    subst e
    exact ⟨_, rfl, r⟩
  | _, _, i + 1, x, .cons _ t, e => by
    obtain ⟨u, h1, h2⟩ := DqAll.getV (i := i) (v := x) t (by simpa using e)
    exact ⟨u, by simpa using h1, h2⟩
theorem DqAll.append : ∀ {vs ws : List V} {ds es : List PyData}, DqAll K H vs ds → DqAll K H ws es → DqAll K H (vs ++ ws) (ds ++ es)
  | _, _, _, _, .nil, s => s
  | _, _, _, _, .cons r t, s => .cons r (DqAll.append t s)
theorem DqAll.take : ∀ {vs : List V} {ds : List PyData} (n : Nat), DqAll K H vs ds → DqAll K H (vs.take n) (ds.take n)
  | _, _, 0, _ => .nil
  | _, _, _ + 1, .nil => .nil
  | _, _, n + 1, .cons r t => .cons r (DqAll.take n t)
theorem DqAll.drop : ∀ {vs : List V} {ds : List PyData} (n : Nat), DqAll K H vs ds → DqAll K H (vs.drop n) (ds.drop n)
  | _, _, 0, r => r
  | _, _, _ + 1, .nil => .nil
  | _, _, n + 1, .cons _ t => DqAll.drop n t
theorem DqAll.set {v : V} {d : PyData} (r : Dq K H v d) : ∀ {vs : List V} {ds : List PyData} (i : Nat), DqAll K H vs ds → DqAll K H (vs.set i v) (ds.set i d)
  | _, _, _, .nil => .nil
  | _, _, 0, .cons _ t => .cons r t
  | _, _, i + 1, .cons q t => .cons q (DqAll.set r i t)
theorem DqAll.dropLast {vs : List V} {ds : List PyData} (h : DqAll K H vs ds) : DqAll K H vs.dropLast ds.dropLast := by
  rw [List.dropLast_eq_take, List.dropLast_eq_take, h.length]
  exact h.take _
theorem DqAll.reverse : ∀ {vs : List V} {ds : List PyData}, DqAll K H vs ds → DqAll K H vs.reverse ds.reverse
  | _, _, .nil => .nil
  | _, _, .cons r t => by
    rw [List.reverse_cons, List.reverse_cons]
    exact (DqAll.reverse t).append (.cons r .nil)
theorem DqAll.replicate {v : V} {d : PyData} (r : Dq K H v d) : ∀ n : Nat, DqAll K H (List.replicate n v) (List.replicate n d)
  | 0 => .nil
  | n + 1 => .cons r (DqAll.replicate r n)
theorem DqAll.flat {vs : List V} {ds : List PyData} (h : DqAll K H vs ds) : ∀ n : Nat, DqAll K H (List.replicate n vs).flatten (List.replicate n ds).flatten
  | 0 => .nil
  | n + 1 => by
    rw [List.replicate_succ, List.replicate_succ, List.flatten_cons, List.flatten_cons]
    exact h.append (DqAll.flat h n)
theorem DqAll.ints : ∀ {vs : List V} {ns : List Int}, DqAll K H vs (ns.map PyData.int) → vs = ns.map V.int
  | _, [], h => by
    cases h
    rfl
  | _, n :: ns, h => by
    cases h with
    | cons r t =>
      cases r
      rw [DqAll.ints t]
      rfl
theorem DqAll.bools : ∀ {vs : List V} {ns : List Bool}, DqAll K H vs (ns.map PyData.bool) → vs = ns.map V.bl
  | _, [], h => by
    cases h
    rfl
  | _, n :: ns, h => by
    cases h with
    | cons r t =>
      cases r
      rw [DqAll.bools t]
      rfl
theorem DqAll.strs : ∀ {vs : List V} {ns : List Str}, DqAll K H vs (ns.map PyData.str) → vs = ns.map V.str
  | _, [], h => by
    cases h
    rfl
  | _, n :: ns, h => by
    cases h with
    | cons r t =>
      cases r
      rw [DqAll.strs t]
      rfl
end

theorem Paired.app {β γ : Type} {R : β → γ → Prop} : ∀ {l l2 : List β} {m m2 : List γ}, Paired R l m → Paired R l2 m2 → Paired R (l ++ l2) (m ++ m2)
  | _, _, _, _, .nil, h => h
  | _, _, _, _, .cons r t, h => .cons r (Paired.app t h)
theorem Paired.at_ {β γ : Type} {R : β → γ → Prop} : ∀ {l : List β} {m : List γ} {i : Nat}, Paired R l m → i < l.length → ∃ b c, l[i]? = some b ∧ m[i]? = some c ∧ R b c
  | _, _, i, .nil, h => absurd h (Nat.not_lt_zero _)
  | _, _, 0, .cons r t, _ => ⟨_, _, rfl, rfl, r⟩
  | _, _, i + 1, .cons r t, h => by
    obtain ⟨b, c, h1, h2, h3⟩ := Paired.at_ t (Nat.lt_of_succ_lt_succ h)
    exact ⟨b, c, by simpa using h1, by simpa using h2, h3⟩

/-! ### values, stores, outcomes -/
inductive Wv where
  | d (x : PyData)
  | r (k : Nat)
  /-- a tuple that a display has made, known to its object -/
  | t (xs : List PyData)
abbrev Cell := List PyData
abbrev Mu := List (Option Cell)
abbrev Rho := List (Option Wv)
inductive Out (α : Type) where
  | ok (a : α) (μ : Mu)
  | err (x : Str) (ws : List Wv) (μ : Mu)
  | bad
def Out.bind {α β : Type} (o : Out α) (k : α → Mu → Out β) : Out β :=
  match o with
  | .ok a μ => k a μ
  | .err x ws μ => .err x ws μ
  | .bad => .bad
@[simp] theorem Out.bind_ok {α β : Type} (a : α) (μ : Mu) (k : α → Mu → Out β) : (Out.ok a μ).bind k = k a μ := rfl
@[simp] theorem Out.bind_err {α β : Type} (x : Str) (ws : List Wv) (μ : Mu) (k : α → Mu → Out β) : (Out.err x ws μ).bind k = .err x ws μ := rfl
@[simp] theorem Out.bind_bad {α β : Type} (k : α → Mu → Out β) : (Out.bad : Out α).bind k = .bad := rfl

/-- a value: data frozen in F, or the address of a cell -/
def Rw (K : PySem.W.Frag) (α : List Addr) (F : Hp) : V → Wv → Prop
  | v, .d x => Dq K F v x
  | v, .r k => ∃ a, α[k]? = some a ∧ v = .ref a
  | v, .t ds => ∃ a o vs, v = .ref a ∧ F a = some (.frz o (.tup vs)) ∧ o.cls = .type "tuple" ∧ o.dict = none ∧ DqAll K F vs ds
abbrev Rws (K : PySem.W.Frag) (α : List Addr) (F : Hp) : List V → List Wv → Prop := Paired (Rw K α F)
/-- the slots -/
structure RepE (K : PySem.W.Frag) (α : List Addr) (F : Hp) (ρ : Rho) (σ : St) : Prop where
  len : ρ.length = σ.length
  at_ : ∀ (i : Nat) (w : Wv), ρ[i]? = some (some w) → ∃ v, σ[i]? = some (some v) ∧ Rw K α F v w
/-- the store: F is what is frozen, α the cells' addresses -/
structure Rep (K : PySem.W.Frag) (α : List Addr) (F : Hp) (μ : Mu) (H : Hp) : Prop where
  len : μ.length = α.length
  sub : Same F H
  cell : ∀ (k : Nat) (c : Cell), μ[k]? = some (some c) → ∃ a vs, α[k]? = some a ∧ H a = some (.lst vs) ∧ F a = none ∧ DqAll K F vs c
  inj : ∀ (i j : Nat) (a : Addr) (c c' : Cell), μ[i]? = some (some c) → μ[j]? = some (some c') → α[i]? = some a → α[j]? = some a → i = j
  had : ∀ a ∈ α, H a ≠ none
structure Ext (α : List Addr) (F H : Hp) (α' : List Addr) (F' H' : Hp) : Prop where
  pre : ∃ β, α' = α ++ β
  fro : Same F F'
  frame : ∀ a o, H a = some o → a ∉ α → H' a = some o
  keep : ∀ a, H a ≠ none → H' a ≠ none
  newF : ∀ a, F' a ≠ none → F a ≠ none ∨ H a = none ∨ a ∈ α
  newA : ∀ a ∈ α', a ∈ α ∨ H a = none
section
variable {K : PySem.W.Frag} {α α' α'' : List Addr} {F F' F'' H H' H'' : Hp} {μ μ' : Mu}
theorem Ext.refl : Ext α F H α F H := ⟨⟨[], by simp⟩, Same.refl _, fun _ _ h _ => h, fun _ h => h, fun _ h => .inl h, fun _ h => .inl h⟩
theorem Ext.mem (e : Ext α F H α' F' H') {a : Addr} (h : a ∈ α) : a ∈ α' := by
  obtain ⟨β, rfl⟩ := e.pre
  exact List.mem_append_left _ h
theorem Ext.trans (e : Ext α F H α' F' H') (e' : Ext α' F' H' α'' F'' H'') : Ext α F H α'' F'' H'' where
  pre := by
    obtain ⟨β, rfl⟩ := e.pre
    obtain ⟨γ, rfl⟩ := e'.pre
    exact ⟨β ++ γ, by simp⟩
  fro := e.fro.trans e'.fro
  frame := fun a o h n => e'.frame a o (e.frame a o h n) fun m => by
    rcases e.newA a m with q | q
    · exact n q
    · rw [h] at q; cases q
  keep := fun a h => e'.keep a (e.keep a h)
  newF := fun a h => by
    rcases e'.newF a h with q | q | q
    · exact e.newF a q
    · by_cases z : H a = none
      · exact .inr (.inl z)
      · exact absurd q (e.keep a z)
    · rcases e.newA a q with q | q
      · exact .inr (.inr q)
      · exact .inr (.inl q)
  newA := fun a h => by
    rcases e'.newA a h with q | q
    · exact e.newA a q
    · by_cases z : H a = none
      · exact .inr z
      · exact absurd q (e.keep a z)
theorem Rw.ext {v : V} {w : Wv} (r : Rw K α F v w) (e : Ext α F H α' F' H') : Rw K α' F' v w := by
  cases w with
  | d x => exact Dq.mono e.fro r
  | r k =>
    obtain ⟨a, h, rfl⟩ := r
    obtain ⟨β, rfl⟩ := e.pre
    exact ⟨a, by rw [List.getElem?_append_left (List.getElem?_eq_some_iff.mp h).1]; exact h, rfl⟩
  | t ds =>
    obtain ⟨a, o, vs, rfl, h1, h2, h3, h4⟩ := r
    exact ⟨a, o, vs, rfl, e.fro _ _ h1, h2, h3, h4.mono e.fro⟩
theorem Rws.ext {vs : List V} {ws : List Wv} (r : Rws K α F vs ws) (e : Ext α F H α' F' H') : Rws K α' F' vs ws := Paired.mapP r fun _ _ q => q.ext e
theorem RepE.ext {ρ : Rho} {σ : St} (r : RepE K α F ρ σ) (e : Ext α F H α' F' H') : RepE K α' F' ρ σ :=
  ⟨r.len, fun i w h => let ⟨v, h1, h2⟩ := r.at_ i w h; ⟨v, h1, h2.ext e⟩⟩
theorem RepE.set {ρ : Rho} {σ : St} (r : RepE K α F ρ σ) {v : V} {w : Wv} (i : Nat) (q : Rw K α F v w) : RepE K α F (ρ.set i (some w)) (σ.set i (some v)) := by
  refine ⟨by rw [List.length_set, List.length_set]; exact r.len, fun j u h => ?_⟩
  by_cases hj : i = j
  · subst hj
    have hl : i < ρ.length := by
      have := (List.getElem?_eq_some_iff.mp h).1
      rwa [List.length_set] at this
    rw [List.getElem?_set_self hl] at h
    cases h
    exact ⟨v, List.getElem?_set_self (by rw [← r.len]; exact hl), q⟩
  · rw [List.getElem?_set_ne hj] at h
    rw [List.getElem?_set_ne hj]
    exact r.at_ j u h
/-- a new frozen object -/
theorem Rep.new {p : Addr} {o : HO} (r : Rep K α F μ H) (hp : H p = none) : Rep K α (upd F p o) μ (upd H p o) ∧ Ext α F H α (upd F p o) (upd H p o) := by
  have fp : F p = none := r.sub.free hp
  have sF : Same F (upd F p o) := fun b u h => by
    rw [upd_ne (ne_of_none h fp)]
    exact h
  have hn : p ∉ α := fun m => r.had p m hp
  refine ⟨⟨r.len, fun b u h => ?_, fun k c h => ?_, r.inj, fun a m => ?_⟩, ⟨⟨[], by simp⟩, sF, fun a u h _ => ?_, fun a h => ?_, fun a h => ?_, fun a h => .inl h⟩⟩
  · by_cases e : b = p
    · subst e
      rw [upd_same] at h ⊢
      exact h
    · rw [upd_ne e] at h ⊢
      exact r.sub _ _ h
  · obtain ⟨a, vs, h1, h2, h3, h4⟩ := r.cell k c h
    have ne : a ≠ p := ne_of_none h2 hp
    exact ⟨a, vs, h1, by rw [upd_ne ne]; exact h2, by rw [upd_ne ne]; exact h3, h4.mono sF⟩
  · have ne : a ≠ p := fun e => hn (by rw [← e]; exact m)
    rw [upd_ne ne]
    exact r.had a m
  · rw [upd_ne (ne_of_none h hp)]
    exact h
  · by_cases e : a = p
    · subst e
      rw [upd_same]
      exact fun z => nomatch z
    · rw [upd_ne e]
      exact h
  · by_cases e : a = p
    · subst e
      exact .inr (.inl hp)
    · rw [upd_ne e] at h
      exact .inl h
/-- an object laid by the side: not frozen, no cell -/
theorem Rep.side {p : Addr} {o : HO} (r : Rep K α F μ H) (hp : H p = none) : Rep K α F μ (upd H p o) ∧ Ext α F H α F (upd H p o) := by
  have hn : p ∉ α := fun m => r.had p m hp
  have sH : Same H (upd H p o) := fun b u h => by
    rw [upd_ne (ne_of_none h hp)]
    exact h
  refine ⟨⟨r.len, r.sub.trans sH, fun k c h => ?_, r.inj, fun a m => ?_⟩, ⟨⟨[], by simp⟩, Same.refl _, fun a u h _ => sH _ _ h, fun a h => ?_, fun a h => .inl h, fun a h => .inl h⟩⟩
  · obtain ⟨a, vs, h1, h2, h3, h4⟩ := r.cell k c h
    exact ⟨a, vs, h1, sH _ _ h2, h3, h4⟩
  · have ne : a ≠ p := fun e => hn (by rw [← e]; exact m)
    rw [upd_ne ne]
    exact r.had a m
  · by_cases e : a = p
    · subst e
      rw [upd_same]
      exact fun z => nomatch z
    · rw [upd_ne e]
      exact h
/-- a list by the side becomes frozen -/
theorem Rep.freezeSide {p : Addr} {o : HO} (r : Rep K α F μ H) (hp : H p = some o) (hf : F p = none) (hn : p ∉ α) : Rep K α (upd F p o) μ H := by
  have sF : Same F (upd F p o) := fun b u h => by
    rw [upd_ne (ne_of_none h hf)]
    exact h
  refine ⟨r.len, fun b u h => ?_, fun k c h => ?_, r.inj, r.had⟩
  · by_cases e : b = p
    · subst e
      rw [upd_same] at h
      cases h
      exact hp
    · rw [upd_ne e] at h
      exact r.sub _ _ h
  · obtain ⟨a, vs, h1, h2, h3, h4⟩ := r.cell k c h
    have ne : a ≠ p := fun e => hn (e ▸ List.mem_of_getElem? h1)
    exact ⟨a, vs, h1, h2, by rw [upd_ne ne]; exact h3, h4.mono sF⟩
/-- a list by the side becomes a cell -/
theorem Rep.cellSide {p : Addr} {vs : List V} {c : Cell} (r : Rep K α F μ H) (hp : H p = some (.lst vs)) (hf : F p = none) (hn : p ∉ α) (hc : DqAll K F vs c) : Rep K (α ++ [p]) F (μ ++ [some c]) H := by
  refine ⟨by simp [r.len], r.sub, fun k c' h => ?_, fun i j a c1 c2 h1 h2 h3 h4 => ?_, fun a m => ?_⟩
  · by_cases hk : k < μ.length
    · rw [List.getElem?_append_left hk] at h
      obtain ⟨a, ws, q1, q2⟩ := r.cell k c' h
      exact ⟨a, ws, by rw [List.getElem?_append_left (by rw [← r.len]; exact hk)]; exact q1, q2⟩
    · rw [List.getElem?_append_right (by omega)] at h
      have hk0 : k - μ.length = 0 := by
        by_cases z : k - μ.length = 0
        · exact z
        · rw [List.getElem?_eq_none (by simp; omega)] at h; cases h
      rw [hk0] at h
      simp at h
      subst h
      refine ⟨p, vs, ?_, hp, hf, hc⟩
      rw [List.getElem?_append_right (by rw [← r.len]; omega), ← r.len, hk0]
      rfl
  · have key : ∀ (i : Nat) (c1 : Cell), (μ ++ [some c])[i]? = some (some c1) → (α ++ [p])[i]? = some a → (i < μ.length ∧ μ[i]? = some (some c1) ∧ α[i]? = some a) ∨ (i = μ.length ∧ a = p) := fun i c1 h1 h3 => by
      by_cases hi : i < μ.length
      · rw [List.getElem?_append_left hi] at h1
        rw [List.getElem?_append_left (by rw [← r.len]; exact hi)] at h3
        exact .inl ⟨hi, h1, h3⟩
      · have hi0 : i = μ.length := by
          have := (List.getElem?_eq_some_iff.mp h1).1
          rw [List.length_append] at this
          simp at this
          omega
        subst hi0
        rw [r.len, List.getElem?_append_right (Nat.le_refl _), Nat.sub_self] at h3
        simp at h3
        exact .inr ⟨rfl, h3.symm⟩
    rcases key i c1 h1 h3 with ⟨_, a1, a2⟩ | ⟨rfl, a2⟩ <;> rcases key j c2 h2 h4 with ⟨_, b1, b2⟩ | ⟨rfl, b2⟩
    · exact r.inj i j a c1 c2 a1 b1 a2 b2
    · exact absurd (b2 ▸ List.mem_of_getElem? a2) hn
    · exact absurd (a2 ▸ List.mem_of_getElem? b2) hn
    · rfl
  · rcases List.mem_append.mp m with m | m
    · exact r.had a m
    · simp at m
      subst m
      rw [hp]
      exact fun z => nomatch z
end
end TL
/-! TL1: cells written, frozen, dropped; readings from semantic functions. -/
namespace TL
open PySem PySem.Spec L2
section
variable {K : PySem.W.Frag} {α α' α'' : List Addr} {F F' F'' H H' H'' : Hp} {μ μ' : Mu}
theorem Rep.write {k : Nat} {c c' : Cell} {a : Addr} {vs' : List V} (r : Rep K α F μ H) (hk : μ[k]? = some (some c)) (ha : α[k]? = some a) (h' : DqAll K F vs' c') :
    Rep K α F (μ.set k (some c')) (upd H a (.lst vs')) ∧ Ext α F H α F (upd H a (.lst vs')) := by
  obtain ⟨a0, vs, h1, h2, h3, h4⟩ := r.cell k c hk
  rw [ha] at h1
  cases h1
  have sF : Same F (upd H a (.lst vs')) := fun b u h => by
    rw [upd_ne (fun e => by rw [e, h3] at h; cases h)]
    exact r.sub _ _ h
  have hl : k < μ.length := (List.getElem?_eq_some_iff.mp hk).1
  have old : ∀ (i : Nat) (c1 : Cell), (μ.set k (some c'))[i]? = some (some c1) → ∃ c0, μ[i]? = some (some c0) := fun i c1 h => by
    by_cases hi : k = i
    · subst hi
      exact ⟨c, hk⟩
    · rw [List.getElem?_set_ne hi] at h
      exact ⟨c1, h⟩
  refine ⟨⟨by rw [List.length_set]; exact r.len, sF, fun i c1 h => ?_, fun i j b c1 c2 q1 q2 q3 q4 => ?_, fun b m => ?_⟩, ⟨⟨[], by simp⟩, Same.refl _, fun b u h n => ?_, fun b h => ?_, fun b h => .inl h, fun b h => .inl h⟩⟩
  · by_cases hi : k = i
    · subst hi
      rw [List.getElem?_set_self hl] at h
      cases h
      exact ⟨a, vs', ha, upd_same, h3, h'⟩
    · rw [List.getElem?_set_ne hi] at h
      obtain ⟨b, ws, g1, g2, g3, g4⟩ := r.cell i c1 h
      have ne : b ≠ a := fun e => hi (r.inj k i a c c1 hk h ha (by rw [← e]; exact g1))
      exact ⟨b, ws, g1, by rw [upd_ne ne]; exact g2, g3, g4⟩
  · obtain ⟨d1, e1⟩ := old i c1 q1
    obtain ⟨d2, e2⟩ := old j c2 q2
    exact r.inj i j b d1 d2 e1 e2 q3 q4
  · by_cases e : b = a
    · rw [e, upd_same]
      exact fun z => nomatch z
    · rw [upd_ne e]
      exact r.had b m
  · have ne : b ≠ a := fun e => n (by rw [e]; exact List.mem_of_getElem? ha)
    rw [upd_ne ne]
    exact h
  · by_cases e : b = a
    · rw [e, upd_same]
      exact fun z => nomatch z
    · rw [upd_ne e]
      exact h
theorem Rep.freeze {k : Nat} {c : Cell} (r : Rep K α F μ H) (hk : μ[k]? = some (some c)) :
    ∃ F', Rep K α F' (μ.set k none) H ∧ Ext α F H α F' H ∧ ∀ v, Rw K α F v (.r k) → Dq K F' v (.list c) := by
  obtain ⟨a, vs, h1, h2, h3, h4⟩ := r.cell k c hk
  have hl : k < μ.length := (List.getElem?_eq_some_iff.mp hk).1
  have sF : Same F (upd F a (.lst vs)) := fun b u h => by
    rw [upd_ne (ne_of_none h h3)]
    exact h
  have ham : a ∈ α := List.mem_of_getElem? h1
  refine ⟨upd F a (.lst vs), ⟨by rw [List.length_set]; exact r.len, fun b u h => ?_, fun i c1 h => ?_, fun i j b c1 c2 q1 q2 q3 q4 => ?_, r.had⟩, ⟨⟨[], by simp⟩, sF, fun b u h n => h, fun b h => h, fun b h => ?_, fun b h => .inl h⟩, fun v q => ?_⟩
  · by_cases e : b = a
    · subst e
      rw [upd_same] at h
      cases h
      exact h2
    · rw [upd_ne e] at h
      exact r.sub _ _ h
  · by_cases hi : k = i
    · subst hi
      rw [List.getElem?_set_self hl] at h
      cases h
    · rw [List.getElem?_set_ne hi] at h
      obtain ⟨b, ws, g1, g2, g3, g4⟩ := r.cell i c1 h
      have ne : b ≠ a := fun e => hi (r.inj k i a c c1 hk h h1 (by rw [← e]; exact g1))
      exact ⟨b, ws, g1, g2, by rw [upd_ne ne]; exact g3, g4.mono sF⟩
  · have old : ∀ (i : Nat) (c1 : Cell), (μ.set k none)[i]? = some (some c1) → μ[i]? = some (some c1) := fun i c1 h => by
      by_cases hi : k = i
      · subst hi
        rw [List.getElem?_set_self hl] at h
        cases h
      · rw [List.getElem?_set_ne hi] at h
        exact h
    exact r.inj i j b c1 c2 (old _ _ q1) (old _ _ q2) q3 q4
  · by_cases e : b = a
    · rw [e]
      exact .inr (.inr ham)
    · rw [upd_ne e] at h
      exact .inl h
  · obtain ⟨b, g1, rfl⟩ := q
    rw [h1] at g1
    cases g1
    exact .lst (.of upd_same) (h4.mono sF)
/-- behind a call: the callee's cells forgotten -/
theorem Rep.drop {n : Nat} (e : Ext α F H α' F' H') (hn : n = α.length) (r : Rep K α' F' μ' H') : Rep K α F' (μ'.take n) H' ∧ Ext α F H α F' H' := by
  subst hn
  obtain ⟨β, rfl⟩ := e.pre
  have at_ : ∀ (k : Nat) (c : Cell), (μ'.take α.length)[k]? = some (some c) → k < α.length ∧ μ'[k]? = some (some c) := fun k c h => by
    rw [List.getElem?_take] at h
    split at h
    · exact ⟨by assumption, h⟩
    · cases h
  have al : ∀ (k : Nat), k < α.length → (α ++ β)[k]? = α[k]? := fun k h => List.getElem?_append_left h
  refine ⟨⟨?_, r.sub, fun k c h => ?_, fun i j a c1 c2 q1 q2 q3 q4 => ?_, fun a m => r.had a (List.mem_append_left _ m)⟩, ⟨⟨[], by simp⟩, e.fro, e.frame, e.keep, e.newF, fun a h => .inl h⟩⟩
  · rw [List.length_take, r.len, List.length_append]
    omega
  · obtain ⟨hk, h⟩ := at_ k c h
    obtain ⟨a, vs, g1, g2, g3, g4⟩ := r.cell k c h
    rw [al k hk] at g1
    exact ⟨a, vs, g1, g2, g3, g4⟩
  · obtain ⟨l1, q1⟩ := at_ i c1 q1
    obtain ⟨l2, q2⟩ := at_ j c2 q2
    exact r.inj i j a c1 c2 q1 q2 (by rw [al i l1]; exact q3) (by rw [al j l2]; exact q4)
/-- .. all but one, that is handed back -/
theorem Rep.drop1 {n k : Nat} {c : Cell} (e : Ext α F H α' F' H') (hn : n = α.length) (r : Rep K α' F' μ' H') (hk : n ≤ k) (hc : μ'[k]? = some (some c)) :
    ∃ a, α'[k]? = some a ∧ Rep K (α ++ [a]) F' (μ'.take n ++ [some c]) H' ∧ Ext α F H (α ++ [a]) F' H' := by
  obtain ⟨a, vs, g1, g2, g3, g4⟩ := r.cell k c hc
  obtain ⟨r', e'⟩ := r.drop e hn
  subst hn
  have na : a ∈ α ∨ H a = none := e.newA a (List.mem_of_getElem? g1)
  obtain ⟨β, rfl⟩ := e.pre
  have kl : k < (α ++ β).length := (List.getElem?_eq_some_iff.mp g1).1
  have ml : (μ'.take α.length).length = α.length := r'.len
  have at_ : ∀ (i : Nat) (c1 : Cell) (b : Addr), (μ'.take α.length ++ [some c])[i]? = some (some c1) → (α ++ [a])[i]? = some b → (i < α.length ∧ (μ'.take α.length)[i]? = some (some c1) ∧ α[i]? = some b) ∨ (i = α.length ∧ c1 = c ∧ b = a) := fun i c1 b h1 h3 => by
    by_cases hi : i < α.length
    · rw [List.getElem?_append_left (by omega)] at h1
      rw [List.getElem?_append_left hi] at h3
      exact .inl ⟨hi, h1, h3⟩
    · have hi0 : i = α.length := by
        have := (List.getElem?_eq_some_iff.mp h1).1
        rw [List.length_append, ml] at this
        simp at this
        omega
      subst hi0
      rw [List.getElem?_append_right (Nat.le_refl _), Nat.sub_self] at h3
      rw [List.getElem?_append_right (by omega), ml, Nat.sub_self] at h1
      simp at h1 h3
      exact .inr ⟨rfl, h1.symm, h3.symm⟩
  have far : ∀ (i : Nat) (c1 : Cell), i < α.length → (μ'.take α.length)[i]? = some (some c1) → α[i]? = some a → False := fun i c1 hi q1 q2 => by
    rw [List.getElem?_take, if_pos hi] at q1
    have := r.inj k i a c c1 hc q1 g1 (by rw [List.getElem?_append_left hi]; exact q2)
    omega
  refine ⟨a, g1, ⟨by simp [ml], r.sub, fun i c1 h => ?_, fun i j b c1 c2 q1 q2 q3 q4 => ?_, fun b m => ?_⟩, ⟨⟨[a], rfl⟩, e'.fro, e'.frame, e'.keep, e'.newF, fun b m => ?_⟩⟩
  · have hb : i < (α ++ [a]).length := by
      have := (List.getElem?_eq_some_iff.mp h).1
      rw [List.length_append, ml] at this
      simpa using this
    obtain ⟨b, hb⟩ : ∃ b, (α ++ [a])[i]? = some b := ⟨_, List.getElem?_eq_getElem hb⟩
    rcases at_ i c1 b h hb with ⟨hi, q1, q2⟩ | ⟨rfl, rfl, rfl⟩
    · obtain ⟨b', ws, z1, z2, z3, z4⟩ := r'.cell i c1 q1
      rw [q2] at z1
      cases z1
      exact ⟨b, ws, hb, z2, z3, z4⟩
    · exact ⟨b, vs, hb, g2, g3, g4⟩
  · rcases at_ i c1 b q1 q3 with ⟨hi, a1, a2⟩ | ⟨rfl, rfl, rfl⟩ <;> rcases at_ j c2 b q2 q4 with ⟨hj, b1, b2⟩ | ⟨rfl, rfl, z⟩
    · exact r'.inj i j b c1 c2 a1 b1 a2 b2
    · subst z
      exact (far i c1 hi a1 a2).elim
    · exact (far j c2 hj b1 b2).elim
    · rfl
  · rcases List.mem_append.mp m with m | m
    · exact r'.had b m
    · simp at m
      rw [m, g2]
      exact fun z => nomatch z
  · rcases List.mem_append.mp m with m | m
    · exact .inl m
    · simp at m
      subst m
      exact na
end

/-! ### what is wanted behind a computation -/
def gp (K : PySem.W.Frag) (mg : Str → Option Value) {γ : Type} (α : List Addr) (F H : Hp) (o : Out γ) (G : γ → Mu → List Addr → Hp → Hp → Prop) (X : XK) : Prop :=
  match o with
  | .ok c μ' => ∀ α' F' H', Ext α F H α' F' H' → Rep K α' F' μ' H' → G c μ' α' F' H'
  | .err x ws μ' => ∀ α' F' H' C d fs, Ext α F H α' F' H' → Rep K α' F' μ' H' → mg x = some (.ref C) → H' d = some (.xd fs) → Rws K α' F' (fs.map (·.2)) ws → X (.ref C) (some d) H'
  | .bad => False
section
variable {K : PySem.W.Frag} {mg : Str → Option Value} {γ δ : Type} {α α' : List Addr} {F F' H H' : Hp} {o : Out γ} {G G' : γ → Mu → List Addr → Hp → Hp → Prop} {X : XK}
theorem gp.mono (h : gp K mg α F H o G X) (hG : ∀ c μ' α' F' H', Ext α F H α' F' H' → Rep K α' F' μ' H' → G c μ' α' F' H' → G' c μ' α' F' H') : gp K mg α F H o G' X := by
  cases o with
  | ok c μ' => exact fun α' F' H' e r => hG _ _ _ _ _ e r (h α' F' H' e r)
  | err x ws μ' => exact h
  | bad => exact h
theorem gp.base (h : gp K mg α F H o G X) (e : Ext α F H α' F' H') : gp K mg α' F' H' o G X := by
  cases o with
  | ok c μ' => exact fun α1 F1 H1 e1 r => h _ _ _ (e.trans e1) r
  | err x ws μ' => exact fun α1 F1 H1 C d fs e1 r => h _ _ _ C d fs (e.trans e1) r
  | bad => exact h
theorem gp.bind {k : γ → Mu → Out δ} {G : δ → Mu → List Addr → Hp → Hp → Prop} (h : gp K mg α F H (o.bind k) G X) :
    gp K mg α F H o (fun c μ' α' F' H' => gp K mg α' F' H' (k c μ') G X) X := by
  cases o with
  | ok c μ' => exact fun α' F' H' e r => gp.base (o := k c μ') h e
  | err x ws μ' => exact h
  | bad => exact h
theorem gp.unbind {k : γ → Mu → Out δ} {G : δ → Mu → List Addr → Hp → Hp → Prop} {μ : Mu} (r : Rep K α F μ H) {c : γ} (ho : o = .ok c μ) (h : gp K mg α F H (o.bind k) G X) : gp K mg α F H (k c μ) G X := by
  subst ho
  exact h
theorem gp.now {c : γ} {μ : Mu} (h : gp K mg α F H (.ok c μ) G X) (r : Rep K α F μ H) : G c μ α F H := h _ _ _ .refl r
theorem gp.at {c : γ} {μ : Mu} (h : gp K mg α F H (.ok c μ) G X) (e : Ext α F H α' F' H') (r : Rep K α' F' μ H') : G c μ α' F' H' := h _ _ _ e r
end
end TL
/-! TL2: readings from semantic functions; the structural rules. -/
namespace TL
open PySem PySem.Spec L2

abbrev Ev := Rho → Mu → Out Wv
abbrev Bv := Rho → Mu → Out Bool
abbrev Av := Rho → Mu → Out (List Wv)
abbrev Lv := Rho → Mu → Out Cell
inductive Fl where
  | nx (ρ : Rho)
  | rt (w : Wv)
  | bk (ρ : Rho)
  | ct (ρ : Rho)
  | er (x : Str) (ws : List Wv) (ρ : Rho)
abbrev Sv := Rho → Mu → Out Fl
/-- a target: the value stored -/
abbrev Gv := Wv → Rho → Mu → Out Rho

/-- what is wanted of a value, of a list just made -/
abbrev Gw (K : PySem.W.Frag) (Q : VK) : Wv → Mu → List Addr → Hp → Hp → Prop := fun w _ α' F' H' => ∀ v, Rw K α' F' v w → Q v H'
abbrev Gl' (K : PySem.W.Frag) (H : Hp) (Q : VK) : Cell → Mu → List Addr → Hp → Hp → Prop := fun c _ α' F' H' => ∀ (D : Addr) (vs : List V), H D = none → H' D = some (.lst vs) → F' D = none → D ∉ α' → DqAll K F' vs c → Q (.ref D) H'

section
variable (K : PySem.W.Frag) (mg : Str → Option Value) (W : WX)
def tE (f : Ev) : TE := fun σ H Q => ∃ ρ μ α F, Rep K α F μ H ∧ RepE K α F ρ σ ∧ gp K mg α F H (f ρ μ) (Gw K Q) (fun c d H' => W c d σ H')
def tT (f : Bv) : TT := fun σ H Q => ∃ ρ μ α F, Rep K α F μ H ∧ RepE K α F ρ σ ∧ gp K mg α F H (f ρ μ) (fun b _ _ _ H' => Q b H') (fun c d H' => W c d σ H')
def tA (f : Av) : TA := fun σ H Q => ∃ ρ μ α F, Rep K α F μ H ∧ RepE K α F ρ σ ∧ gp K mg α F H (f ρ μ) (fun ws _ α' F' H' => ∀ vs, Rws K α' F' vs ws → Q vs H') (fun c d H' => W c d σ H')
def tL (f : Lv) : TE := fun σ H Q => ∃ ρ μ α F, Rep K α F μ H ∧ RepE K α F ρ σ ∧ gp K mg α F H (f ρ μ) (Gl' K H Q) (fun c d H' => W c d σ H')
def GS (D : Ends) : Fl → Mu → List Addr → Hp → Hp → Prop := fun fl μ' α' F' H' =>
  match fl with
  | .nx ρ' => ∀ σ', RepE K α' F' ρ' σ' → D.nx σ' H'
  | .bk ρ' => ∀ σ', RepE K α' F' ρ' σ' → D.bk σ' H'
  | .ct ρ' => ∀ σ', RepE K α' F' ρ' σ' → D.ct σ' H'
  | .rt w => ∀ v, Rw K α' F' v w → D.rt v H'
  | .er x ws ρ' => ∀ σ' C d fs, RepE K α' F' ρ' σ' → mg x = some (.ref C) → H' d = some (.xd fs) → Rws K α' F' (fs.map (·.2)) ws → W (.ref C) (some d) σ' H'
def tS (g : Sv) : TS := fun D σ H => ∃ ρ μ α F, Rep K α F μ H ∧ RepE K α F ρ σ ∧ gp K mg α F H (g ρ μ) (GS K mg W D) (fun _ _ _ => False)
def tG (t : Gv) : TG := fun v σ H Q => ∃ ρ μ α F w, Rep K α F μ H ∧ RepE K α F ρ σ ∧ Rw K α F v w ∧ gp K mg α F H (t w ρ μ) (fun ρ' _ α' F' H' => ∀ σ', RepE K α' F' ρ' σ' → Q σ' H') (fun _ _ _ => False)
end
abbrev SE (X : Cx) (W : WX) (e : Expr) (f : Ev) : Prop := PE X e (tE X.K X.mg W f)
abbrev ST (X : Cx) (W : WX) (e : Expr) (f : Bv) : Prop := PT X e (tT X.K X.mg W f)
abbrev SA (X : Cx) (W : WX) (es : List Expr) (f : Av) : Prop := PA X es (tA X.K X.mg W f)
abbrev SL (X : Cx) (W : WX) (e : Expr) (f : Lv) : Prop := PE X e (tL X.K X.mg W f)
abbrev SS (X : Cx) (W : WX) (st : Stmt) (g : Sv) : Prop := PS X st (tS X.K X.mg W g)
abbrev SSs (X : Cx) (W : WX) (st : List Stmt) (g : Sv) : Prop := PSs X st (tS X.K X.mg W g)
abbrev SG (X : Cx) (tg : Expr) (t : Gv) : Prop := PG X tg (tG X.K X.mg t)

theorem _root_.L2.PE.imp {X : Cx} {e : Expr} {t t' : TE} (h : PE X e t) (i : ∀ σ H Q, t' σ H Q → t σ H Q) : PE X e t' := ⟨fun pins s σ H Q I q => h.run pins s σ H Q I (i _ _ _ q)⟩
theorem _root_.L2.PT.imp {X : Cx} {e : Expr} {t t' : TT} (h : PT X e t) (i : ∀ σ H Q, t' σ H Q → t σ H Q) : PT X e t' := ⟨fun pins s σ H Q I q => h.run pins s σ H Q I (i _ _ _ q)⟩
theorem _root_.L2.PA.imp {X : Cx} {e : List Expr} {t t' : TA} (h : PA X e t) (i : ∀ σ H Q, t' σ H Q → t σ H Q) : PA X e t' := ⟨fun pos pins s σ H Q I q => h.run pos pins s σ H Q I (i _ _ _ q)⟩
theorem _root_.L2.PS.imp {X : Cx} {e : Stmt} {t t' : TS} (h : PS X e t) (i : ∀ D σ H, t' D σ H → t D σ H) : PS X e t' := ⟨fun pins s σ H D I q => h.run pins s σ H D I (i _ _ _ q)⟩
theorem _root_.L2.PSs.imp {X : Cx} {e : List Stmt} {t t' : TS} (h : PSs X e t) (i : ∀ D σ H, t' D σ H → t D σ H) : PSs X e t' := ⟨fun pins s σ H D I q => h.run pins s σ H D I (i _ _ _ q)⟩
theorem _root_.L2.PG.imp {X : Cx} {e : Expr} {t t' : TG} (h : PG X e t) (i : ∀ v σ H Q, t' v σ H Q → t v σ H Q) : PG X e t' := ⟨fun pins s σ H v u Q I r q => h.run pins s σ H v u Q I r (i _ _ _ _ q)⟩

theorem gp.bind0 {K : PySem.W.Frag} {mg : Str → Option Value} {γ δ : Type} {α : List Addr} {F H : Hp} {o : Out γ} {X : XK} {k : γ → Mu → Out δ} {G : δ → Mu → List Addr → Hp → Hp → Prop} (h : gp K mg α F H (o.bind k) G X) :
    gp K mg α F H o (fun c μ' _ _ _ => gp K mg α F H (k c μ') G X) X := by
  cases o with
  | ok c μ' => exact fun α' F' H' e r => h
  | err x ws μ' => exact h
  | bad => exact h

/-! ### what functions on values ask -/
/-- a result of an operation that raises nothing -/
def r1G (K : PySem.W.Frag) (mg : Str → Option Value) (g : Wv → Mu → Out Wv) : V → Hp → VK → Prop := fun x H Q => ∃ μ α F w, Rep K α F μ H ∧ Rw K α F x w ∧ gp K mg α F H (g w μ) (Gw K Q) (fun _ _ _ => False)
def r2G (K : PySem.W.Frag) (mg : Str → Option Value) (g : Wv → Wv → Mu → Out Wv) : R2 := fun x y H Q => ∃ μ α F w1 w2, Rep K α F μ H ∧ Rw K α F x w1 ∧ Rw K α F y w2 ∧ gp K mg α F H (g w1 w2 μ) (Gw K Q) (fun _ _ _ => False)
def rnG (K : PySem.W.Frag) (mg : Str → Option Value) (g : List Wv → Mu → Out Wv) : List V → Hp → VK → Prop := fun xs H Q => ∃ μ α F ws, Rep K α F μ H ∧ Rws K α F xs ws ∧ gp K mg α F H (g ws μ) (Gw K Q) (fun _ _ _ => False)
/-- raising turned into nothing promised -/
def calm {γ : Type} (o : Out γ) : Out γ := match o with
  | .ok c μ => .ok c μ
  | _ => .bad
theorem gp.calm {K : PySem.W.Frag} {mg : Str → Option Value} {γ : Type} {α : List Addr} {F H : Hp} {o : Out γ} {G : γ → Mu → List Addr → Hp → Hp → Prop} {X X' : XK} (h : gp K mg α F H (TL.calm o) G X) : gp K mg α F H o G X' := by
  cases o with
  | ok c μ' => exact h
  | err x ws μ' => exact h.elim
  | bad => exact h
theorem gp.none {K : PySem.W.Frag} {mg : Str → Option Value} {γ : Type} {α : List Addr} {F H : Hp} {o : Out γ} {G : γ → Mu → List Addr → Hp → Hp → Prop} {X : XK} (h : gp K mg α F H (TL.calm o) G X) : gp K mg α F H (TL.calm o) G (fun _ _ _ => False) := by
  cases o with
  | ok c μ' => exact h
  | err x ws μ' => exact h.elim
  | bad => exact h

/-! ### semantic combinators -/
def eVar (i : Nat) : Ev := fun ρ μ => match ρ[i]? with
  | some (some w) => .ok w μ
  | _ => .bad
def eK (x : PyData) : Ev := fun _ μ => .ok (.d x) μ
def e1 (g : Wv → Mu → Out Wv) (a : Ev) : Ev := fun ρ μ => (a ρ μ).bind fun w μ1 => calm (g w μ1)
def e2 (g : Wv → Wv → Mu → Out Wv) (a b : Ev) : Ev := fun ρ μ => (a ρ μ).bind fun w μ1 => (b ρ μ1).bind fun u μ2 => calm (g w u μ2)
def en (g : List Wv → Mu → Out Wv) (as : Av) : Ev := fun ρ μ => (as ρ μ).bind fun ws μ1 => calm (g ws μ1)
def eCall (g : List Wv → Mu → Out Wv) (as : Av) : Ev := fun ρ μ => (as ρ μ).bind g
def aNil : Av := fun _ μ => .ok [] μ
def aCons (a : Ev) (as : Av) : Av := fun ρ μ => (a ρ μ).bind fun w μ1 => (as ρ μ1).bind fun ws μ2 => .ok (w :: ws) μ2
/-- all are data -/
def allD : List Wv → Option (List PyData)
  | [] => some []
  | .d x :: r => (allD r).map (x :: ·)
  | .r _ :: _ => none
  | .t _ :: _ => none
def lDisp (as : Av) : Lv := fun ρ μ => (as ρ μ).bind fun ws μ1 => match allD ws with
  | some c => if c.length ≤ 16777216 then .ok c μ1 else .bad
  | none => .bad
def eTup (as : Av) : Ev := fun ρ μ => (lDisp as ρ μ).bind fun c μ1 => .ok (.d (.tuple c)) μ1
def eFrz (l : Lv) : Ev := fun ρ μ => (l ρ μ).bind fun c μ1 => .ok (.d (.list c)) μ1
def eNew (l : Lv) : Ev := fun ρ μ => (l ρ μ).bind fun c μ1 => .ok (.r μ1.length) (μ1 ++ [some c])
def wB (w : Wv) (μ : Mu) : Out Bool := match w with
  | .d (.bool b) => .ok b μ
  | _ => .bad
def tB' (a : Ev) : Bv := fun ρ μ => (a ρ μ).bind wB
def eB (a : Bv) : Ev := fun ρ μ => (a ρ μ).bind fun b μ1 => .ok (.d (.bool b)) μ1
def bNot (a : Bv) : Bv := fun ρ μ => (a ρ μ).bind fun b μ1 => .ok (!b) μ1
def bAnd (a b : Bv) : Bv := fun ρ μ => (a ρ μ).bind fun c μ1 => if c = true then b ρ μ1 else .ok false μ1
def bOr (a b : Bv) : Bv := fun ρ μ => (a ρ μ).bind fun c μ1 => if c = true then .ok true μ1 else b ρ μ1
def eAnd (a b : Ev) : Ev := fun ρ μ => (a ρ μ).bind fun w μ0 => (wB w μ0).bind fun c μ1 => if c = true then b ρ μ1 else .ok (.d (.bool false)) μ1
def eOr (a b : Ev) : Ev := fun ρ μ => (a ρ μ).bind fun w μ0 => (wB w μ0).bind fun c μ1 => if c = true then .ok (.d (.bool true)) μ1 else b ρ μ1
def eNot (a : Ev) : Ev := fun ρ μ => (a ρ μ).bind fun w μ0 => (wB w μ0).bind fun c μ1 => .ok (.d (.bool (!c))) μ1
def eIf (c : Bv) (a b : Ev) : Ev := fun ρ μ => (c ρ μ).bind fun c μ1 => if c = true then a ρ μ1 else b ρ μ1
def bIf (c : Bv) (a b : Bv) : Bv := fun ρ μ => (c ρ μ).bind fun c μ1 => if c = true then a ρ μ1 else b ρ μ1

theorem wB_ok {K : PySem.W.Frag} {mg : Str → Option Value} {α : List Addr} {F H : Hp} {w : Wv} {v : V} {μ : Mu} {G : Bool → Mu → List Addr → Hp → Hp → Prop} {X : XK} (h : gp K mg α F H (wB w μ) G X) (r : Rw K α F v w) : ∃ b, v = .bl b ∧ w = .d (.bool b) ∧ gp K mg α F H (.ok b μ) G X := by
  cases w with
  | r k => exact h.elim
  | t ds => exact h.elim
  | d x =>
    cases x with
    | bool b =>
      cases r
      exact ⟨b, rfl, rfl, h⟩
    | _ => exact h.elim

section
variable {X : Cx} {W : WX}
theorem se_var {i : Nat} {x : Str} {pos : Pos} (hN : X.N[i]? = some x) (hv : Vis X.env.scope x) (hd : (x == ("__debug__" : Str)) = false) (hcd : (x == ("__classdict__" : Str)) = false) : SE X W (.Name x pos) (eVar i) := by
  refine (pe_var hN hv hd hcd).imp fun σ H Q h => ?_
  obtain ⟨ρ, μ, α, F, r, re, q⟩ := h
  unfold eVar at q
  split at q
  · rename_i w e
    obtain ⟨v, h1, h2⟩ := re.at_ i w e
    exact ⟨v, h1, q.now r v h2⟩
  · exact q.elim
theorem se_int {i j pos} : SE X W (.Constant (.int i) j pos) (eK (.int i)) := pe_int.imp fun σ H Q ⟨_, _, _, _, r, _, q⟩ => q.now r _ (.int i)
theorem se_str {i j pos} : SE X W (.Constant (.str i) j pos) (eK (.str i)) := pe_str.imp fun σ H Q ⟨_, _, _, _, r, _, q⟩ => q.now r _ (.str i)
theorem se_bl {i j pos} : SE X W (.Constant (.bool i) j pos) (eK (.bool i)) := pe_bl.imp fun σ H Q ⟨_, _, _, _, r, _, q⟩ => q.now r _ (.bl i)
theorem se_non {j pos} : SE X W (.Constant .none j pos) (eK .none) := pe_non.imp fun σ H Q ⟨_, _, _, _, r, _, q⟩ => q.now r _ .non
/-- a constant of the module -/
theorem se_glob {x : Str} {v : V} {u : Value} {c : PyData} {pos : Pos} (hg : Gl X x) (hm : X.mg x = some u) (r : RelV v u) (hc : ∀ F, Dq X.K F v c) (hd : (x == ("__debug__" : Str)) = false) : SE X W (.Name x pos) (eK c) :=
  (pe_glob hg hm r hd).imp fun σ H Q ⟨_, _, _, _, r, _, q⟩ => q.now r _ (hc _)

/-! arguments -/
theorem sa_nil : SA X W [] aNil := pa_nil.imp fun σ H Q ⟨_, _, _, _, r, _, q⟩ => q.now r [] .nil
theorem sa_cons {e : Expr} {es : List Expr} {a : Ev} {as : Av} (ha : SE X W e a) (hr : SA X W es as) (hs : starEach (e :: es) X.env = (false, eval e X.env) :: starEach es X.env) : SA X W (e :: es) (aCons a as) := by
  refine (pa_cons ha hr hs).imp fun σ H Q ⟨ρ, μ, α, F, r, re, q⟩ => ?_
  refine ⟨ρ, μ, α, F, r, re, q.bind.mono fun w μ1 α1 F1 H1 x1 r1 q1 v rv => ?_⟩
  refine ⟨ρ, μ1, α1, F1, r1, re.ext x1, q1.bind.mono fun ws μ2 α2 F2 H2 x2 r2 q2 vs rvs => ?_⟩
  exact q2.now r2 (v :: vs) (.cons (rv.ext x2) rvs)

/-! operators on values -/
theorem se_op {a b : Expr} {op : Operator} {pos : Pos} {g : Wv → Wv → Mu → Out Wv} {fa fb : Ev} (ho : OpR X (binaryOp op) (r2G X.K X.mg g)) (ha : SE X W a fa) (hb : SE X W b fb) : SE X W (.BinOp a op b pos) (e2 g fa fb) := by
  refine (pe_op ho ha hb).imp fun σ H Q ⟨ρ, μ, α, F, r, re, q⟩ => ?_
  refine ⟨ρ, μ, α, F, r, re, q.bind.mono fun w μ1 α1 F1 H1 x1 r1 q1 v rv => ?_⟩
  refine ⟨ρ, μ1, α1, F1, r1, re.ext x1, q1.bind.mono fun u μ2 α2 F2 H2 x2 r2 q2 v' rv' => ?_⟩
  exact ⟨μ2, α2, F2, w, u, r2, rv.ext x2, rv', q2.calm⟩
theorem se_un {a : Expr} {op : UnaryOp} {pos : Pos} {g : Wv → Mu → Out Wv} {fa : Ev} (ho : UnR X (unaryOp op) (r1G X.K X.mg g)) (ha : SE X W a fa) : SE X W (.UnaryOp op a pos) (e1 g fa) := by
  refine (pe_un ho ha).imp fun σ H Q ⟨ρ, μ, α, F, r, re, q⟩ => ?_
  refine ⟨ρ, μ, α, F, r, re, q.bind.mono fun w μ1 α1 F1 H1 x1 r1 q1 v rv => ?_⟩
  exact ⟨μ1, α1, F1, w, r1, rv, q1.calm⟩
theorem se_cmp {a b : Expr} {op : CmpOp} {pos : Pos} {g : Wv → Wv → Mu → Out Wv} {fa fb : Ev} (ho : OpR X (compareOp op) (r2G X.K X.mg g)) (ha : SE X W a fa) (hb : SE X W b fb) (hm : behindInMarks op b = false) : SE X W (.Compare a [op] [b] pos) (e2 g fa fb) := by
  refine (pe_cmpR ho ha hb hm).imp fun σ H Q ⟨ρ, μ, α, F, r, re, q⟩ => ?_
  refine ⟨ρ, μ, α, F, r, re, q.bind.mono fun w μ1 α1 F1 H1 x1 r1 q1 v rv => ?_⟩
  refine ⟨ρ, μ1, α1, F1, r1, re.ext x1, q1.bind.mono fun u μ2 α2 F2 H2 x2 r2 q2 v' rv' => ?_⟩
  exact ⟨μ2, α2, F2, w, u, r2, rv.ext x2, rv', q2.calm⟩
theorem st_cmp {a b : Expr} {op : CmpOp} {pos : Pos} {g : Wv → Wv → Mu → Out Wv} {fa fb : Ev} (ho : OpR X (compareOp op) (r2G X.K X.mg g)) (ha : SE X W a fa) (hb : SE X W b fb) (hm : behindInMarks op b = false) : ST X W (.Compare a [op] [b] pos) (tB' (e2 g fa fb)) := by
  refine (pt_cmpR ho ha hb hm).imp fun σ H Q ⟨ρ, μ, α, F, r, re, q⟩ => ?_
  refine ⟨ρ, μ, α, F, r, re, q.bind.bind.mono fun w μ1 α1 F1 H1 x1 r1 q1 v rv => ?_⟩
  refine ⟨ρ, μ1, α1, F1, r1, re.ext x1, q1.bind.mono fun u μ2 α2 F2 H2 x2 r2 q2 v' rv' => ?_⟩
  refine ⟨μ2, α2, F2, w, u, r2, rv.ext x2, rv', q2.calm.mono fun z μ3 α3 F3 H3 x3 r3 q3 v3 rv3 => ?_⟩
  obtain ⟨c, rfl, rfl, q4⟩ := wB_ok q3 rv3
  exact ⟨c, rfl, q4.now r3⟩
theorem st_val {e : Expr} {f : Ev} (h : SE X W e f) (he : ∀ whole, isTrue e X.env whole = (do let v ← whole; standAt e.pos; holding [v] (truthy v))) : ST X W e (tB' f) := by
  refine (pt_val h he).imp fun σ H Q ⟨ρ, μ, α, F, r, re, q⟩ => ?_
  refine ⟨ρ, μ, α, F, r, re, q.bind.mono fun w μ1 α1 F1 H1 x1 r1 q1 v rv => ?_⟩
  obtain ⟨c, rfl, rfl, q2⟩ := wB_ok q1 rv
  exact ⟨c, rfl, q2.now r1⟩
theorem st_not {a : Expr} {pos : Pos} {f : Bv} (ha : ST X W a f) : ST X W (.UnaryOp .Not a pos) (bNot f) := by
  refine (pt_not ha).imp fun σ H Q ⟨ρ, μ, α, F, r, re, q⟩ => ?_
  exact ⟨ρ, μ, α, F, r, re, q.bind.mono fun w μ1 α1 F1 H1 x1 r1 q1 => q1.now r1⟩
abbrev SW (X : Cx) (W : WX) (e : Expr) (f : Bv) : Prop := PW X e (tT X.K X.mg W f)
theorem _root_.L2.PW.imp {X : Cx} {e : Expr} {t t' : TT} (h : PW X e t) (i : ∀ σ H Q, t' σ H Q → t σ H Q) : PW X e t' := ⟨fun wh pins s σ H Q I q => h.run wh pins s σ H Q I (i _ _ _ q)⟩
theorem sw_and {a b : Expr} {rest : List Expr} {pos : Pos} {f g : Bv} (ha : ST X W a f) (hb : SW X W (.BoolOp .And (b :: rest) pos) g) : SW X W (.BoolOp .And (a :: b :: rest) pos) (bAnd f g) := by
  refine (pw_and ha hb).imp fun σ H Q ⟨ρ, μ, α, F, r, re, q⟩ => ?_
  refine ⟨ρ, μ, α, F, r, re, q.bind.mono fun c μ1 α1 F1 H1 x1 r1 q1 => ?_⟩
  cases c with
  | true => exact ⟨ρ, μ1, α1, F1, r1, re.ext x1, q1⟩
  | false => exact q1.now r1
theorem sw_or {a b : Expr} {rest : List Expr} {pos : Pos} {f g : Bv} (ha : ST X W a f) (hb : SW X W (.BoolOp .Or (b :: rest) pos) g) : SW X W (.BoolOp .Or (a :: b :: rest) pos) (bOr f g) := by
  refine (pw_or ha hb).imp fun σ H Q ⟨ρ, μ, α, F, r, re, q⟩ => ?_
  refine ⟨ρ, μ, α, F, r, re, q.bind.mono fun c μ1 α1 F1 H1 x1 r1 q1 => ?_⟩
  cases c with
  | false => exact ⟨ρ, μ1, α1, F1, r1, re.ext x1, q1⟩
  | true => exact q1.now r1
theorem sw_and1 {a : Expr} {pos : Pos} {f : Bv} (ha : ST X W a f) : SW X W (.BoolOp .And [a] pos) f := pw_and1 ha
theorem sw_or1 {a : Expr} {pos : Pos} {f : Bv} (ha : ST X W a f) : SW X W (.BoolOp .Or [a] pos) f := pw_or1 ha
theorem se_and {a b : Expr} {rest : List Expr} {pos : Pos} {f g : Ev} (ha : SE X W a f) (hb : SE X W (.BoolOp .And (b :: rest) pos) g) : SE X W (.BoolOp .And (a :: b :: rest) pos) (eAnd f g) := by
  refine (pe_and ha hb).imp fun σ H Q ⟨ρ, μ, α, F, r, re, q⟩ => ?_
  refine ⟨ρ, μ, α, F, r, re, q.bind.mono fun w μ1 α1 F1 H1 x1 r1 q1 v rv => ?_⟩
  obtain ⟨c, rfl, rfl, q2⟩ := wB_ok q1.bind0 rv
  refine ⟨c, rfl, ?_⟩
  cases c with
  | true => exact ⟨ρ, μ1, α1, F1, r1, re.ext x1, q1⟩
  | false => exact gp.now (c := Wv.d (.bool false)) q1 r1 _ (.bl false)
theorem se_or {a b : Expr} {rest : List Expr} {pos : Pos} {f g : Ev} (ha : SE X W a f) (hb : SE X W (.BoolOp .Or (b :: rest) pos) g) : SE X W (.BoolOp .Or (a :: b :: rest) pos) (eOr f g) := by
  refine (pe_or ha hb).imp fun σ H Q ⟨ρ, μ, α, F, r, re, q⟩ => ?_
  refine ⟨ρ, μ, α, F, r, re, q.bind.mono fun w μ1 α1 F1 H1 x1 r1 q1 v rv => ?_⟩
  obtain ⟨c, rfl, rfl, q2⟩ := wB_ok q1.bind0 rv
  refine ⟨c, rfl, ?_⟩
  cases c with
  | false => exact ⟨ρ, μ1, α1, F1, r1, re.ext x1, q1⟩
  | true => exact gp.now (c := Wv.d (.bool true)) q1 r1 _ (.bl true)
theorem se_one {op} {a : Expr} {pos : Pos} {f : Ev} (h : SE X W a f) : SE X W (.BoolOp op [a] pos) f := pe_one h
theorem se_not {a : Expr} {pos : Pos} {f : Ev} (ha : SE X W a f) : SE X W (.UnaryOp .Not a pos) (eNot f) := by
  refine (pe_not ha).imp fun σ H Q ⟨ρ, μ, α, F, r, re, q⟩ => ?_
  refine ⟨ρ, μ, α, F, r, re, q.bind.mono fun w μ1 α1 F1 H1 x1 r1 q1 v rv => ?_⟩
  obtain ⟨c, rfl, rfl, q2⟩ := wB_ok q1.bind0 rv
  exact ⟨c, rfl, gp.now (c := Wv.d (.bool (!c))) q1 r1 _ (.bl _)⟩
theorem se_if {c a b : Expr} {pos : Pos} {fc : Bv} {fa fb : Ev} (hc : ST X W c fc) (ha : SE X W a fa) (hb : SE X W b fb) : SE X W (.IfExp c a b pos) (eIf fc fa fb) := by
  refine (pe_ifExp hc ha hb).imp fun σ H Q ⟨ρ, μ, α, F, r, re, q⟩ => ?_
  refine ⟨ρ, μ, α, F, r, re, q.bind.mono fun c μ1 α1 F1 H1 x1 r1 q1 => ?_⟩
  cases c with
  | true => exact ⟨ρ, μ1, α1, F1, r1, re.ext x1, q1⟩
  | false => exact ⟨ρ, μ1, α1, F1, r1, re.ext x1, q1⟩

/-! displays -/
theorem allD_ok {K : PySem.W.Frag} {α : List Addr} {F : Hp} : ∀ {ws : List Wv} {c : Cell} {vs : List V}, allD ws = some c → Rws K α F vs ws → DqAll K F vs c
  | [], c, _, h, r => by
    cases r
    cases h
    exact .nil
  | .d x :: ws, c, _, h, r => by
    cases r with
    | cons r1 r2 =>
      unfold allD at h
      cases e : allD ws with
      | none =>
        rw [e] at h
        cases h
      | some c' =>
        rw [e] at h
        cases h
        exact .cons r1 (allD_ok e r2)
  | .r k :: ws, c, _, h, r => by cases h
  | .t ds :: ws, c, _, h, r => by cases h
theorem le_line {n : Nat} (h : n ≤ 16777216) : n ≤ sizeLine := by
  rw [sizeLine_eq]
  exact h
theorem sl_disp {es : List Expr} {pos : Pos} {as : Av} (h : SA X W es as) : SL X W (.List es pos) (lDisp as) := by
  refine (pe_lst h).imp fun σ H Q ⟨ρ, μ, α, F, r, re, q⟩ => ?_
  refine ⟨ρ, μ, α, F, r, re, q.bind0.mono fun ws μ1 α1 F1 H1 x1 r1 q1 vs rvs => ?_⟩
  cases e : allD ws with
  | none =>
    rw [e] at q1
    exact q1.elim
  | some c =>
    rw [e] at q1
    have q1' : gp X.K X.mg α F H (if c.length ≤ 16777216 then .ok c μ1 else .bad) (Gl' X.K H Q) (fun c d H' => W c d σ H') := q1
    have dq := allD_ok e rvs
    split at q1'
    · rename_i hl
      refine ⟨by rw [dq.length]; exact le_line hl, fun p hp => ?_⟩
      obtain ⟨r2, x2⟩ := r1.side (o := .lst vs) hp
      have hF : F1 p = none := r1.sub.free hp
      have hH : H p = none := by
        by_cases z : H p = none
        · exact z
        · exact absurd hp (x1.keep p z)
      exact q1'.at (x1.trans x2) r2 p vs hH upd_same hF (fun m => r1.had p m hp) dq
    · exact q1'.elim
theorem se_tup {es : List Expr} {x1} {pos : Pos} {as : Av} (h : SA X W es as) : SE X W (.Tuple es x1 pos) (eTup as) := by
  refine (pe_tup h).imp fun σ H Q ⟨ρ, μ, α, F, r, re, q⟩ => ?_
  refine ⟨ρ, μ, α, F, r, re, q.bind.bind.mono fun ws μ1 α1 F1 H1 x1 r1 q1 vs rvs => ?_⟩
  cases e : allD ws with
  | none =>
    rw [e] at q1
    exact q1.elim
  | some c =>
    rw [e] at q1
    have dq := allD_ok e rvs
    by_cases hl : c.length ≤ 16777216
    · have q2 : gp X.K X.mg α1 F1 H1 ((if c.length ≤ 16777216 then Out.ok c μ1 else .bad).bind fun c μ1 => .ok (.d (.tuple c)) μ1) (Gw X.K Q) (fun c d H' => W c d σ H') := by
        cases z : (if c.length ≤ 16777216 then Out.ok c μ1 else .bad) with
        | ok c' μ' =>
          have : gp X.K X.mg α1 F1 H1 (if c.length ≤ 16777216 then Out.ok c μ1 else .bad) _ _ := q1
          rw [z] at this
          exact fun α' F' H' e r => gp.now (this α' F' H' e r) r
        | err x ws μ' =>
          rw [if_pos hl] at z
          cases z
        | bad =>
          rw [if_pos hl] at z
          cases z
      rw [if_pos hl] at q2
      refine ⟨by rw [dq.length]; exact le_line hl, fun p hp => ?_⟩
      obtain ⟨r2, x2⟩ := r1.new (o := .tup vs) hp
      exact q2.at x2 r2 _ (.tup (.of upd_same) (dq.mono x2.fro))
    · have : gp X.K X.mg α1 F1 H1 (if c.length ≤ 16777216 then Out.ok c μ1 else .bad) _ _ := q1
      rw [if_neg hl] at this
      exact this.elim
theorem Ext.frozen {α α' : List Addr} {F F' H H' : Hp} {D : Addr} {o : HO} (e : Ext α F H α' F' H') (hD : H D = none) (hF : F' D = none) : Ext α F H α' (upd F' D o) H' :=
  ⟨e.pre, fun b u h => by
    have := e.fro _ _ h
    rw [upd_ne (ne_of_none this hF)]
    exact this, e.frame, e.keep, fun a h => by
    by_cases z : a = D
    · subst z
      exact .inr (.inl hD)
    · rw [upd_ne z] at h
      exact e.newF a h, e.newA⟩
theorem Ext.celled {α α' : List Addr} {F F' H H' : Hp} {D : Addr} (e : Ext α F H α' F' H') (hD : H D = none) : Ext α F H (α' ++ [D]) F' H' :=
  ⟨by
    obtain ⟨β, rfl⟩ := e.pre
    exact ⟨β ++ [D], by simp⟩, e.fro, e.frame, e.keep, e.newF, fun a h => by
    rcases List.mem_append.mp h with h | h
    · exact e.newA a h
    · simp at h
      subst h
      exact .inr hD⟩
theorem same_frozen {F : Hp} {D : Addr} {o : HO} (hF : F D = none) : Same F (upd F D o) := fun b u h => by
  rw [upd_ne (ne_of_none h hF)]
  exact h
theorem se_frz {e : Expr} {l : Lv} (h : SL X W e l) : SE X W e (eFrz l) := by
  refine h.imp fun σ H Q ⟨ρ, μ, α, F, r, re, q⟩ => ?_
  refine ⟨ρ, μ, α, F, r, re, q.bind0.mono fun c μ1 α1 F1 H1 x1 r1 q1 D vs hD hD1 hF hn dq => ?_⟩
  exact q1.at (x1.frozen hD hF) (r1.freezeSide hD1 hF hn) _ (.lst (.of upd_same) (dq.mono (same_frozen hF)))
theorem se_new {e : Expr} {l : Lv} (h : SL X W e l) : SE X W e (eNew l) := by
  refine h.imp fun σ H Q ⟨ρ, μ, α, F, r, re, q⟩ => ?_
  refine ⟨ρ, μ, α, F, r, re, q.bind0.mono fun c μ1 α1 F1 H1 x1 r1 q1 D vs hD hD1 hF hn dq => ?_⟩
  refine q1.at (x1.celled hD) (r1.cellSide hD1 hF hn dq) _ ⟨D, ?_, rfl⟩
  rw [r1.len, List.getElem?_append_right (Nat.le_refl _), Nat.sub_self]
  rfl
end
end TL
/-! TL3: operators, comparisons, built-in functions by data. -/
namespace TL
open PySem PySem.Spec L2

abbrev wI (i : Int) : Wv := .d (.int i)
abbrev wBl (b : Bool) : Wv := .d (.bool b)
abbrev wS (x : Str) : Wv := .d (.str x)
abbrev wT (xs : List PyData) : Wv := .d (.tuple xs)
abbrev wL (xs : List PyData) : Wv := .d (.list xs)
def bi (b : Bool) : Int := if b = true then 1 else 0
/-- a number: an int or a truth -/
def numOf : Wv → Option Int
  | .d (.int i) => some i
  | .d (.bool b) => some (bi b)
  | _ => none
theorem num_ok {K : PySem.W.Frag} {α : List Addr} {F : Hp} {v : V} {w : Wv} {i : Int} (h : numOf w = some i) (r : Rw K α F v w) : v = .int i ∨ ∃ b, v = .bl b ∧ i = bi b := by
  cases w with
  | r k => cases h
  | t ds => cases h
  | d x =>
    cases x with
    | int j =>
      cases h
      cases r
      exact .inl rfl
    | bool b =>
      cases h
      cases r
      exact .inr ⟨b, rfl, rfl⟩
    | _ => cases h
/-- the line of products: bits together -/

noncomputable def mulOk (i j : Int) : Bool := @decide ((Builtin.Int.intBits i : Int) + (Builtin.Int.intBits j : Int) ≤ 134217728) (Classical.propDecidable _)

def gAdd (a b : Wv) (μ : Mu) : Out Wv :=
  match numOf a, numOf b with
  | some i, some j => .ok (wI (i + j)) μ
  | _, _ => match a, b with
    | .d (.str x), .d (.str y) => if x.length + y.length ≤ 16777216 then .ok (wS (x ++ y)) μ else .bad
    | .d (.tuple xs), .d (.tuple ys) => if xs.length + ys.length ≤ 16777216 then .ok (wT (xs ++ ys)) μ else .bad
    | _, _ => .bad
def gSub (a b : Wv) (μ : Mu) : Out Wv :=
  match numOf a, numOf b with
  | some i, some j => .ok (wI (i - j)) μ
  | _, _ => .bad
noncomputable def gMul (a b : Wv) (μ : Mu) : Out Wv :=
  match numOf a, numOf b with
  | some i, some j => if mulOk i j = true then .ok (wI (i * j)) μ else .bad
  | _, _ => .bad
def gMod (a b : Wv) (μ : Mu) : Out Wv :=
  match a, b with
  | .d (.int i), .d (.int j) => if j = 0 then .bad else .ok (wI (i.fmod j)) μ
  | _, _ => .bad
def gDiv (a b : Wv) (μ : Mu) : Out Wv :=
  match a, b with
  | .d (.int i), .d (.int j) => if j = 0 ∨ Builtin.divisionGoesByPylong i j = true then .bad else .ok (wI (i.fdiv j)) μ
  | _, _ => .bad
def gPow (a b : Wv) (μ : Mu) : Out Wv :=
  match a, b with
  | .d (.int i), .d (.int j) => if 0 ≤ j ∧ j ≤ 1000000 ∧ i.natAbs < 2 ^ 64 then .ok (wI (i ^ j.toNat)) μ else .bad
  | _, _ => .bad
def gNeg (a : Wv) (μ : Mu) : Out Wv :=
  match a with
  | .d (.int i) => .ok (wI (-i)) μ
  | _ => .bad
def gCmp (p : Int → Int → Bool) (a b : Wv) (μ : Mu) : Out Wv :=
  match a, b with
  | .d (.int i), .d (.int j) => .ok (wBl (p i j)) μ
  | _, _ => .bad

section
variable {X : Cx}
theorem op_gAdd : OpR X (binaryOp .Add) (r2G X.K X.mg gAdd) := by
  intro pins s σ H x y v u Q I rx ry ⟨μ, α, F, w1, w2, r, h1, h2, q⟩
  unfold gAdd at q
  split at q
  · rename_i i j e1 e2
    have q := q.now r _ (.int _)
    rcases num_ok e1 h1 with rfl | ⟨b1, rfl, rfl⟩ <;> rcases num_ok e2 h2 with rfl | ⟨b2, rfl, rfl⟩
    · exact op_add pins s σ H _ _ v u Q I rx ry ⟨_, _, rfl, rfl, q⟩
    · obtain ⟨t, rfl⟩ := rx
      cases ry
      exact PySem.add_int_bool ⟨.int _, H, I.tok _, ⟨_, rfl⟩, q⟩
    · obtain ⟨t, rfl⟩ := ry
      cases rx
      exact PySem.IntBool.add_bool_int ⟨.int _, H, I.tok _, ⟨_, rfl⟩, q⟩
    · cases rx
      cases ry
      exact PyProof.Rows.add_bool ⟨.int _, H, I.tok _, ⟨_, rfl⟩, q⟩
  · split at q
    · split at q
      · rename_i hl
        cases h1
        cases h2
        exact op_add_str pins s σ H _ _ v u Q I rx ry ⟨_, _, rfl, rfl, le_line hl, q.now r _ (.str _)⟩
      · exact q.elim
    · rename_i xs ys _
      split at q
      · rename_i hl
        cases h1 with
        | @tup a vs _ t1 d1 =>
          cases h2 with
          | @tup b us _ t2 d2 =>
            refine op_catA pins s σ H _ _ v u Q I rx ry ⟨a, b, vs, us, rfl, rfl, sameT r.sub t1, sameT r.sub t2, ?_, fun e => ?_, fun _ e => ?_, fun _ _ p hp => ?_⟩
            · rw [d1.length, d2.length]
              exact le_line hl
            · subst e
              cases d1
              exact q.now r _ (.tup t2 d2)
            · subst e
              cases d2
              rw [List.append_nil] at q
              exact q.now r _ (.tup t1 d1)
            · obtain ⟨r2, x2⟩ := r.new (o := .tup (vs ++ us)) hp
              exact q.at x2 r2 _ (.tup (.of upd_same) ((d1.mono x2.fro).append (d2.mono x2.fro)))
      · exact q.elim
    · exact q.elim
theorem op_gSub : OpR X (binaryOp .Sub) (r2G X.K X.mg gSub) := by
  intro pins s σ H x y v u Q I rx ry ⟨μ, α, F, w1, w2, r, h1, h2, q⟩
  unfold gSub at q
  split at q
  · rename_i i j e1 e2
    have q := q.now r _ (.int _)
    rcases num_ok e1 h1 with rfl | ⟨b1, rfl, rfl⟩ <;> rcases num_ok e2 h2 with rfl | ⟨b2, rfl, rfl⟩
    · exact op_sub pins s σ H _ _ v u Q I rx ry ⟨_, _, rfl, rfl, q⟩
    · obtain ⟨t, rfl⟩ := rx
      cases ry
      exact PySem.IntBool.sub_int_bool ⟨.int _, H, I.tok _, ⟨_, rfl⟩, q⟩
    · obtain ⟨t, rfl⟩ := ry
      cases rx
      exact PySem.IntBool.sub_bool_int ⟨.int _, H, I.tok _, ⟨_, rfl⟩, q⟩
    · cases rx
      cases ry
      exact PyProof.Rows.sub_bool ⟨.int _, H, I.tok _, ⟨_, rfl⟩, q⟩
  · exact q.elim
theorem op_gMul : OpR X (binaryOp .Mult) (r2G X.K X.mg gMul) := by
  intro pins s σ H x y v u Q I rx ry ⟨μ, α, F, w1, w2, r, h1, h2, q⟩
  unfold gMul at q
  split at q
  · rename_i i j e1 e2
    split at q
    · rename_i hm
      have q := q.now r _ (.int _)
      rcases num_ok e1 h1 with rfl | ⟨b1, rfl, rfl⟩ <;> rcases num_ok e2 h2 with rfl | ⟨b2, rfl, rfl⟩
      · have hm' : (Builtin.Int.intBits i : Int) + (Builtin.Int.intBits j : Int) ≤ 134217728 := @of_decide_eq_true _ (Classical.propDecidable _) hm
        exact op_mulX pins s σ H _ _ v u Q I rx ry ⟨_, _, rfl, rfl, hm', q⟩
      · obtain ⟨t, rfl⟩ := rx
        cases ry
        exact PySem.IntBool.mul_int_bool ⟨.int _, H, I.tok _, ⟨_, rfl⟩, q⟩
      · obtain ⟨t, rfl⟩ := ry
        cases rx
        exact PySem.IntBool.mul_bool_int ⟨.int _, H, I.tok _, ⟨_, rfl⟩, q⟩
      · cases rx
        cases ry
        exact PyProof.Rows.mul_bool ⟨.int _, H, I.tok _, ⟨_, rfl⟩, q⟩
    · exact q.elim
  · exact q.elim
theorem op_gMod : OpR X (binaryOp .Mod) (r2G X.K X.mg gMod) := by
  intro pins s σ H x y v u Q I rx ry ⟨μ, α, F, w1, w2, r, h1, h2, q⟩
  unfold gMod at q
  split at q
  · split at q
    · exact q.elim
    · rename_i hz
      cases h1
      cases h2
      exact op_modN pins s σ H _ _ v u Q I rx ry ⟨_, _, rfl, rfl, hz, q.now r _ (.int _)⟩
  · exact q.elim
theorem op_gDiv : OpR X (binaryOp .FloorDiv) (r2G X.K X.mg gDiv) := by
  intro pins s σ H x y v u Q I rx ry ⟨μ, α, F, w1, w2, r, h1, h2, q⟩
  unfold gDiv at q
  split at q
  · split at q
    · exact q.elim
    · rename_i hz
      cases h1
      cases h2
      obtain ⟨t, rfl⟩ := rx
      obtain ⟨t', rfl⟩ := ry
      have hz' := not_or.mp hz
      exact PyProof.Rows.floordiv_int hz'.1 ⟨.int _, H, I.tok _, ⟨_, rfl⟩, q.now r _ (.int _)⟩ (.inl (by simpa using hz'.2))
  · exact q.elim
theorem op_gPow : OpR X (binaryOp .Pow) (r2G X.K X.mg gPow) := by
  intro pins s σ H x y v u Q I rx ry ⟨μ, α, F, w1, w2, r, h1, h2, q⟩
  unfold gPow at q
  split at q
  · split at q
    · rename_i hz
      cases h1
      cases h2
      exact op_pow pins s σ H _ _ v u Q I rx ry ⟨_, _, rfl, rfl, hz, q.now r _ (.int _)⟩
    · exact q.elim
  · exact q.elim
theorem un_gNeg : UnR X (unaryOp .USub) (r1G X.K X.mg gNeg) := by
  intro pins s σ H x v Q I rx ⟨μ, α, F, w1, r, h1, q⟩
  unfold gNeg at q
  split at q
  · cases h1
    exact un_neg pins s σ H _ v Q I rx ⟨_, rfl, q.now r _ (.int _)⟩
  · exact q.elim
theorem op_gLt : OpR X (compareOp .Lt) (r2G X.K X.mg (gCmp fun i j => decide (i < j))) := by
  intro pins s σ H x y v u Q I rx ry ⟨μ, α, F, w1, w2, r, h1, h2, q⟩
  unfold gCmp at q
  split at q
  · cases h1
    cases h2
    exact op_lt pins s σ H _ _ v u Q I rx ry ⟨_, _, rfl, rfl, q.now r _ (.bl _)⟩
  · exact q.elim
theorem op_gLe : OpR X (compareOp .LtE) (r2G X.K X.mg (gCmp fun i j => decide (i ≤ j))) := by
  intro pins s σ H x y v u Q I rx ry ⟨μ, α, F, w1, w2, r, h1, h2, q⟩
  unfold gCmp at q
  split at q
  · cases h1
    cases h2
    exact op_le pins s σ H _ _ v u Q I rx ry ⟨_, _, rfl, rfl, q.now r _ (.bl _)⟩
  · exact q.elim
theorem op_gGt : OpR X (compareOp .Gt) (r2G X.K X.mg (gCmp fun i j => decide (j < i))) := by
  intro pins s σ H x y v u Q I rx ry ⟨μ, α, F, w1, w2, r, h1, h2, q⟩
  unfold gCmp at q
  split at q
  · cases h1
    cases h2
    exact op_gt pins s σ H _ _ v u Q I rx ry ⟨_, _, rfl, rfl, q.now r _ (.bl _)⟩
  · exact q.elim
theorem op_gGe : OpR X (compareOp .GtE) (r2G X.K X.mg (gCmp fun i j => decide (j ≤ i))) := by
  intro pins s σ H x y v u Q I rx ry ⟨μ, α, F, w1, w2, r, h1, h2, q⟩
  unfold gCmp at q
  split at q
  · cases h1
    cases h2
    exact op_ge pins s σ H _ _ v u Q I rx ry ⟨_, _, rfl, rfl, q.now r _ (.bl _)⟩
  · exact q.elim
end

/-! ### data of a value -/
def dataOf (μ : Mu) : Wv → Option PyData
  | .d x => some x
  | .r k => (μ[k]?.join).map PyData.list
  | .t _ => none
theorem data_ok {K : PySem.W.Frag} {α : List Addr} {F H : Hp} {μ : Mu} {v : V} {w : Wv} {x : PyData} (r : Rep K α F μ H) (h : dataOf μ w = some x) (q : Rw K α F v w) : Dq K H v x := by
  cases w with
  | d y =>
    cases h
    exact Dq.mono r.sub q
  | t ds => cases h
  | r k =>
    have h' : (μ[k]?.join).map PyData.list = some x := h
    obtain ⟨c, e, rfl⟩ := Option.map_eq_some_iff.mp h'
    have e' : μ[k]? = some (some c) := by
      cases z : μ[k]? with
      | none =>
        rw [z] at e
        cases e
      | some o =>
        rw [z] at e
        have e2 : o = some c := e
        rw [e2]
    obtain ⟨a, vs, h1, h2, h3, h4⟩ := r.cell k c e'
    obtain ⟨b, g1, rfl⟩ := q
    rw [h1] at g1
    cases g1
    exact .lst (.of h2) (h4.mono r.sub)
section
variable {X : Cx} {pins : List (Addr × Obj)} {σ : St} {H : Hp} {s : Shared}
mutual
theorem Dq.reads (I : Inv X pins σ H s) : ∀ (d : PyData) (v : V) (u : Value), Dq X.K H v d → RelV v u → ∃ as, Reads s.heap u d as ∧ ((∀ o, s.heap.get? sysModules = some o → o.cls ≠ .type "list") → sysModules ∉ as)
  | .none, _, _, h, r => by
    cases h
    cases r
    exact ⟨_, .none, by simp⟩
  | .bool b, _, _, h, r => by
    cases h
    cases r
    exact ⟨_, .bool b, by simp⟩
  | .int i, _, _, h, r => by
    cases h
    obtain ⟨t, rfl⟩ := r
    exact ⟨_, .int i t, by simp⟩
  | .str x, _, _, h, r => by
    cases h
    obtain ⟨t, rfl⟩ := r
    exact ⟨_, .str x t, by simp⟩
  | .list ds, _, _, h, r => by
    cases h with
    | lst hs ha =>
      cases r
      obtain ⟨z, its, n, rv, e⟩ := hs.ob I
      obtain ⟨as, hr, hm⟩ := Dq.readsAll I ds _ its ha rv
      refine ⟨_, .list e rfl rfl hr, fun hS hm' => ?_⟩
      rcases List.mem_cons.mp hm' with q | q
      · subst q
        exact hS _ e rfl
      · exact hm hS q
  | .tuple ds, _, _, h, r => by
    cases h with
    | tup hs ha =>
      cases r
      obtain ⟨its, rv, ⟨o, ho, hc, n, hd⟩, _⟩ := I.tuple hs
      obtain ⟨as, hr, hm⟩ := Dq.readsAll I ds _ its ha rv
      exact ⟨_, .tuple ho hc hd hr, hm⟩
  | .dict _, _, _, h, r => by
    cases h with
    | dic hs =>
      cases r
      obtain ⟨z, y, vs, kv, o, es, ep, e1, e2, e3, e4, e5, e6⟩ := I.hok _ _ hs
      cases kv
      have e7 : es.toList = [] := by
        cases q : es.toList with
        | nil => rfl
        | cons a b =>
          rw [q] at e5
          exact nomatch e5
      refine ⟨_, .dict (as := []) (bs := []) e1 e2.1 e3 (by rw [e7]; exact .nil) (by rw [e7]; exact .nil), fun _ hm => ?_⟩
      simp at hm
      rw [← hm] at y
      exact absurd y (by decide)
theorem Dq.readsAll (I : Inv X pins σ H s) : ∀ (ds : List PyData) (vs : List V) (us : List Value), DqAll X.K H vs ds → Vals vs us → ∃ as, ReadsAll s.heap us ds as ∧ ((∀ o, s.heap.get? sysModules = some o → o.cls ≠ .type "list") → sysModules ∉ as)
  | [], _, _, h, r => by
    cases h
    cases r
    exact ⟨_, .nil, by simp⟩
  | d :: ds, _, _, h, r => by
    cases h with
    | cons h1 h2 =>
      cases r with
      | cons r1 r2 =>
        obtain ⟨as, q1, m1⟩ := Dq.reads I d _ _ h1 r1
        obtain ⟨bs, q2, m2⟩ := Dq.readsAll I ds _ _ h2 r2
        exact ⟨_, .cons q1 q2, fun hS => by simp [m1 hS, m2 hS]⟩
end
end
end TL
/-! TL4: ==, in, is; built-in functions. -/
namespace TL
open PySem PySem.Spec L2

/-- what == of two data is, where the model's own comparison is known -/
def eqP : PyData → PyData → Option Bool
  | .str x, .str y => some (decide (x = y))
  | .tuple [], .tuple ys => some ys.isEmpty
  | .tuple (_ :: _), .tuple [] => some false
  | .list [], .list ys => some ys.isEmpty
  | .list (_ :: _), .list [] => some false
  | x, y => if SeqAt.shaped x = true ∧ SeqAt.shaped y = true then some (PyData.eqv x y) else none
def gEq (neg : Bool) (a b : Wv) (μ : Mu) : Out Wv :=
  match dataOf μ a, dataOf μ b with
  | some x, some y => match eqP x y with
    | some c => .ok (wBl (if neg then !c else c)) μ
    | none => .bad
  | _, _ => .bad
/-- x in c -/
def inP : PyData → PyData → Option Bool
  | .str x, .str y => some (!(Builtin.Str.occurrences y x 0 y.length 1).isEmpty)
  | x, .list ys => if SeqAt.shaped x = true ∧ SeqAt.shaped (.list ys) = true then some (ys.any fun z => PyData.eqv z x) else none
  | x, .tuple ys => if SeqAt.shaped x = true ∧ SeqAt.shaped (.tuple ys) = true then some (ys.any fun z => PyData.eqv z x) else none
  | _, _ => none
def gIn (neg : Bool) (a b : Wv) (μ : Mu) : Out Wv :=
  match dataOf μ a, dataOf μ b with
  | some x, some y => match inP x y with
    | some c => .ok (wBl (if neg then !c else c)) μ
    | none => .bad
  | _, _ => .bad
def isNoneD : PyData → Bool
  | .none => true
  | _ => false
/-- x is None -/
def gIsN (neg : Bool) (a b : Wv) (μ : Mu) : Out Wv :=
  match a, b with
  | .d x, .d .none => .ok (wBl (if neg then !isNoneD x else isNoneD x)) μ
  | .r _, .d .none => .ok (wBl neg) μ
  | _, _ => .bad

section
variable {X : Cx} {pins : List (Addr × Obj)} {σ : St} {H : Hp} {s : Shared}
theorem Dq.tupAt (I : Inv X pins σ H s) {xs : List PyData} {v : V} {u : Value} (h : Dq X.K H v (.tuple xs)) (r : RelV v u) : ∃ a its, u = .ref a ∧ s.heap.IsTuple a its ∧ its.size = xs.length := by
  cases h with
  | tup hs ha =>
    cases r
    obtain ⟨its, rv, p, _⟩ := I.tuple hs
    exact ⟨_, its.toArray, rfl, p, by rw [List.size_toArray, ← rv.length, ha.length]⟩
theorem Dq.lstAt (I : Inv X pins σ H s) {xs : List PyData} {v : V} {u : Value} (h : Dq X.K H v (.list xs)) (r : RelV v u) : ∃ a its, u = .ref a ∧ s.heap.IsList a its ∧ its.size = xs.length := by
  cases h with
  | lst hs ha =>
    cases r
    obtain ⟨z, its, n, rv, e⟩ := hs.ob I
    exact ⟨_, its.toArray, rfl, ⟨_, e, rfl, n, rfl⟩, by rw [List.size_toArray, ← rv.length, ha.length]⟩
/-- both answers at once -/
def EqN (A : Around) (s : Shared) (y x : Value) (b : Bool) : Prop := SeqAt.RcAt A s y x b ∧ SeqAt.RcNeAt A s y x (!b)
theorem eqN_tup0 {A : Around} {l b : Addr} {i1 i2 : Array Value} (hl : s.heap.IsTuple l i1) (hb : s.heap.IsTuple b i2) (hu : A.units < cLine) (h0 : i1.size = 0 ∨ i2.size = 0) : EqN A s (.ref l) (.ref b) (i1.size == i2.size) := by
  have he : ∀ j (h1 : j < i1.size) (h2 : j < i2.size), SeqAt.EqAt A.in1 s i1[j] i2[j] (true) := fun j h1 h2 => by omega
  have e : (List.range (min i1.size i2.size)).all (fun _ => true) = true := by simp
  have q1 := SeqAt.RcAt.tuples (e := fun _ => true) hl hb hu he
  have q2 := SeqAt.RcNeAt.tuples (e := fun _ => true) hl hb hu he
  rw [e, Bool.true_and] at q1 q2
  exact ⟨q1, q2⟩
theorem eqN_lst0 {A : Around} {l b : Addr} {i1 i2 : Array Value} (hl : s.heap.IsList l i1) (hb : s.heap.IsList b i2) (hu : A.units < cLine) (h0 : i1.size = 0 ∨ i2.size = 0) : EqN A s (.ref l) (.ref b) (i1.size == i2.size) := by
  by_cases hz : i1.size = i2.size
  · have he : ∀ j (h1 : j < i1.size) (h2 : j < i2.size), SeqAt.EqAt A.in1 s i1[j] i2[j] (true) := fun j h1 h2 => by omega
    have e : (List.range i1.size).all (fun _ => true) = true := by simp
    have q1 := SeqAt.RcAt.lists (e := fun _ => true) hl hb hz hu he
    have q2 := SeqAt.RcNeAt.lists (e := fun _ => true) hl hb hz hu he
    rw [e] at q1 q2
    rw [show (i1.size == i2.size) = true by simpa using hz]
    exact ⟨q1, q2⟩
  · rw [show (i1.size == i2.size) = false by simpa using hz]
    exact ⟨SeqAt.RcAt.lists_lengths hl hb (by simpa using hz) hu, SeqAt.RcNeAt.lists_lengths hl hb (by simpa using hz) hu⟩
theorem eqP_at (I : Inv X pins σ H s) (hu : X.A.units + 64 < cLine) {x y : PyData} {c : Bool} (h : eqP x y = some c) {v1 v2 : V} {u1 u2 : Value} (h1 : Dq X.K H v1 x) (h2 : Dq X.K H v2 y) (r1 : RelV v1 u1) (r2 : RelV v2 u2) {Q : VK} :
    (Q (.bl c) H → wpAny (model X.prog X.w) X.A (compareOp .Eq u1 u2) (EP X pins σ Q) X.xe s) ∧ (Q (.bl (!c)) H → wpAny (model X.prog X.w) X.A (compareOp .NotEq u1 u2) (EP X pins σ Q) X.xe s) := by
  have hu0 : X.A.units < cLine := by omega
  have fin : ∀ b : Bool, Q (.bl b) H → EP X pins σ Q (.bool b) s := fun b q => ⟨.bl b, H, I, rfl, q⟩
  have ofN : EqN X.A s u1 u2 c → (Q (.bl c) H → wpAny (model X.prog X.w) X.A (compareOp .Eq u1 u2) (EP X pins σ Q) X.xe s) ∧ (Q (.bl (!c)) H → wpAny (model X.prog X.w) X.A (compareOp .NotEq u1 u2) (EP X pins σ Q) X.xe s) :=
    fun n => ⟨fun q => n.1 _ _ _ _ (fin _ q), fun q => n.2 _ _ _ _ (fin _ q)⟩
  unfold eqP at h
  split at h
  · rename_i z1 z2
    cases h
    cases h1
    cases h2
    refine ⟨fun q => op_eq pins s σ H _ _ u1 u2 Q I r1 r2 ⟨rfl, ?_⟩, fun q => op_ne pins s σ H _ _ u1 u2 Q I r1 r2 ⟨rfl, ?_⟩⟩
    · have e : decide (V.str z1 = V.str z2) = decide (z1 = z2) := by simp
      rw [e]
      exact q
    · have e : decide (V.str z1 = V.str z2) = decide (z1 = z2) := by simp
      rw [e]
      exact q
  · rename_i ys
    cases h
    obtain ⟨a, i1, rfl, t1, z1⟩ := h1.tupAt I r1
    obtain ⟨b, i2, rfl, t2, z2⟩ := h2.tupAt I r2
    refine ofN ?_
    have q := eqN_tup0 (A := X.A) t1 t2 hu0 (.inl z1)
    have e : (i1.size == i2.size) = ys.isEmpty := by
      rw [z1, z2]
      cases ys <;> rfl
    rw [e] at q
    exact q
  · rename_i hd tl
    cases h
    obtain ⟨a, i1, rfl, t1, z1⟩ := h1.tupAt I r1
    obtain ⟨b, i2, rfl, t2, z2⟩ := h2.tupAt I r2
    refine ofN ?_
    have q := eqN_tup0 (A := X.A) t1 t2 hu0 (.inr z2)
    rw [show (i1.size == i2.size) = false by rw [z1, z2]; rfl] at q
    exact q
  · rename_i ys
    cases h
    obtain ⟨a, i1, rfl, t1, z1⟩ := h1.lstAt I r1
    obtain ⟨b, i2, rfl, t2, z2⟩ := h2.lstAt I r2
    refine ofN ?_
    have q := eqN_lst0 (A := X.A) t1 t2 hu0 (.inl z1)
    have e : (i1.size == i2.size) = ys.isEmpty := by
      rw [z1, z2]
      cases ys <;> rfl
    rw [e] at q
    exact q
  · rename_i hd tl
    cases h
    obtain ⟨a, i1, rfl, t1, z1⟩ := h1.lstAt I r1
    obtain ⟨b, i2, rfl, t2, z2⟩ := h2.lstAt I r2
    refine ofN ?_
    have q := eqN_lst0 (A := X.A) t1 t2 hu0 (.inr z2)
    rw [show (i1.size == i2.size) = false by rw [z1, z2]; rfl] at q
    exact q
  · split at h
    · rename_i hs
      cases h
      obtain ⟨as, d1, _⟩ := Dq.reads I x v1 u1 h1 r1
      obtain ⟨bs, d2, _⟩ := Dq.reads I y v2 u2 h2 r2
      exact ⟨fun q => SeqAt.compareEq_shaped d1 d2 hs.1 hs.2 hu (fin _ q), fun q => SeqAt.compareNe_shaped d1 d2 hs.1 hs.2 hu (fin _ q)⟩
    · cases h
end
section
variable {X : Cx}
theorem op_gEq (hu : X.A.units + 64 < cLine) : OpR X (compareOp .Eq) (r2G X.K X.mg (gEq false)) := by
  intro pins s σ H x y v u Q I rx ry ⟨μ, α, F, w1, w2, r, h1, h2, q⟩
  unfold gEq at q
  split at q
  · rename_i a b e1 e2
    split at q
    · rename_i c e
      exact (eqP_at I hu e (data_ok r e1 h1) (data_ok r e2 h2) rx ry).1 (q.now r _ (.bl _))
    · exact q.elim
  · exact q.elim
theorem op_gNe (hu : X.A.units + 64 < cLine) : OpR X (compareOp .NotEq) (r2G X.K X.mg (gEq true)) := by
  intro pins s σ H x y v u Q I rx ry ⟨μ, α, F, w1, w2, r, h1, h2, q⟩
  unfold gEq at q
  split at q
  · rename_i a b e1 e2
    split at q
    · rename_i c e
      exact (eqP_at I hu e (data_ok r e1 h1) (data_ok r e2 h2) rx ry).2 (q.now r _ (.bl _))
    · exact q.elim
  · exact q.elim
theorem shaped_all {xs : List PyData} (h : SeqAt.shaped (.tuple xs) = true) : PyData.canLayAll0 xs = true ∧ PyData.depthAll xs ≤ 64 := by
  have h1 := SeqAt.canLay_of_shaped h
  have h2 := SeqAt.depth_of_shaped h
  refine ⟨by simpa only [PyData.canLay0] using h1, ?_⟩
  simp only [PyData.depth] at h2
  omega
theorem shaped_allL {xs : List PyData} (h : SeqAt.shaped (.list xs) = true) : PyData.canLayAll0 xs = true ∧ PyData.depthAll xs ≤ 64 := by
  have h1 := SeqAt.canLay_of_shaped h
  have h2 := SeqAt.depth_of_shaped h
  refine ⟨by simpa only [PyData.canLay0] using h1, ?_⟩
  simp only [PyData.depth] at h2
  omega
theorem inP_at {pins : List (Addr × Obj)} {σ : St} {H : Hp} {s : Shared} (I : Inv X pins σ H s) (hu : X.A.units + 65 < cLine) {x y : PyData} {c : Bool} (h : inP x y = some c) {v1 v2 : V} {u1 u2 : Value} (h1 : Dq X.K H v1 x) (h2 : Dq X.K H v2 y) (r1 : RelV v1 u1) (r2 : RelV v2 u2) {Q : VK} :
    (Q (.bl c) H → wpAny (model X.prog X.w) X.A (compareOp .In u1 u2) (EP X pins σ Q) X.xe s) ∧ (Q (.bl (!c)) H → wpAny (model X.prog X.w) X.A (compareOp .NotIn u1 u2) (EP X pins σ Q) X.xe s) := by
  have fin : ∀ b : Bool, Q (.bl b) H → EP X pins σ Q (.bool b) s := fun b q => ⟨.bl b, H, I, rfl, q⟩
  unfold inP at h
  split at h
  · cases h
    cases h1
    cases h2
    exact ⟨fun q => op_in_str pins s σ H _ _ u1 u2 Q I r1 r2 ⟨_, _, rfl, rfl, q⟩, fun q => op_notin_str pins s σ H _ _ u1 u2 Q I r1 r2 ⟨_, _, rfl, rfl, q⟩⟩
  · split at h
    · rename_i hs
      cases h
      obtain ⟨as, d1, _⟩ := Dq.reads I _ v1 u1 h1 r1
      obtain ⟨bs, d2, _⟩ := Dq.reads I _ v2 u2 h2 r2
      obtain ⟨c1, c2⟩ := shaped_allL hs.2
      have hm : ∀ n : Nat, X.A.units + 1 + min (PyData.depthAll _) n < cLine := fun n => Nat.lt_of_le_of_lt (Nat.add_le_add_left (Nat.le_trans (Nat.min_le_left _ _) c2) _) (by omega)
      exact ⟨fun q => SeqAt.in_list_reads d2 d1 c1 (SeqAt.canLay_of_shaped hs.1) (hm _) (fin _ q), fun q => SeqAt.notIn_list_reads d2 d1 c1 (SeqAt.canLay_of_shaped hs.1) (hm _) (fin _ q)⟩
    · cases h
  · split at h
    · rename_i hs
      cases h
      obtain ⟨as, d1, _⟩ := Dq.reads I _ v1 u1 h1 r1
      obtain ⟨bs, d2, _⟩ := Dq.reads I _ v2 u2 h2 r2
      obtain ⟨c1, c2⟩ := shaped_all hs.2
      have hm : ∀ n : Nat, X.A.units + 1 + min (PyData.depthAll _) n < cLine := fun n => Nat.lt_of_le_of_lt (Nat.add_le_add_left (Nat.le_trans (Nat.min_le_left _ _) c2) _) (by omega)
      exact ⟨fun q => SeqAt.in_tuple_reads d2 d1 c1 (SeqAt.canLay_of_shaped hs.1) (hm _) (fin _ q), fun q => SeqAt.notIn_tuple_reads d2 d1 c1 (SeqAt.canLay_of_shaped hs.1) (hm _) (fin _ q)⟩
    · cases h
  · cases h
theorem op_gIn (hu : X.A.units + 65 < cLine) : OpR X (compareOp .In) (r2G X.K X.mg (gIn false)) := by
  intro pins s σ H x y v u Q I rx ry ⟨μ, α, F, w1, w2, r, h1, h2, q⟩
  unfold gIn at q
  split at q
  · rename_i a b e1 e2
    split at q
    · rename_i c e
      exact (inP_at I hu e (data_ok r e1 h1) (data_ok r e2 h2) rx ry).1 (q.now r _ (.bl _))
    · exact q.elim
  · exact q.elim
theorem op_gNotIn (hu : X.A.units + 65 < cLine) : OpR X (compareOp .NotIn) (r2G X.K X.mg (gIn true)) := by
  intro pins s σ H x y v u Q I rx ry ⟨μ, α, F, w1, w2, r, h1, h2, q⟩
  unfold gIn at q
  split at q
  · rename_i a b e1 e2
    split at q
    · rename_i c e
      exact (inP_at I hu e (data_ok r e1 h1) (data_ok r e2 h2) rx ry).2 (q.now r _ (.bl _))
    · exact q.elim
  · exact q.elim
theorem isNoneD_ok {K : PySem.W.Frag} {F : Hp} {v : V} {x : PyData} (h : Dq K F v x) : decide (v = .non) = isNoneD x := by
  cases h <;> simp [isNoneD]
theorem op_gIs : OpR X (compareOp .Is) (r2G X.K X.mg (gIsN false)) := by
  intro pins s σ H x y v u Q I rx ry ⟨μ, α, F, w1, w2, r, h1, h2, q⟩
  unfold gIsN at q
  split at q
  · cases h2
    refine op_isN pins s σ H _ _ v u Q I rx ry ⟨rfl, ?_⟩
    rw [isNoneD_ok h1]
    exact q.now r _ (.bl _)
  · cases h2
    obtain ⟨a, _, rfl⟩ := h1
    exact op_isN pins s σ H _ _ v u Q I rx ry ⟨rfl, q.now r _ (.bl _)⟩
  · exact q.elim
theorem op_gIsNot : OpR X (compareOp .IsNot) (r2G X.K X.mg (gIsN true)) := by
  intro pins s σ H x y v u Q I rx ry ⟨μ, α, F, w1, w2, r, h1, h2, q⟩
  unfold gIsN at q
  split at q
  · cases h2
    refine op_notN pins s σ H _ _ v u Q I rx ry ⟨rfl, ?_⟩
    rw [isNoneD_ok h1]
    exact q.now r _ (.bl _)
  · cases h2
    obtain ⟨a, _, rfl⟩ := h1
    exact op_notN pins s σ H _ _ v u Q I rx ry ⟨rfl, q.now r _ (.bl _)⟩
  · exact q.elim
end
end TL
/-! TL5: what a def promises where nothing is being printed (so that repr is known); calls. -/
namespace TL
open PySem PySem.Spec L2 PyProof.Rows

/-- as the layer's promise, told only of calls around which no repr runs -/
structure FnG (P : Program) (w : World) (K : PySem.W.Frag) (mg : Str → Option Value) (base : Heap) (k : Nat) (f : Addr) (fd : FuncData) (ps : List Str) (sp : Sp) : Prop where
  len : ∀ vs H Q E, sp vs H Q E → vs.length = ps.length
  run : ∀ (A : Around) (outer : List Env) (s : Shared) (H : Hp) (args : Args) (us : List Value) (vs : List V) (Q : VK) (E : XK), Room k A → A.guards = some [] →
    Env0 P w K mg base A outer s H → BindsTo s fd args (ps.zip us) → Vals vs us → sp vs H Q E → codeAny (model P w) A (.call (.ref f) args) (CR (L2.CX P w) outer P w H s Q E) s
theorem FnG.up {P : Program} {w : World} {K : PySem.W.Frag} {mg : Str → Option Value} {base : Heap} {j k : Nat} {f : Addr} {fd : FuncData} {ps : List Str} {sp : Sp} (G : FnG P w K mg base j f fd ps sp) (h : j ≤ k) : FnG P w K mg base k f fd ps sp :=
  ⟨G.len, fun A outer s H args us vs Q E hr => G.run A outer s H args us vs Q E (hr.mono h)⟩

/-- a def of the text keeps its promise by its body's reading -/
theorem fng_of {P : Program} {w : World} {K : PySem.W.Frag} {mg : Str → Option Value} {base : Heap} {k : Nat} {f : Addr} {x qual : Str} {st : Stmt} {fd : FuncData} {N ps : List Str} {sp : Sp}
    (F : Fun K x qual st f fd) (S : FnScope N ps (defScope st)) (len : ∀ vs H Q E, sp vs H Q E → vs.length = ps.length)
    (body : ∀ (cdv : Value) (A : Around) (outer : List Env) (s : Shared) (H : Hp) (vs : List V) (Q : VK) (E : XK), Room k (A.deeper (envOfC qual (defScope st) s.heap.objs.size f cdv)) → A.guards = some [] → sp vs H Q E →
      ∃ t, PSs (cxOf (L2.CX P w) P w K mg base N qual (defScope st) f cdv A outer s H E) (defBody st) t ∧ t { nx := fun _ H' => Q .non H', rt := Q } (L2.start N vs) H) :
    FnG P w K mg base (k + 1) f fd ps sp := by
  obtain ⟨oc, od, kV, doc, pm, an, cdv, ct, osl, efd, lk, cd⟩ := F.ex
  subst efd
  refine ⟨len, fun A outer s0 H args us vs Q E room gd env bd rel want => ?_⟩
  have count := len _ _ _ _ want
  have inK : K.In s0.heap := env.mod.kin.keeps fun b o z => (env.bs b o z).1
  have nolim : s0.heap.NoLimit := env.mod.nolimit.keeps fun b o z => (env.bs b o z).1
  have kinds : ∀ y ∈ ps.zip us, (defScope st).names.lookup y.1 = some .local ∨ ((defScope st).names.lookup y.1 = some .cell ∧ ((cellsFrom (s0.heap.objs.size + 1) (defScope st).names []).lookup y.1).isSome = true) := by
    rintro ⟨m, v⟩ hm
    cases S.par m (List.of_mem_zip hm).1 with
    | inl q => exact .inl q
    | inr q => exact .inr ⟨q, PySem.W.cellsFrom_some _ _ _ (.inl q)⟩
  refine codeAny_call_function room.depth (inK _ _ lk) rfl S.co S.gen rfl (PySem.W.codeRec_of inK cd) (bd _ _ _ _ ?_)
  refine wpAny_newFunctionEnv_cells S.kind kinds fun e2 he s1 ic => ?_
  subst he
  obtain ⟨t, ht, ready⟩ := body cdv A outer s0 H vs Q E (room.deeper _) gd want
  have I0 : Inv (cxOf (L2.CX P w) P w K mg base N qual (defScope st) f cdv A outer s0 H E) [] (L2.start N vs) H s1 := inv_start S room.hd env count rel ic
  refine ⟨nolim.keeps ic.toInCall.keep, codeAny_func (wpAny_mono (ht.run [] s1 (L2.start N vs) H _ I0 ready) (fun fl s2 hs => ?_) fun e s2 hs => hs)⟩
  cases fl with
  | ret u =>
    obtain ⟨v, σ', H', J, rv, q⟩ := hs
    exact ⟨v, H', J.os, J.bare, J.base, J.hok, rv, q⟩
  | next =>
    obtain ⟨σ', H', J, q⟩ := hs
    exact ⟨V.non, H', J.os, J.bare, J.base, J.hok, rfl, q⟩
  | brk => exact (hs.elim fun _ z => z.elim fun _ z => z.2).elim
  | cont => exact (hs.elim fun _ z => z.elim fun _ z => z.2).elim

/-! ### calls -/
section
variable {X : Cx} {W : WX} {k : Nat} {f : Addr} {fd : FuncData} {ps : List Str} {x : Str} {p pos : Pos} {e : Expr} {es : List Expr} {t : TA} {sp : Sp} {E : St → XK}
theorem run_g {pins : List (Addr × Obj)} {σ : St} {H : Hp} {s : Shared} {Q : VK} {us : List Value} {vs dv : List V} {ds : List Value} (G : FnG X.prog X.w X.K X.mg X.base k f fd ps sp) (hr : Room k X.A) (hg : X.A.guards = some []) (hb : Binds X.K fd ps ds) (hd : Vals dv ds)
    (hx : PassesAt (L2.CX X.prog X.w) X σ (E σ)) (I : Inv X pins σ H s) (r : Vals vs us) (h : sp (vs ++ dv) H Q (E σ)) : wpAny (model X.prog X.w) X.A (call (.ref f) us) (EP X pins σ Q) X.xe s := by
  have rr : Vals (vs ++ dv) (us ++ ds) := r.append hd
  have hl : (us ++ ds).length = ps.length := rr.length.symm.trans (G.len _ _ _ _ h)
  refine wpAny_call (codeAny_mono (G.run X.A X.stack s H ⟨us, []⟩ (us ++ ds) (vs ++ dv) Q (E σ) hr hg I.env0 (hb s us I.kIn hl) rr h) fun z s2 hq => ?_)
  rcases z with er | fl
  · exact hx pins H s er s2 I hq
  · cases fl with
    | ret u => exact I.after hq
    | _ => exact False.elim hq
def tCallD (sp : Sp) (dv : List V) (E : St → XK) (t : TA) : TE := fun σ H Q => t σ H fun vs H1 => sp (vs ++ dv) H1 Q (E σ)
theorem pe_callG {dv : List V} {ds : List Value} (G : FnG X.prog X.w X.K X.mg X.base k f fd ps sp) (hr : Room k X.A) (hg : X.A.guards = some []) (gl : Gl X x) (hm : X.mg x = some (.ref f)) (hk : PySem.W.keepIn X.K (.ref f) = true) (hb : Binds X.K fd ps ds) (hd : Vals dv ds)
    (hx : ∀ σ, PassesAt (L2.CX X.prog X.w) X σ (E σ)) (ha : PA X (e :: es) t) (hdb : (x == ("__debug__" : Str)) = false) (he : starEach (e :: es) X.env = (false, eval e X.env) :: starEach es X.env) (hpl : (backTo pos (starEach es X.env)).any (·.1) = false) :
    PE X (.Call (.Name x p) (e :: es) [] pos) (tCallD sp dv E t) := by
  refine ⟨fun pins s σ H Q I h => wpAny_Call_Name_kw (ld_glob I gl hm ?_ hdb)⟩
  refine PySem.W.callWith_K (h₀ := X.base) I.ok.mod.kin hk (thn (ha.run pos pins s σ H _ I h) fun us s1 hh => ?_) he hpl
  obtain ⟨vs, H1, I1, r, q⟩ := hh
  exact ⟨I1.kIn, run_g G hr hg hb hd (hx σ) I1 r q⟩
theorem pe_callG0 {dv : List V} {ds : List Value} (G : FnG X.prog X.w X.K X.mg X.base k f fd ps sp) (hr : Room k X.A) (hg : X.A.guards = some []) (gl : Gl X x) (hm : X.mg x = some (.ref f)) (hk : PySem.W.keepIn X.K (.ref f) = true) (hb : Binds X.K fd ps ds) (hd : Vals dv ds)
    (hx : ∀ σ, PassesAt (L2.CX X.prog X.w) X σ (E σ)) (hdb : (x == ("__debug__" : Str)) = false) : PE X (.Call (.Name x p) [] [] pos) (tCallD sp dv E tNil) :=
  ⟨fun pins s σ H Q I h => wpAny_Call_Name_kw (ld_glob I gl hm (PySem.W.callWith_K0 I.kIn hk (run_g (us := []) (vs := []) G hr hg hb hd (hx σ) I .nil h)) hdb)⟩
/-- the values by places -/
def permL {β : Type} (pm : List Nat) (l : List β) : List β := pm.filterMap fun i => l[i]?
theorem permL_rel {β γ : Type} {R : β → γ → Prop} {l : List β} {m : List γ} (h : Paired R l m) : ∀ pm : List Nat, Paired R (permL pm l) (permL pm m)
  | [] => .nil
  | i :: pm => by
    have ih := permL_rel h pm
    unfold permL
    rw [List.filterMap_cons, List.filterMap_cons]
    by_cases hi : i < l.length
    · obtain ⟨b, c, h1, h2, hr⟩ := Paired.at_ h hi
      rw [h1, h2]
      exact .cons hr ih
    · rw [List.getElem?_eq_none (by omega), List.getElem?_eq_none (by rw [← h.length]; omega)]
      exact ih
/-- how keywords ks bind: pm puts their values, then the defaults, in the parameters' order -/
def KwBinds (K : PySem.W.Frag) (fd : FuncData) (ps ks : List Str) (pm : List Nat) (ds : List Value) : Prop :=
  ∀ (s : Shared) (ws : List Value), K.In s.heap → (permL pm (ws ++ ds)).length = ps.length → BindsTo s fd ⟨[], ks.zip ws⟩ (ps.zip (permL pm (ws ++ ds)))
theorem run_gk {pins : List (Addr × Obj)} {σ : St} {H : Hp} {s : Shared} {Q : VK} {ws ds : List Value} {zs dv : List V} {ks : List Str} {pm : List Nat} (G : FnG X.prog X.w X.K X.mg X.base k f fd ps sp) (hr : Room k X.A) (hg : X.A.guards = some [])
    (hb : KwBinds X.K fd ps ks pm ds) (hd : Vals dv ds) (hx : PassesAt (L2.CX X.prog X.w) X σ (E σ)) (I : Inv X pins σ H s) (rz : Vals zs ws) (h : sp (permL pm (zs ++ dv)) H Q (E σ)) : wpAny (model X.prog X.w) X.A (call (.ref f) [] (ks.zip ws)) (EP X pins σ Q) X.xe s := by
  have rr : Vals (permL pm (zs ++ dv)) (permL pm (ws ++ ds)) := permL_rel (rz.append hd) pm
  have hl : (permL pm (ws ++ ds)).length = ps.length := rr.length.symm.trans (G.len _ _ _ _ h)
  refine wpAny_call (codeAny_mono (G.run X.A X.stack s H ⟨[], ks.zip ws⟩ (permL pm (ws ++ ds)) (permL pm (zs ++ dv)) Q (E σ) hr hg I.env0 (hb s ws I.kIn hl) rr h) fun z s2 hq => ?_)
  rcases z with er | fl
  · exact hx pins H s er s2 I hq
  · cases fl with
    | ret u => exact I.after hq
    | _ => exact False.elim hq
def tCallKG (sp : Sp) (pm : List Nat) (dv : List V) (E : St → XK) (tk : TA) : TE := fun σ H Q => tk σ H fun zs H2 => sp (permL pm (zs ++ dv)) H2 Q (E σ)
theorem pe_callGK {ks : List Str} {kws : List Keyword} {tk : TA} {pm : List Nat} {dv : List V} {ds : List Value} (G : FnG X.prog X.w X.K X.mg X.base k f fd ps sp) (hr : Room k X.A) (hg : X.A.guards = some []) (gl : Gl X x) (hm : X.mg x = some (.ref f)) (hk : PySem.W.keepIn X.K (.ref f) = true)
    (hb : KwBinds X.K fd ps ks pm ds) (hd : Vals dv ds) (hx : ∀ σ, PassesAt (L2.CX X.prog X.w) X σ (E σ)) (hkw : PK X kws tk) (hall : (backToKw pos (keywordEach kws X.env)).all (·.1.isSome) = true) (hks : (backToKw pos (keywordEach kws X.env)).filterMap (·.1) = ks) (hdb : (x == ("__debug__" : Str)) = false)
    (hpl : ((backTo pos (starEach [] X.env)).any (·.1) || (backToKw pos (keywordEach kws X.env)).any (·.1.isNone)) = false) : PE X (.Call (.Name x p) [] kws pos) (tCallKG sp pm dv E tk) := by
  refine ⟨fun pins s σ H Q I h => wpAny_Call_Name_kw (ld_glob I gl hm ?_ hdb)⟩
  refine PySem.W.callWith_KW0 (h₀ := X.base) I.ok.mod.kin hk hall (thn (hkw.run pos pins s σ H _ I h) fun ws s2 hh => ?_) hpl
  obtain ⟨zs, H2, I2, rz, q2⟩ := hh
  rw [hks]
  exact ⟨I2.kIn, run_gk G hr hg hb hd (hx σ) I2 rz q2⟩
end

/-- the promise by a semantic function -/
def arity (n : Nat) (g : List Wv → Mu → Out Wv) : List Wv → Mu → Out Wv := fun ws μ => if ws.length = n then g ws μ else .bad
def spG (K : PySem.W.Frag) (mg : Str → Option Value) (n : Nat) (g : List Wv → Mu → Out Wv) : Sp := fun vs H Q E => ∃ ws μ α F, Rep K α F μ H ∧ Rws K α F vs ws ∧ gp K mg α F H (arity n g ws μ) (Gw K Q) E
theorem spG.len {K : PySem.W.Frag} {mg : Str → Option Value} {n : Nat} {g : List Wv → Mu → Out Wv} {vs : List V} {H : Hp} {Q : VK} {E : XK} (h : spG K mg n g vs H Q E) : vs.length = n := by
  obtain ⟨ws, μ, α, F, r, rv, q⟩ := h
  unfold arity at q
  split at q
  · rename_i e
    rw [rv.length, e]
  · exact q.elim
section
variable {X : Cx} {W : WX} {k n : Nat} {f : Addr} {fd : FuncData} {ps : List Str} {x : Str} {p pos : Pos} {e : Expr} {es : List Expr} {as : Av} {g : List Wv → Mu → Out Wv}
/-- a call f(e, ..), the defaults ws0 behind -/
theorem se_call {dv : List V} {ds : List Value} {ws0 : List Wv} (G : FnG X.prog X.w X.K X.mg X.base k f fd ps (spG X.K X.mg n g)) (hr : Room k X.A) (hg : X.A.guards = some []) (gl : Gl X x) (hm : X.mg x = some (.ref f)) (hk : PySem.W.keepIn X.K (.ref f) = true) (hb : Binds X.K fd ps ds) (hd : Vals dv ds)
    (hw : ∀ α F, Rws X.K α F dv ws0) (tk : Takes X W) (ha : SA X W (e :: es) as) (hdb : (x == ("__debug__" : Str)) = false) (he : starEach (e :: es) X.env = (false, eval e X.env) :: starEach es X.env) (hpl : (backTo pos (starEach es X.env)).any (·.1) = false) :
    SE X W (.Call (.Name x p) (e :: es) [] pos) (eCall (fun ws μ => arity n g (ws ++ ws0) μ) as) := by
  refine (pe_callG (E := WE W) G hr hg gl hm hk hb hd (fun σ => passAt tk σ) ha hdb he hpl).imp fun σ H Q ⟨ρ, μ, α, F, r, re, q⟩ => ?_
  refine ⟨ρ, μ, α, F, r, re, q.bind.mono fun ws μ1 α1 F1 H1 x1 r1 q1 vs rv => ?_⟩
  exact ⟨ws ++ ws0, μ1, α1, F1, r1, Paired.app rv (hw _ _), q1⟩
theorem se_call0 {dv : List V} {ds : List Value} {ws0 : List Wv} (G : FnG X.prog X.w X.K X.mg X.base k f fd ps (spG X.K X.mg n g)) (hr : Room k X.A) (hg : X.A.guards = some []) (gl : Gl X x) (hm : X.mg x = some (.ref f)) (hk : PySem.W.keepIn X.K (.ref f) = true) (hb : Binds X.K fd ps ds) (hd : Vals dv ds)
    (hw : ∀ α F, Rws X.K α F dv ws0) (tk : Takes X W) (hdb : (x == ("__debug__" : Str)) = false) : SE X W (.Call (.Name x p) [] [] pos) (eCall (fun ws μ => arity n g (ws ++ ws0) μ) aNil) := by
  refine (pe_callG0 (E := WE W) G hr hg gl hm hk hb hd (fun σ => passAt tk σ) hdb).imp fun σ H Q ⟨ρ, μ, α, F, r, re, q⟩ => ?_
  exact ⟨ws0, μ, α, F, r, hw _ _, q⟩
theorem _root_.L2.PK.imp {kws : List Keyword} {t t' : TA} (h : PK X kws t) (i : ∀ σ H Q, t' σ H Q → t σ H Q) : PK X kws t' := ⟨fun pos pins s σ H Q I q => h.run pos pins s σ H Q I (i _ _ _ q)⟩
abbrev SK (X : Cx) (W : WX) (kws : List Keyword) (f : Av) : Prop := PK X kws (tA X.K X.mg W f)
theorem sk_nil : SK X W [] aNil := pk_nil.imp fun σ H Q ⟨_, _, _, _, r, _, q⟩ => q.now r [] .nil
theorem sk_cons {nm : Option Str} {kpos : Pos} {kws : List Keyword} {a : Ev} (ha : SE X W e a) (hr : SK X W kws as) : SK X W (⟨nm, e, kpos⟩ :: kws) (aCons a as) := by
  refine (pk_cons ha hr).imp fun σ H Q ⟨ρ, μ, α, F, r, re, q⟩ => ?_
  refine ⟨ρ, μ, α, F, r, re, q.bind.mono fun w μ1 α1 F1 H1 x1 r1 q1 v rv => ?_⟩
  refine ⟨ρ, μ1, α1, F1, r1, re.ext x1, q1.bind.mono fun ws μ2 α2 F2 H2 x2 r2 q2 vs rvs => ?_⟩
  exact q2.now r2 (v :: vs) (.cons (rv.ext x2) rvs)
/-- f(k = e, ..) -/
theorem se_callK {ks : List Str} {kws : List Keyword} {pm : List Nat} {dv : List V} {ds : List Value} {ws0 : List Wv} (G : FnG X.prog X.w X.K X.mg X.base k f fd ps (spG X.K X.mg n g)) (hr : Room k X.A) (hg : X.A.guards = some []) (gl : Gl X x) (hm : X.mg x = some (.ref f)) (hk : PySem.W.keepIn X.K (.ref f) = true)
    (hb : KwBinds X.K fd ps ks pm ds) (hd : Vals dv ds) (hw : ∀ α F, Rws X.K α F dv ws0) (tk : Takes X W) (ha : SK X W kws as) (hall : (backToKw pos (keywordEach kws X.env)).all (·.1.isSome) = true) (hks : (backToKw pos (keywordEach kws X.env)).filterMap (·.1) = ks) (hdb : (x == ("__debug__" : Str)) = false)
    (hpl : ((backTo pos (starEach [] X.env)).any (·.1) || (backToKw pos (keywordEach kws X.env)).any (·.1.isNone)) = false) :
    SE X W (.Call (.Name x p) [] kws pos) (eCall (fun ws μ => arity n g (permL pm (ws ++ ws0)) μ) as) := by
  refine (pe_callGK (E := WE W) G hr hg gl hm hk hb hd (fun σ => passAt tk σ) ha hall hks hdb hpl).imp fun σ H Q ⟨ρ, μ, α, F, r, re, q⟩ => ?_
  refine ⟨ρ, μ, α, F, r, re, q.bind.mono fun ws μ1 α1 F1 H1 x1 r1 q1 vs rv => ?_⟩
  exact ⟨permL pm (ws ++ ws0), μ1, α1, F1, r1, permL_rel (Paired.app rv (hw _ _)) pm, q1⟩
end

/-! ### a def's semantic function -/
/-- behind the body: the def's own cells forgotten -/
def leave (n : Nat) (w : Wv) (μ : Mu) : Out Wv :=
  match w with
  | .d x => .ok (.d x) (μ.take n)
  | .r k => if k < n then .ok (.r k) (μ.take n) else match μ[k]? with
    | some (some c) => .ok (.r n) (μ.take n ++ [some c])
    | _ => .bad
  | .t _ => .bad
def initR (n : Nat) (ws : List Wv) : Rho := ws.map some ++ List.replicate (n - ws.length) none
def runD (n : Nat) (body : Sv) (ws : List Wv) (μ : Mu) : Out Wv :=
  match body (initR n ws) μ with
  | .ok (.rt w) μ' => leave μ.length w μ'
  | .ok (.nx _) μ' => leave μ.length (.d .none) μ'
  | .ok (.er x us _) μ' => match allD us with
    | some c => .err x (c.map Wv.d) (μ'.take μ.length)
    | none => .bad
  | _ => .bad
theorem allD_map : ∀ {us : List Wv} {c : Cell}, allD us = some c → us = c.map Wv.d
  | [], c, h => by
    cases h
    rfl
  | .d x :: r, c, h => by
    unfold allD at h
    obtain ⟨c', e, rfl⟩ := Option.map_eq_some_iff.mp h
    rw [allD_map e]
    rfl
  | .r k :: _, c, h => by cases h
  | .t _ :: _, c, h => by cases h
theorem Rws.data {K : PySem.W.Frag} {α α' : List Addr} {F : Hp} : ∀ {vs : List V} {c : Cell}, Rws K α F vs (c.map Wv.d) → Rws K α' F vs (c.map Wv.d)
  | [], [], _ => .nil
  | [], _ :: _, h => by cases h
  | _ :: _, [], h => by cases h
  | v :: vs, d :: c, h => by
    cases h with
    | cons r t => exact .cons (show Dq K F v d from r) (Rws.data t)
theorem gp_leave {K : PySem.W.Frag} {mg : Str → Option Value} {α α' : List Addr} {F F' H H' : Hp} {μ μ' : Mu} {w : Wv} {v : V} {Q : VK} {E : XK} (h : gp K mg α F H (leave μ.length w μ') (Gw K Q) E) (r0 : Rep K α F μ H) (e : Ext α F H α' F' H') (r : Rep K α' F' μ' H') (rv : Rw K α' F' v w) : Q v H' := by
  unfold leave at h
  cases w with
  | d x =>
    obtain ⟨r2, e2⟩ := r.drop e r0.len
    exact h.at e2 r2 v rv
  | t ds => exact h.elim
  | r k =>
    have h : gp K mg α F H (if k < μ.length then .ok (.r k) (μ'.take μ.length) else match μ'[k]? with
      | some (some c) => .ok (.r μ.length) (μ'.take μ.length ++ [some c])
      | _ => .bad) (Gw K Q) E := h
    split at h
    · rename_i hk
      obtain ⟨r2, e2⟩ := r.drop e r0.len
      obtain ⟨a, h1, rfl⟩ := rv
      obtain ⟨β, rfl⟩ := e.pre
      rw [List.getElem?_append_left (by rw [← r0.len]; exact hk)] at h1
      exact h.at e2 r2 _ ⟨a, h1, rfl⟩
    · rename_i hk
      split at h
      · rename_i c hc
        obtain ⟨a, g1, r2, e2⟩ := r.drop1 e r0.len (Nat.le_of_not_lt hk) hc
        obtain ⟨b, h1, rfl⟩ := rv
        rw [g1] at h1
        cases h1
        refine h.at e2 r2 _ ⟨a, ?_, rfl⟩
        rw [r0.len, List.getElem?_append_right (Nat.le_refl _), Nat.sub_self]
        rfl
      · exact h.elim
theorem repE_start {K : PySem.W.Frag} {α : List Addr} {F : Hp} {N : List Str} {vs : List V} {ws : List Wv} (h : Rws K α F vs ws) : RepE K α F (initR N.length ws) (L2.start N vs) := by
  refine ⟨?_, fun i w q => ?_⟩
  · unfold initR L2.start
    rw [List.length_append, List.length_append, List.length_map, List.length_map, List.length_replicate, List.length_replicate, h.length]
  · unfold initR at q
    by_cases hi : i < ws.length
    · rw [List.getElem?_append_left (by rw [List.length_map]; exact hi), List.getElem?_map] at q
      have hl : i < vs.length := by rw [h.length]; exact hi
      obtain ⟨v, w', h1, h2, hr⟩ := Paired.at_ h hl
      rw [h2] at q
      cases q
      refine ⟨v, ?_, hr⟩
      unfold L2.start
      rw [List.getElem?_append_left (by rw [List.length_map]; exact hl), List.getElem?_map, h1]
      rfl
    · rw [List.getElem?_append_right (by rw [List.length_map]; omega), List.getElem?_replicate] at q
      split at q <;> cases q
/-- THE RULE for a def: its body is sound for b -/
theorem fng_sem {P : Program} {w : World} {K : PySem.W.Frag} {mg : Str → Option Value} {base : Heap} {k : Nat} {f : Addr} {x qual : Str} {st : Stmt} {fd : FuncData} {N ps : List Str} {b : Sv}
    (F : Fun K x qual st f fd) (S : FnScope N ps (defScope st))
    (body : ∀ (cdv : Value) (A : Around) (outer : List Env) (s : Shared) (H : Hp) (E : XK), Room k (A.deeper (envOfC qual (defScope st) s.heap.objs.size f cdv)) → A.guards = some [] →
      SSs (cxOf (L2.CX P w) P w K mg base N qual (defScope st) f cdv A outer s H E) (fun cls d _ H => E cls d H) (defBody st) b) :
    FnG P w K mg base (k + 1) f fd ps (spG K mg ps.length (runD N.length b)) := by
  refine fng_of F S (fun vs H Q E h => h.len) fun cdv A outer s H vs Q E hr hg h => ⟨_, body cdv A outer s H E hr hg, ?_⟩
  obtain ⟨ws, μ, α, F0, r, rv, q⟩ := h
  refine ⟨initR N.length ws, μ, α, F0, r, repE_start rv, ?_⟩
  unfold arity at q
  split at q
  · unfold runD at q
    show gp K mg α F0 H (b (initR N.length ws) μ) (GS K mg _ _) _
    cases z : b (initR N.length ws) μ with
    | bad =>
      rw [z] at q
      exact q
    | err x us μ' =>
      rw [z] at q
      exact q.elim
    | ok fl μ' =>
      rw [z] at q
      intro α' F' H' e r'
      cases fl with
      | rt w1 => exact fun v hv => gp_leave q r e r' hv
      | nx ρ' => exact fun σ' _ => gp_leave (w := .d .none) q r e r' .non
      | bk ρ' => exact q.elim
      | ct ρ' => exact q.elim
      | er y us ρ' =>
        intro σ' C d fs _ h1 h2 h3
        have q : gp K mg α F0 H (match allD us with
          | some c => .err y (c.map Wv.d) (μ'.take μ.length)
          | none => .bad) (Gw K Q) E := q
        cases hc : allD us with
        | none =>
          rw [hc] at q
          exact q.elim
        | some c =>
          rw [hc] at q
          obtain ⟨r2, e2⟩ := r'.drop e r.len
          rw [allD_map hc] at h3
          exact q α F' H' C d fs e2 r2 h1 h2 h3.data
  · exact q.elim
end TL
/-! TL6: built-in functions and subscripts by data. -/
namespace TL
open PySem PySem.Spec L2

def intsOf : List PyData → Option (List Int)
  | [] => some []
  | .int i :: r => (intsOf r).map (i :: ·)
  | _ => none
def boolsOf : List PyData → Option (List Bool)
  | [] => some []
  | .bool i :: r => (boolsOf r).map (i :: ·)
  | _ => none
theorem intsOf_map : ∀ {xs : List PyData} {ns : List Int}, intsOf xs = some ns → xs = ns.map PyData.int
  | [], ns, h => by
    cases h
    rfl
  | .int i :: r, ns, h => by
    unfold intsOf at h
    obtain ⟨ms, e, rfl⟩ := Option.map_eq_some_iff.mp h
    rw [intsOf_map e]
    rfl
  | .none :: _, ns, h | .bool _ :: _, ns, h | .str _ :: _, ns, h | .list _ :: _, ns, h | .tuple _ :: _, ns, h | .dict _ :: _, ns, h => by cases h
theorem boolsOf_map : ∀ {xs : List PyData} {ns : List Bool}, boolsOf xs = some ns → xs = ns.map PyData.bool
  | [], ns, h => by
    cases h
    rfl
  | .bool i :: r, ns, h => by
    unfold boolsOf at h
    obtain ⟨ms, e, rfl⟩ := Option.map_eq_some_iff.mp h
    rw [boolsOf_map e]
    rfl
  | .none :: _, ns, h | .int _ :: _, ns, h | .str _ :: _, ns, h | .list _ :: _, ns, h | .tuple _ :: _, ns, h | .dict _ :: _, ns, h => by cases h
theorem intsOf_ints : ∀ ns : List Int, intsOf (ns.map PyData.int) = some ns
  | [] => rfl
  | n :: ns => by
    show (intsOf (ns.map PyData.int)).map (n :: ·) = _
    rw [intsOf_ints ns]
    rfl
theorem boolsOf_bools : ∀ ns : List Bool, boolsOf (ns.map PyData.bool) = some ns
  | [] => rfl
  | n :: ns => by
    show (boolsOf (ns.map PyData.bool)).map (n :: ·) = _
    rw [boolsOf_bools ns]
    rfl
/-- the greatest, the least -/
def maxI : Int → List Int → Int
  | m, [] => m
  | m, x :: r => maxI (if x > m then x else m) r
def minI : Int → List Int → Int
  | m, [] => m
  | m, x :: r => minI (if x < m then x else m) r
theorem maxI_spec : ∀ (r : List Int) (m : Int), maxI m r ∈ m :: r ∧ ∀ y ∈ m :: r, y ≤ maxI m r
  | [], m => ⟨List.mem_cons_self, fun y h => by
      simp at h
      subst h
      exact Int.le_refl _⟩
  | x :: r, m => by
    obtain ⟨h1, h2⟩ := maxI_spec r (if x > m then x else m)
    show maxI (if x > m then x else m) r ∈ _ ∧ ∀ y ∈ _, y ≤ maxI (if x > m then x else m) r
    have h3 := h2 _ List.mem_cons_self
    refine ⟨?_, fun y hy => ?_⟩
    · rcases List.mem_cons.mp h1 with e | e
      · rw [e]
        split <;> simp
      · exact List.mem_cons_of_mem _ (List.mem_cons_of_mem _ e)
    · rcases List.mem_cons.mp hy with rfl | hy
      · exact Int.le_trans (by split <;> omega) h3
      · rcases List.mem_cons.mp hy with rfl | hy
        · exact Int.le_trans (by split <;> omega) h3
        · exact h2 y (List.mem_cons_of_mem _ hy)
theorem minI_spec : ∀ (r : List Int) (m : Int), minI m r ∈ m :: r ∧ ∀ y ∈ m :: r, minI m r ≤ y
  | [], m => ⟨List.mem_cons_self, fun y h => by
      simp at h
      subst h
      exact Int.le_refl _⟩
  | x :: r, m => by
    obtain ⟨h1, h2⟩ := minI_spec r (if x < m then x else m)
    show minI (if x < m then x else m) r ∈ _ ∧ ∀ y ∈ _, minI (if x < m then x else m) r ≤ y
    have h3 := h2 _ List.mem_cons_self
    refine ⟨?_, fun y hy => ?_⟩
    · rcases List.mem_cons.mp h1 with e | e
      · rw [e]
        split <;> simp
      · exact List.mem_cons_of_mem _ (List.mem_cons_of_mem _ e)
    · rcases List.mem_cons.mp hy with rfl | hy
      · exact Int.le_trans h3 (by split <;> omega)
      · rcases List.mem_cons.mp hy with rfl | hy
        · exact Int.le_trans h3 (by split <;> omega)
        · exact h2 y (List.mem_cons_of_mem _ hy)

/-! ### what they compute -/
def gLen : List Wv → Mu → Out Wv
  | [w], μ => match dataOf μ w with
    | some (.tuple xs) => .ok (wI xs.length) μ
    | some (.list xs) => .ok (wI xs.length) μ
    | some (.str x) => if x.length ≤ 16777216 then .ok (wI x.length) μ else .bad
    | _ => .bad
  | _, _ => .bad
def gAbs : List Wv → Mu → Out Wv
  | [.d (.int i)], μ => .ok (wI (if i < 0 then -i else i)) μ
  | _, _ => .bad
def gMax : List Wv → Mu → Out Wv
  | [.d (.int i), .d (.int j)], μ => .ok (wI (if j > i then j else i)) μ
  | [w], μ => match dataOf μ w with
    | some (.list xs) => match intsOf xs with
      | some (m :: r) => .ok (wI (maxI m r)) μ
      | _ => .bad
    | _ => .bad
  | _, _ => .bad
def gMin : List Wv → Mu → Out Wv
  | [.d (.int i), .d (.int j)], μ => .ok (wI (if j < i then j else i)) μ
  | [w], μ => match dataOf μ w with
    | some (.list xs) => match intsOf xs with
      | some (m :: r) => .ok (wI (minI m r)) μ
      | _ => .bad
    | _ => .bad
  | _, _ => .bad
def gInt : List Wv → Mu → Out Wv
  | [w], μ => match numOf w with
    | some i => .ok (wI i) μ
    | none => .bad
  | _, _ => .bad
def gStr : List Wv → Mu → Out Wv
  | [.d (.int i)], μ => if i.natAbs.log2 < 1920 then .ok (wS (toString i)) μ else .bad
  | [.d (.str x)], μ => .ok (wS x) μ
  | _, _ => .bad
def gSum : List Wv → Mu → Out Wv
  | [w], μ => match dataOf μ w with
    | some (.list xs) => match intsOf xs with
      | some ns => .ok (wI ns.sum) μ
      | none => .bad
    | _ => .bad
  | _, _ => .bad
def gAll : List Wv → Mu → Out Wv
  | [w], μ => match dataOf μ w with
    | some (.list xs) => match boolsOf xs with
      | some bs => .ok (wBl (bs.all id)) μ
      | none => .bad
    | _ => .bad
  | _, _ => .bad
def gAny : List Wv → Mu → Out Wv
  | [w], μ => match dataOf μ w with
    | some (.list xs) => match boolsOf xs with
      | some bs => .ok (wBl (bs.any id)) μ
      | none => .bad
    | _ => .bad
  | _, _ => .bad
def gTuple : List Wv → Mu → Out Wv
  | [w], μ => match dataOf μ w with
    | some (.list xs) => .ok (wT xs) μ
    | some (.tuple xs) => .ok (wT xs) μ
    | _ => .bad
  | _, _ => .bad
def gDivmod : List Wv → Mu → Out Wv
  | [.d (.int i), .d (.int j)], μ => if 0 < j ∧ Builtin.divisionGoesByPylong i j = false then .ok (wT [.int (i / j), .int (i % j)]) μ else .bad
  | _, _ => .bad
def gGcd : List Wv → Mu → Out Wv
  | [.d (.int i), .d (.int j)], μ => .ok (wI ((Nat.gcd i.natAbs j.natAbs : Nat) : Int)) μ
  | _, _ => .bad
def reprOk (x : PyData) : Bool := x.showable && decide (x.shown.length ≤ 16777216) && decide (x.depth ≤ 60) && !x.hasDict
def gRepr : List Wv → Mu → Out Wv
  | [w], μ => match dataOf μ w with
    | some x => if reprOk x = true then .ok (wS x.shown) μ else .bad
    | none => .bad
  | _, _ => .bad
/-- the list that list(x) makes -/
def gList : List Wv → Mu → Out Cell
  | [w], μ => match dataOf μ w with
    | some (.list xs) => .ok xs μ
    | some (.tuple xs) => .ok xs μ
    | _ => .bad
  | _, _ => .bad

section
variable {X : Cx} {K : PySem.W.Frag} {α : List Addr} {F H : Hp} {μ : Mu} {mg : Str → Option Value}
theorem rws1 {xs : List V} {w : Wv} (h : Rws K α F xs [w]) : ∃ v, xs = [v] ∧ Rw K α F v w := by
  cases h with
  | cons r t =>
    cases t
    exact ⟨_, rfl, r⟩
theorem rws2 {xs : List V} {w u : Wv} (h : Rws K α F xs [w, u]) : ∃ v v', xs = [v, v'] ∧ Rw K α F v w ∧ Rw K α F v' u := by
  cases h with
  | cons r t =>
    obtain ⟨v', rfl, r'⟩ := rws1 t
    exact ⟨_, _, rfl, r, r'⟩
/-- one argument, its data known -/
theorem data1 {xs : List V} {w : Wv} {x : PyData} (r : Rep K α F μ H) (h : Rws K α F xs [w]) (e : dataOf μ w = some x) : ∃ v, xs = [v] ∧ Dq K H v x := by
  obtain ⟨v, rfl, q⟩ := rws1 h
  exact ⟨v, rfl, data_ok r e q⟩
theorem cr_gLen : CallR X (.builtin "len") (rnG X.K X.mg gLen) := by
  intro pins s σ H xs us Q I ru ⟨μ, α, F, ws, r, h, q⟩
  unfold gLen at q
  split at q
  · split at q
    · rename_i e
      obtain ⟨v, rfl, d⟩ := data1 r h e
      cases d with
      | tup hs ha => exact call_len_seq pins s σ H _ us Q I ru ⟨_, _, rfl, .inr hs, by rw [ha.length]; exact q.now r _ (.int _)⟩
    · rename_i e
      obtain ⟨v, rfl, d⟩ := data1 r h e
      cases d with
      | lst hs ha => exact call_len_seq pins s σ H _ us Q I ru ⟨_, _, rfl, .inl hs.sq, by rw [ha.length]; exact q.now r _ (.int _)⟩
    · rename_i e
      obtain ⟨v, rfl, d⟩ := data1 r h e
      split at q
      · rename_i hl
        cases d
        exact call_len_str pins s σ H _ us Q I ru ⟨_, rfl, le_line hl, q.now r _ (.int _)⟩
      · exact q.elim
    · exact q.elim
  · exact q.elim
theorem cr_gAbs : CallR X (.builtin "abs") (rnG X.K X.mg gAbs) := by
  intro pins s σ H xs us Q I ru ⟨μ, α, F, ws, r, h, q⟩
  unfold gAbs at q
  split at q
  · obtain ⟨v, rfl, d⟩ := rws1 h
    cases d
    exact call_abs pins s σ H _ us Q I ru ⟨_, rfl, q.now r _ (.int _)⟩
  · exact q.elim
theorem cr_gMax (hc : X.calm = true) : CallR X (.builtin "max") (rnG X.K X.mg gMax) := by
  intro pins s σ H xs us Q I ru ⟨μ, α, F, ws, r, h, q⟩
  unfold gMax at q
  split at q
  · obtain ⟨v, v', rfl, d, d'⟩ := rws2 h
    cases d
    cases d'
    exact call_max2 hc pins s σ H _ us Q I ru ⟨_, _, rfl, q.now r _ (.int _)⟩
  · split at q
    · rename_i e
      obtain ⟨v, rfl, d⟩ := data1 r h e
      split at q
      · rename_i m rest e2
        cases d with
        | lst hs ha =>
          have e3 := intsOf_map e2
          rw [e3] at ha
          have e4 := ha.ints
          subst e4
          obtain ⟨m1, m2⟩ := maxI_spec rest m
          refine cr_max hc pins s σ H _ us Q I ru ⟨_, m :: rest, rfl, hs.sq, Nat.succ_pos _, fun z hz hmax => ?_⟩
          have ez : z = maxI m rest := Int.le_antisymm (m2 z hz) (hmax _ m1)
          rw [ez]
          exact q.now r _ (.int _)
      · exact q.elim
    · exact q.elim
  · exact q.elim
theorem cr_gMin (hc : X.calm = true) : CallR X (.builtin "min") (rnG X.K X.mg gMin) := by
  intro pins s σ H xs us Q I ru ⟨μ, α, F, ws, r, h, q⟩
  unfold gMin at q
  split at q
  · obtain ⟨v, v', rfl, d, d'⟩ := rws2 h
    cases d
    cases d'
    exact call_min2 hc pins s σ H _ us Q I ru ⟨_, _, rfl, q.now r _ (.int _)⟩
  · split at q
    · rename_i e
      obtain ⟨v, rfl, d⟩ := data1 r h e
      split at q
      · rename_i m rest e2
        cases d with
        | lst hs ha =>
          have e3 := intsOf_map e2
          rw [e3] at ha
          have e4 := ha.ints
          subst e4
          obtain ⟨m1, m2⟩ := minI_spec rest m
          refine cr_min hc pins s σ H _ us Q I ru ⟨_, m :: rest, rfl, hs.sq, Nat.succ_pos _, fun z hz hmin => ?_⟩
          have ez : z = minI m rest := Int.le_antisymm (hmin _ m1) (m2 z hz)
          rw [ez]
          exact q.now r _ (.int _)
      · exact q.elim
    · exact q.elim
  · exact q.elim
theorem cr_gInt : CallR X (.type "int") (rnG X.K X.mg gInt) := by
  intro pins s σ H xs us Q I ru ⟨μ, α, F, ws, r, h, q⟩
  unfold gInt at q
  split at q
  · split at q
    · rename_i e
      obtain ⟨v, rfl, d⟩ := rws1 h
      rcases num_ok e d with rfl | ⟨b, rfl, rfl⟩
      · exact call_int1 pins s σ H _ us Q I ru (.inl ⟨_, rfl, q.now r _ (.int _)⟩)
      · refine call_int1 pins s σ H _ us Q I ru (.inr ⟨b, rfl, ?_⟩)
        exact q.now r _ (.int _)
    · exact q.elim
  · exact q.elim
theorem cr_gStr : CallR X (.type "str") (rnG X.K X.mg gStr) := by
  intro pins s σ H xs us Q I ru ⟨μ, α, F, ws, r, h, q⟩
  unfold gStr at q
  split at q
  · split at q
    · rename_i hl
      obtain ⟨v, rfl, d⟩ := rws1 h
      cases d
      exact call_str_int pins s σ H _ us Q I ru ⟨_, rfl, hl, q.now r _ (.str _)⟩
    · exact q.elim
  · obtain ⟨v, rfl, d⟩ := rws1 h
    cases d
    exact SkE.call_str_str pins s σ H _ us Q I ru ⟨_, rfl, q.now r _ (.str _)⟩
  · exact q.elim
theorem cr_gSum (hc : X.calm = true) : CallR X (.builtin "sum") (rnG X.K X.mg gSum) := by
  intro pins s σ H xs us Q I ru ⟨μ, α, F, ws, r, h, q⟩
  unfold gSum at q
  split at q
  · split at q
    · rename_i e
      obtain ⟨v, rfl, d⟩ := data1 r h e
      split at q
      · rename_i ns e2
        cases d with
        | lst hs ha =>
          have e3 := intsOf_map e2
          rw [e3] at ha
          have e4 := ha.ints
          subst e4
          exact cr_sum hc pins s σ H _ us Q I ru ⟨_, ns, rfl, hs.sq, q.now r _ (.int _)⟩
      · exact q.elim
    · exact q.elim
  · exact q.elim
theorem cr_gAll (hc : X.calm = true) : CallR X (.builtin "all") (rnG X.K X.mg gAll) := by
  intro pins s σ H xs us Q I ru ⟨μ, α, F, ws, r, h, q⟩
  unfold gAll at q
  split at q
  · split at q
    · rename_i e
      obtain ⟨v, rfl, d⟩ := data1 r h e
      split at q
      · rename_i ns e2
        cases d with
        | lst hs ha =>
          have e3 := boolsOf_map e2
          rw [e3] at ha
          have e4 := ha.bools
          subst e4
          exact cr_all hc pins s σ H _ us Q I ru ⟨_, ns, rfl, hs.sq, q.now r _ (.bl _)⟩
      · exact q.elim
    · exact q.elim
  · exact q.elim
theorem cr_gAny (hc : X.calm = true) : CallR X (.builtin "any") (rnG X.K X.mg gAny) := by
  intro pins s σ H xs us Q I ru ⟨μ, α, F, ws, r, h, q⟩
  unfold gAny at q
  split at q
  · split at q
    · rename_i e
      obtain ⟨v, rfl, d⟩ := data1 r h e
      split at q
      · rename_i ns e2
        cases d with
        | lst hs ha =>
          have e3 := boolsOf_map e2
          rw [e3] at ha
          have e4 := ha.bools
          subst e4
          exact cr_any hc pins s σ H _ us Q I ru ⟨_, ns, rfl, hs.sq, q.now r _ (.bl _)⟩
      · exact q.elim
    · exact q.elim
  · exact q.elim
theorem cr_gTuple : CallR X (.type "tuple") (rnG X.K X.mg gTuple) := by
  intro pins s σ H xs us Q I ru ⟨μ, α, F, ws, r, h, q⟩
  unfold gTuple at q
  split at q
  · rename_i w
    split at q
    · rename_i zs e
      obtain ⟨v, rfl, q0⟩ := rws1 h
      -- the items are frozen data, wherever the list stands
      obtain ⟨a, vs, rfl, hs, ha⟩ : ∃ a vs, v = .ref a ∧ SqL X.K H a vs ∧ DqAll X.K F vs zs := by
        cases w with
        | d y =>
          cases e
          cases q0 with
          | lst hs ha => exact ⟨_, _, rfl, (sameL r.sub hs).sq, ha⟩
        | t ds => cases e
        | r k =>
          have e : (μ[k]?.join).map PyData.list = some (.list zs) := e
          obtain ⟨c, e1, e2⟩ := Option.map_eq_some_iff.mp e
          cases e2
          have e' : μ[k]? = some (some zs) := by
            cases z : μ[k]? with
            | none =>
              rw [z] at e1
              cases e1
            | some o =>
              rw [z] at e1
              have e3 : o = some zs := e1
              rw [e3]
          obtain ⟨a, vs, h1, h2, h3, h4⟩ := r.cell k zs e'
          obtain ⟨b, g1, rfl⟩ := q0
          rw [h1] at g1
          cases g1
          exact ⟨a, vs, rfl, .of h2, h4⟩
      refine call_tuple_of pins s σ H _ us Q I ru ⟨a, vs, rfl, .inl ⟨hs, fun p hp => ?_⟩⟩
      obtain ⟨r2, x2⟩ := r.new (o := .tup vs) hp
      exact q.at x2 r2 _ (.tup (.of upd_same) (ha.mono x2.fro))
    · rename_i zs e
      obtain ⟨v, rfl, q0⟩ := rws1 h
      cases w with
      | d y =>
        cases e
        cases q0 with
        | tup hs ha => exact call_tuple_of pins s σ H _ us Q I ru ⟨_, _, rfl, .inr ⟨sameT r.sub hs, q.now r _ (.tup hs ha)⟩⟩
      | t ds => cases e
      | r k =>
        have e : (μ[k]?.join).map PyData.list = some (.tuple zs) := e
        obtain ⟨c, e1, e2⟩ := Option.map_eq_some_iff.mp e
        cases e2
    · exact q.elim
  · exact q.elim
theorem cr_gDivmod : CallR X (.builtin "divmod") (rnG X.K X.mg gDivmod) := by
  intro pins s σ H xs us Q I ru ⟨μ, α, F, ws, r, h, q⟩
  unfold gDivmod at q
  split at q
  · split at q
    · rename_i i j hj
      obtain ⟨v, v', rfl, d, d'⟩ := rws2 h
      cases d
      cases d'
      refine call_divmodW pins s σ H _ us Q I ru ⟨_, _, rfl, hj, fun p hp => ?_⟩
      obtain ⟨r2, x2⟩ := r.new (o := .tup [.int (i / j), .int (i % j)]) hp
      exact q.at x2 r2 _ (.tup (.of upd_same) (.cons (.int _) (.cons (.int _) .nil)))
    · exact q.elim
  · exact q.elim
theorem cr_gGcd : CallR X (.builtin "math.gcd") (rnG X.K X.mg gGcd) := by
  intro pins s σ H xs us Q I ru ⟨μ, α, F, ws, r, h, q⟩
  unfold gGcd at q
  split at q
  · obtain ⟨v, v', rfl, d, d'⟩ := rws2 h
    cases d
    cases d'
    exact cr_gcd pins s σ H _ us Q I ru ⟨_, _, rfl, q.now r _ (.int _)⟩
  · exact q.elim
theorem cr_gRepr (hg : X.A.guards = some []) (hu : X.A.units + 64 < cLine) : CallR X (.builtin "repr") (rnG X.K X.mg gRepr) := by
  intro pins s σ H xs us Q I ru ⟨μ, α, F, ws, r, h, q⟩
  unfold gRepr at q
  split at q
  · split at q
    · rename_i x e
      split at q
      · rename_i ok
        obtain ⟨v, rfl, d⟩ := data1 r h e
        unfold reprOk at ok
        simp only [Bool.and_eq_true, decide_eq_true_eq, Bool.not_eq_true'] at ok
        obtain ⟨⟨⟨k1, k2⟩, k3⟩, k4⟩ := ok
        obtain ⟨u, rfl, rw1⟩ := vals1 ru
        have q := q.now r _ (.str _)
        obtain ⟨as, d2, _⟩ := Dq.reads I x v u d rw1
        have k2' : x.shown.length ≤ sizeLine := le_line k2
        have nd : x.hasDict = true → sysModules ∉ as := fun z => by rw [k4] at z; cases z
        cases d2 with
        | none =>
          simp only [PyData.shown] at q
          exact PySem.P.repr_of_none ⟨.str _, H, I.tok _, ⟨_, rfl⟩, q⟩
        | bool b =>
          simp only [PyData.shown] at q
          exact PySem.P.repr_of_bool ⟨.str _, H, I.tok _, ⟨_, rfl⟩, q⟩
        | int i t =>
          simp only [PyData.shown] at q
          exact PySem.P.repr_of_int (by simpa [PyData.showable] using k1) ⟨.str _, H, I.tok _, ⟨_, rfl⟩, q⟩
        | str z t =>
          simp only [PyData.shown] at q k2'
          exact PySem.P.repr_of_str ⟨.str _, H, I.tok _, ⟨_, rfl⟩, q⟩ k2'
        | list h1 h2 h3 h4 => exact repr_of_reads' (.list h1 h2 h3 h4) k1 nd hg (by omega) (fun _ _ z => z) (fun h' u tk hk => ⟨.str _, H, I.kept hk, ⟨_, rfl⟩, q⟩) k2'
        | tuple h1 h2 h3 h4 => exact repr_of_reads' (.tuple h1 h2 h3 h4) k1 nd hg (by omega) (fun _ _ z => z) (fun h' u tk hk => ⟨.str _, H, I.kept hk, ⟨_, rfl⟩, q⟩) k2'
        | dict h1 h2 h3 h4 h5 => exact repr_of_reads' (.dict h1 h2 h3 h4 h5) k1 nd hg (by omega) (fun _ _ z => z) (fun h' u tk hk => ⟨.str _, H, I.kept hk, ⟨_, rfl⟩, q⟩) k2'
      · exact q.elim
    · exact q.elim
  · exact q.elim
end

/-! ### calls of them -/
section
variable {X : Cx} {W : WX} {x : Str} {p pos : Pos} {e : Expr} {es : List Expr} {as : Av} {id T : String} {g : List Wv → Mu → Out Wv}
theorem se_bi (hc : CallR X (.builtin id) (rnG X.K X.mg g)) (hg : Gl X x) (hm : X.mg x = none) (hv : bootBuiltins x = some (.builtin id)) (ha : SA X W (e :: es) as) (hn : x ≠ "__name__") (hdb : (x == ("__debug__" : Str)) = false)
    (he : starEach (e :: es) X.env = (false, eval e X.env) :: starEach es X.env) (hpl : (backTo pos (starEach es X.env)).any (·.1) = false) : SE X W (.Call (.Name x p) (e :: es) [] pos) (en g as) := by
  refine (pe_callB hc hg hm hv ha hn hdb he hpl).imp fun σ H Q ⟨ρ, μ, α, F, r, re, q⟩ => ?_
  refine ⟨ρ, μ, α, F, r, re, q.bind.mono fun ws μ1 α1 F1 H1 x1 r1 q1 vs rv => ?_⟩
  exact ⟨μ1, α1, F1, ws, r1, rv, q1.calm⟩
theorem se_bif (hc : CallR X (.builtin id) (rnG X.K X.mg g)) (hg : Gl X x) (hm : X.mg x = some (.builtin id)) (ha : SA X W (e :: es) as) (hdb : (x == ("__debug__" : Str)) = false)
    (he : starEach (e :: es) X.env = (false, eval e X.env) :: starEach es X.env) (hpl : (backTo pos (starEach es X.env)).any (·.1) = false) : SE X W (.Call (.Name x p) (e :: es) [] pos) (en g as) := by
  refine (pe_callBfun hc hg hm ha hdb he hpl).imp fun σ H Q ⟨ρ, μ, α, F, r, re, q⟩ => ?_
  refine ⟨ρ, μ, α, F, r, re, q.bind.mono fun ws μ1 α1 F1 H1 x1 r1 q1 vs rv => ?_⟩
  exact ⟨μ1, α1, F1, ws, r1, rv, q1.calm⟩
theorem se_ty (hc : CallR X (.type T) (rnG X.K X.mg g)) (hg : Gl X x) (hm : X.mg x = none) (hv : bootBuiltins x = some (.type T)) (ha : SA X W (e :: es) as) (hn : x ≠ "__name__") (hdb : (x == ("__debug__" : Str)) = false)
    (he : starEach (e :: es) X.env = (false, eval e X.env) :: starEach es X.env) (hpl : (backTo pos (starEach es X.env)).any (·.1) = false) : SE X W (.Call (.Name x p) (e :: es) [] pos) (en g as) := by
  refine (pe_callTy hc hg hm hv ha hn hdb he hpl).imp fun σ H Q ⟨ρ, μ, α, F, r, re, q⟩ => ?_
  refine ⟨ρ, μ, α, F, r, re, q.bind.mono fun ws μ1 α1 F1 H1 x1 r1 q1 vs rv => ?_⟩
  exact ⟨μ1, α1, F1, ws, r1, rv, q1.calm⟩
/-- list(e) -/
def lList (as : Av) : Lv := fun ρ μ => (as ρ μ).bind fun ws μ1 => calm (gList ws μ1)
theorem items_of {α : List Addr} {F H : Hp} {μ : Mu} {v : V} {w : Wv} {zs : List PyData} {K : PySem.W.Frag} (r : Rep K α F μ H) (e : dataOf μ w = some (.list zs)) (q0 : Rw K α F v w) : ∃ a vs, v = .ref a ∧ Ls K H a vs ∧ DqAll K F vs zs := by
  cases w with
  | d y =>
    cases e
    cases q0 with
    | lst hs ha => exact ⟨_, _, rfl, sameL r.sub hs, ha⟩
  | t ds => cases e
  | r k =>
    have e : (μ[k]?.join).map PyData.list = some (.list zs) := e
    obtain ⟨c, e1, e2⟩ := Option.map_eq_some_iff.mp e
    cases e2
    have e' : μ[k]? = some (some zs) := by
      cases z : μ[k]? with
      | none =>
        rw [z] at e1
        cases e1
      | some o =>
        rw [z] at e1
        have e3 : o = some zs := e1
        rw [e3]
    obtain ⟨a, vs, h1, h2, h3, h4⟩ := r.cell k zs e'
    obtain ⟨b, g1, rfl⟩ := q0
    rw [h1] at g1
    cases g1
    exact ⟨a, vs, rfl, .of h2, h4⟩
theorem tup_of {α : List Addr} {F H : Hp} {μ : Mu} {v : V} {w : Wv} {zs : List PyData} {K : PySem.W.Frag} (r : Rep K α F μ H) (e : dataOf μ w = some (.tuple zs)) (q0 : Rw K α F v w) : w = .d (.tuple zs) ∧ ∃ a vs, v = .ref a ∧ SqT K F a vs ∧ DqAll K F vs zs := by
  cases w with
  | d y =>
    cases e
    cases q0 with
    | tup hs ha => exact ⟨rfl, _, _, rfl, hs, ha⟩
  | t ds => cases e
  | r k =>
    have e : (μ[k]?.join).map PyData.list = some (.tuple zs) := e
    obtain ⟨c, e1, e2⟩ := Option.map_eq_some_iff.mp e
    cases e2
theorem fresh0 {α α' : List Addr} {F F' H H' : Hp} (x : Ext α F H α' F' H') {p : Addr} (hp : H' p = none) : H p = none := by
  by_cases z : H p = none
  · exact z
  · exact absurd hp (x.keep p z)
theorem sl_list (hg : Gl X x) (hm : X.mg x = none) (hv : bootBuiltins x = some (.type "list")) (ha : SA X W (e :: es) as) (hn : x ≠ "__name__") (hdb : (x == ("__debug__" : Str)) = false)
    (he : starEach (e :: es) X.env = (false, eval e X.env) :: starEach es X.env) (hpl : (backTo pos (starEach es X.env)).any (·.1) = false) : SL X W (.Call (.Name x p) (e :: es) [] pos) (lList as) := by
  refine (pe_callTy call_list_of hg hm hv ha hn hdb he hpl).imp fun σ H Q ⟨ρ, μ, α, F, r, re, q⟩ => ?_
  refine ⟨ρ, μ, α, F, r, re, q.bind0.mono fun ws μ1 α1 F1 H1 x1 r1 q1 vs rv => ?_⟩
  have q1 : gp X.K X.mg α F H (gList ws μ1) (Gl' X.K H Q) (fun _ _ _ => False) := gp.calm q1
  have fin : ∀ {zs : List PyData} {us : List V}, gList ws μ1 = .ok zs μ1 → DqAll X.K F1 us zs → ∀ l, H1 l = none → Q (.ref l) (upd H1 l (.lst us)) := fun {zs us} e d l hl => by
    rw [e] at q1
    obtain ⟨r2, x2⟩ := r1.side (o := .lst us) hl
    exact q1.at (x1.trans x2) r2 l us (fresh0 x1 hl) upd_same (r1.sub.free hl) (fun m => r1.had l m hl) d
  have q2 := q1
  unfold gList at q2
  split at q2
  · rename_i w
    split at q2
    · rename_i zs e
      obtain ⟨v, rfl, q0⟩ := rws1 rv
      obtain ⟨a, us, rfl, hs, d⟩ := items_of r1 e q0
      exact ⟨a, us, rfl, .inl hs.sq, fin (by simp only [gList, e]) d⟩
    · rename_i zs e
      obtain ⟨v, rfl, q0⟩ := rws1 rv
      obtain ⟨rfl, a, us, rfl, hs, d⟩ := tup_of r1 e q0
      exact ⟨a, us, rfl, .inr (sameT r1.sub hs), fin rfl d⟩
    · exact q2.elim
  · exact q2.elim
end
end TL
/-! TL7: subscripts, slices, x[::-1], isinstance. -/
namespace TL
open PySem PySem.Spec L2

theorem atI_rel {K : PySem.W.Frag} {F : Hp} {vs : List V} {ds : List PyData} {k : Int} {d : PyData} (h : DqAll K F vs ds) (e : atI ds k = some d) : ∃ v, atI vs k = some v ∧ Dq K F v d := by
  unfold atI at e ⊢
  rw [h.length]
  cases z : ixN ds.length k with
  | none =>
    rw [z] at e
    cases e
  | some j =>
    rw [z] at e
    exact h.get e
/-- x[i] -/
def gIx (a i : Wv) (μ : Mu) : Out Wv :=
  match dataOf μ a, i with
  | some (.tuple xs), .d (.int k) => match atI xs k with
    | some x => .ok (.d x) μ
    | none => .bad
  | some (.list xs), .d (.int k) => match atI xs k with
    | some x => .ok (.d x) μ
    | none => .bad
  | some (.str z), .d (.int k) => if z.length ≤ 16777216 then match atI z.cps.toList k with
    | some c => .ok (wS ⟨#[c]⟩) μ
    | none => .bad else .bad
  | _, _ => .bad
/-- the part from lo up to hi -/
def cutL {β : Type} (xs : List β) (lo hi : Option Int) : List β := (xs.drop (HT.sIx xs.length 0 lo)).take (HT.sIx xs.length xs.length hi - HT.sIx xs.length 0 lo)
/-- x[lo:hi] -/
def gSl (a : Wv) (lo hi : Option Int) (μ : Mu) : Out Wv :=
  match dataOf μ a with
  | some (.tuple xs) => .ok (wT (cutL xs lo hi)) μ
  | some (.list xs) => .ok (wL (cutL xs lo hi)) μ
  | some (.str z) => if z.length ≤ 16777216 then .ok (wS (cutS z lo hi)) μ else .bad
  | _ => .bad
/-- x[::-1] -/
def gRev (a : Wv) (μ : Mu) : Out Wv :=
  match dataOf μ a with
  | some (.tuple xs) => .ok (wT xs.reverse) μ
  | some (.list xs) => .ok (wL xs.reverse) μ
  | _ => .bad
section
variable {X : Cx} {W : WX}
theorem ix_g : IxR X (r2G X.K X.mg gIx) := by
  intro value slice pins s σ H x y v u Q I rx ry ⟨μ, α, F, w1, w2, r, h1, h2, q⟩ hs
  unfold gIx at q
  split at q
  · rename_i xs k e
    split at q
    · rename_i d ed
      obtain ⟨rfl, a, vs, rfl, hv, da⟩ := tup_of r e h1
      cases h2
      obtain ⟨v', e1, e2⟩ := atI_rel da ed
      exact ix_seq value slice pins s σ H _ _ v u Q I rx ry (.inr (.inl ⟨a, vs, k, v', rfl, rfl, sameT r.sub hv, e1, q.now r _ e2⟩)) hs
    · exact q.elim
  · rename_i xs k e
    split at q
    · rename_i d ed
      obtain ⟨a, vs, rfl, hv, da⟩ := items_of r e h1
      cases h2
      obtain ⟨v', e1, e2⟩ := atI_rel da ed
      exact ix_seq value slice pins s σ H _ _ v u Q I rx ry (.inl ⟨a, vs, k, v', rfl, rfl, hv.sq, e1, q.now r _ e2⟩) hs
    · exact q.elim
  · rename_i z k e
    split at q
    · rename_i hl
      split at q
      · rename_i c ec
        have d1 := data_ok r e h1
        cases d1
        cases h2
        exact ix_seq value slice pins s σ H _ _ v u Q I rx ry (.inr (.inr ⟨z, k, c, rfl, rfl, le_line hl, ec, q.now r _ (.str _)⟩)) hs
      · exact q.elim
    · exact q.elim
  · exact q.elim
theorem se_ix {a b : Expr} {pos : Pos} {fa fb : Ev} (ha : SE X W a fa) (hb : SE X W b fb) (hs : PlainIx b) : SE X W (.Subscript a b pos) (e2 gIx fa fb) := by
  refine (pe_ix ix_g ha hb hs).imp fun σ H Q ⟨ρ, μ, α, F, r, re, q⟩ => ?_
  refine ⟨ρ, μ, α, F, r, re, q.bind.mono fun w μ1 α1 F1 H1 x1 r1 q1 v rv => ?_⟩
  refine ⟨ρ, μ1, α1, F1, r1, re.ext x1, q1.bind.mono fun u μ2 α2 F2 H2 x2 r2 q2 v' rv' => ?_⟩
  exact ⟨μ2, α2, F2, w, u, r2, rv.ext x2, rv', q2.calm⟩
def oPart (f : Option Ev) (ρ : Rho) (μ : Mu) : Out (Option Int) :=
  match f with
  | none => .ok none μ
  | some f => (f ρ μ).bind fun w μ1 => match w with
    | .d (.int i) => .ok (some i) μ1
    | _ => .bad
def tO' (K : PySem.W.Frag) (mg : Str → Option Value) (W : WX) (f : Option Ev) : TO := fun σ H Q => ∃ ρ μ α F, Rep K α F μ H ∧ RepE K α F ρ σ ∧ gp K mg α F H (oPart f ρ μ) (fun o _ _ _ H' => Q o H') (fun c d H' => W c d σ H')
/-- a part of a slice -/
abbrev SO (X : Cx) (W : WX) (e : Option Expr) (f : Option Ev) : Prop := PO X e (tO' X.K X.mg W f)
theorem _root_.L2.PO.imp {e : Option Expr} {t t' : TO} (h : PO X e t) (i : ∀ σ H Q, t' σ H Q → t σ H Q) : PO X e t' := ⟨fun pins s σ H Q I q => h.run pins s σ H Q I (i _ _ _ q)⟩
theorem so_none : SO X W none none := po_none.imp fun σ H Q ⟨_, _, _, _, r, _, q⟩ => gp.now (c := (none : Option Int)) q r
theorem so_some {e : Expr} {f : Ev} (h : SE X W e f) : SO X W (some e) (some f) := by
  refine (po_some h).imp fun σ H Q ⟨ρ, μ, α, F, r, re, q⟩ => ?_
  have q : gp X.K X.mg α F H ((f ρ μ).bind fun w μ1 => match w with
    | .d (.int i) => .ok (some i) μ1
    | _ => .bad) (fun o _ _ _ H' => Q o H') (fun c d H' => W c d σ H') := q
  refine ⟨ρ, μ, α, F, r, re, q.bind.mono fun w μ1 α1 F1 H1 x1 r1 q1 v rv => ?_⟩
  split at q1
  · cases rv
    exact ⟨_, rfl, q1.now r1⟩
  · exact q1.elim
def rSG (K : PySem.W.Frag) (mg : Str → Option Value) : V → Option Int → Option Int → Hp → VK → Prop := fun x lo hi H Q => ∃ μ α F w, Rep K α F μ H ∧ Rw K α F x w ∧ gp K mg α F H (gSl w lo hi μ) (Gw K Q) (fun _ _ _ => False)
theorem DqAll.cut {K : PySem.W.Frag} {F : Hp} {vs : List V} {ds : List PyData} (h : DqAll K F vs ds) (lo hi : Option Int) : DqAll K F (cutV vs lo hi) (cutL ds lo hi) := by
  unfold cutV cutL
  rw [h.length]
  exact (h.drop _).take _
theorem cut_all (xs : List V) (lo hi : Option Int) (h : HT.sIx xs.length 0 lo = 0 ∧ HT.sIx xs.length xs.length hi = xs.length) : cutV xs lo hi = xs := by
  unfold cutV
  rw [h.1, h.2, List.drop_zero, Nat.sub_zero, List.take_length]
theorem sl_g : SlR X (rSG X.K X.mg) := by
  intro pins s σ H x v vl vu lo hi sl Q I rx hs pl pu ⟨μ, α, F, w, r, h, q⟩
  unfold gSl at q
  split at q
  · rename_i xs e
    obtain ⟨rfl, a, vs, rfl, hv, da⟩ := tup_of r e h
    have dc := da.cut lo hi
    refine sl_tupA pins s σ H _ v vl vu lo hi sl Q I rx hs pl pu ⟨a, vs, rfl, sameT r.sub hv, fun hw => ?_, fun hw p hp => ?_⟩
    · rw [cut_all vs lo hi hw] at dc
      exact q.now r _ (.tup hv dc)
    · obtain ⟨r2, x2⟩ := r.new (o := .tup (cutV vs lo hi)) hp
      exact q.at x2 r2 _ (.tup (.of upd_same) (dc.mono x2.fro))
  · rename_i xs e
    obtain ⟨a, vs, rfl, hv, da⟩ := items_of r e h
    have dc := da.cut lo hi
    refine L2.sl_list pins s σ H _ v vl vu lo hi sl Q I rx hs pl pu ⟨a, vs, rfl, hv.sq, fun p hp => ?_⟩
    obtain ⟨r2, x2⟩ := r.new (o := .lst (cutV vs lo hi)) hp
    exact q.at x2 r2 _ (.lst (.of upd_same) (dc.mono x2.fro))
  · rename_i z e
    split at q
    · rename_i hl
      have d1 := data_ok r e h
      cases d1
      exact sl_str pins s σ H _ v vl vu lo hi sl Q I rx hs pl pu ⟨z, rfl, le_line hl, q.now r _ (.str _)⟩
    · exact q.elim
  · exact q.elim
def eSl (a : Ev) (lo hi : Option Ev) : Ev := fun ρ μ => (a ρ μ).bind fun w μ1 => (oPart lo ρ μ1).bind fun l μ2 => (oPart hi ρ μ2).bind fun h μ3 => calm (gSl w l h μ3)
theorem se_sl {a : Expr} {lo hi : Option Expr} {pos p2 : Pos} {fa : Ev} {fl fh : Option Ev} (ha : SE X W a fa) (hl : SO X W lo fl) (hh : SO X W hi fh) : SE X W (.Subscript a (.Slice lo hi none p2) pos) (eSl fa fl fh) := by
  refine (pe_slice sl_g ha hl hh).imp fun σ H Q ⟨ρ, μ, α, F, r, re, q⟩ => ?_
  refine ⟨ρ, μ, α, F, r, re, q.bind.mono fun w μ1 α1 F1 H1 x1 r1 q1 v rv => ?_⟩
  refine ⟨ρ, μ1, α1, F1, r1, re.ext x1, q1.bind.mono fun l μ2 α2 F2 H2 x2 r2 q2 => ?_⟩
  refine ⟨ρ, μ2, α2, F2, r2, (re.ext x1).ext x2, q2.bind.mono fun h μ3 α3 F3 H3 x3 r3 q3 => ?_⟩
  exact ⟨μ3, α3, F3, w, r3, (rv.ext x2).ext x3, q3.calm⟩
end

/-! ### x[::-1] of a tuple -/
section
variable {prog : Program} {w : World} {A : Around} {E : Value → Shared → Prop} {s : Shared}
theorem fm_congr {β γ : Type} {f g : β → Option γ} : ∀ {l : List β}, (∀ x ∈ l, f x = g x) → l.filterMap f = l.filterMap g
  | [], _ => rfl
  | x :: r, h => by
    rw [List.filterMap_cons, List.filterMap_cons, h x List.mem_cons_self, fm_congr fun y hy => h y (List.mem_cons_of_mem _ hy)]
theorem back_all (xs : Array Value) : ((List.range xs.size).filterMap fun (k : Nat) => xs[(((xs.size : Int) - 1) + (k : Int) * (-1)).toNat]?).toArray = xs.toList.reverse.toArray := by
  have h : ∀ k : Nat, k < xs.size → xs[(((xs.size : Int) - 1) + (k : Int) * (-1)).toNat]? = xs.toList.reverse[k]? := fun k hk => by
    have e : (((xs.size : Int) - 1) + (k : Int) * (-1)).toNat = xs.size - 1 - k := by omega
    rw [e, List.getElem?_reverse (by simpa using hk)]
    simp
  have g : ∀ (l : List Value) (n : Nat), n ≤ l.length → (List.range n).filterMap (fun k => l[k]?) = l.take n := fun l n => by
    induction n with
    | zero => intro _; rfl
    | succ n ih =>
      intro hn
      rw [List.range_succ, List.filterMap_append, ih (by omega), List.take_add_one]
      simp [List.getElem?_eq_getElem (show n < l.length by omega)]
  have c : (List.range xs.size).filterMap (fun (k : Nat) => xs[(((xs.size : Int) - 1) + (k : Int) * (-1)).toNat]?) = (List.range xs.size).filterMap (fun (k : Nat) => xs.toList.reverse[k]?) := by
    refine fm_congr fun k hk => h k (by simpa using hk)
  rw [c, g xs.toList.reverse xs.size (by simp)]
  congr 1
  exact List.take_of_length_le (by simp)
theorem tuple_backwards {t sl : Addr} {items : Array Value} {k : Tok} {Q : Value → Shared → Prop} (ht : PyProof.Rows.IsTup s.heap t items) (hs : s.heap.IsSliceOf sl .none .none (.int (-1) k)) (hz : items.size ≤ sizeLine)
    (h : Q (.ref s.heap.objs.size) { s with heap := s.heap.push { cls := .type "tuple", data := .seq items.toList.reverse.toArray } }) : wpAny (model prog w) A (getItem (.ref t) (.ref sl)) Q E s := by
  have room : sizeOk (.seq items.toList.reverse.toArray) := by
    show items.toList.reverse.toArray.size ≤ sizeLine
    rw [List.size_toArray, List.length_reverse, Array.length_toList]
    exact hz
  obtain ⟨os, hos, hcs, hds⟩ := id hs
  have isSlice : s.TypeIs (.ref sl) "slice" := ⟨os, hos, hcs⟩
  unfold getItem
  try with_reducible refine wpAny_holding ?_
  first | refine wpAny_bind (wpAny_pure ?_) | skip
  refine wpAny_bind (wpAny_sequenceKey ht.typeIs (by decide) (wpAny_bind (wpAny_callSpecial?_slot (name := Str.ofString "__getitem__") ht.typeIs PyProof.Rows.slot_tuple_getitem
    (wpAny_call_entry PyProof.Rows.slot_tuple_getitem ht.typeIs PyProof.Rows.entry_tuple_getitem ?_ (PyProof.Rows.args_tuple_getitem _ _)))))
  show wpAny _ _ (Builtin.Tuple.tupleItemsOf (.ref t) >>= _) _ _ s
  refine wpAny_bind (PyProof.Rows.tupleItemsOf_ ht (wpAny_bind (wpAny_typeOf isSlice ?_)))
  rw [if_pos (by decide)]
  refine wpAny_bind ?_
  · unfold Builtin.Slice.sliceApplied Builtin.Slice.sliceFields
    refine wpAny_bind (wpAny_bind (wpAny_field hos hds (x := .none) rfl (wpAny_bind (wpAny_field hos hds (x := .none) rfl (wpAny_bind (wpAny_field hos hds (x := .int (-1) k) rfl (wpAny_pure ?_)))))))
    refine wpAny_bind (PyProof.Rows.slicePart_int ?_)
    show wpAny _ _ (if ((-1 : Int) == 0) = true then _ else _) _ _ s
    rw [if_neg (by decide)]
    refine wpAny_bind (PyProof.Rows.slicePart_none (wpAny_bind (PyProof.Rows.slicePart_none (wpAny_bind (wpAny_pure ?_)))))
    have adj : Builtin.Slice.sliceAdjust none none (-1) (items.size : Int) = ((items.size : Int) - 1, -1) := by
      unfold Builtin.Slice.sliceAdjust
      simp
    have plc : Builtin.Slice.slicePlaces ((items.size : Int) - 1) (-1) (-1) = items.size := by
      unfold Builtin.Slice.slicePlaces
      simp
      omega
    show wpAny _ _ (match Builtin.Slice.sliceAdjust none none (-1) (items.size : Int) with | (lo, hi) => pure (lo, (-1 : Int), Builtin.Slice.slicePlaces lo hi (-1))) _ _ s
    rw [adj]
    show wpAny _ _ (pure ((items.size : Int) - 1, (-1 : Int), Builtin.Slice.slicePlaces ((items.size : Int) - 1) (-1) (-1))) _ _ s
    rw [plc]
    refine wpAny_pure ?_
    have no : ¬ (((items.size : Int) - 1 == 0 && (-1 : Int) == 1 && items.size == items.size) = true) := by
      rw [show ((-1 : Int) == 1) = false by decide, Bool.and_false, Bool.false_and]
      exact Bool.false_ne_true
    show wpAny _ _ (if ((items.size : Int) - 1 == 0 && (-1 : Int) == 1 && items.size == items.size) = true then _ else _) _ _ s
    rw [if_neg no, back_all]
    first
      | exact wpAny_bind (m := Builtin.Tuple.tupleExact _) (wpAny_newObj_type (wpAny_pure ⟨_, rfl, wpAny_pure h⟩) room)
      | exact wpAny_bind (m := Builtin.Tuple.tupleExact _) (wpAny_newObj_type (wpAny_bind (wpAny_pure (wpAny_pure ⟨_, rfl, wpAny_pure h⟩))) room)
      | exact wpAny_bind (wpAny_bind (m := Builtin.Tuple.tupleExact _) (wpAny_newObj_type (wpAny_pure (wpAny_pure ⟨_, rfl, wpAny_pure h⟩)) room))
end
section
variable {X : Cx} {W : WX}
theorem se_rev {e : Expr} {f : Ev} {k : Nat} {p1 p2 p3 pos : Pos} (he : SE X W e f) : SE X W (.Subscript e (.Slice none none (some (.UnaryOp .USub (.Constant (.int 1) k p1) p2)) p3) pos) (e1 gRev f) := by
  refine ⟨fun pins s σ H Q I ⟨ρ, μ, α, F, r, re, q⟩ => ?_⟩
  have we : tE X.K X.mg W f σ H (fun x H1 => ∃ μ α F w, Rep X.K α F μ H1 ∧ Rw X.K α F x w ∧ gp X.K X.mg α F H1 (gRev w μ) (Gw X.K Q) (fun _ _ _ => False)) :=
    ⟨ρ, μ, α, F, r, re, q.bind.mono fun w μ1 α1 F1 H1 x1 r1 q1 v rv => ⟨μ1, α1, F1, w, r1, rv, q1.calm⟩⟩
  refine PyProof.Rows.Subscript_ (thn (he.run pins s σ H _ I we) fun v s1 ⟨x, H1, I1, rx, μ1, α1, F1, w, r1, rv, q1⟩ => ?_)
  -- the slice object
  have third : PO X (some (.UnaryOp .USub (.Constant (.int 1) k p1) p2)) (tPart (tUn (rU fun i => .int (-i)) (tC (.int 1)))) := po_some (pe_un un_neg pe_int)
  refine wpAny_Slice (thn (po_none.run pins s1 σ H1 (fun o G => o = none ∧ G = H1) I1 ⟨rfl, rfl⟩) fun u1 s2 ⟨o1, G1, I2, d1, e1, g1⟩ => ?_)
  subst e1 g1
  refine thn (po_none.run pins s2 σ G1 (fun o G => o = none ∧ G = G1) I2 ⟨rfl, rfl⟩) fun u2 s3 ⟨o2, G2, I3, d2, e2, g2⟩ => ?_
  subst e2 g2
  refine thn (third.run pins s3 σ G2 (fun o G => o = some (-1) ∧ G = G2) I3 ⟨1, rfl, -1, rfl, rfl, rfl⟩) fun u3 s4 ⟨o3, G3, I4, d3, e3, g3⟩ => ?_
  subst e3 g3
  have I5 : Inv X pins σ G3 { s4 with heap := s4.heap.push { cls := .type "slice", data := .fields #[u1, u2, u3] } } := I4.kept (t' := s4.toks) fun b ob z => Heap.get?_push_of_some _ z
  unfold gRev at q1
  split at q1
  · rename_i xs ex
    obtain ⟨rfl, a, vs, rfl, hv, da⟩ := tup_of r1 ex rv
    cases rx
    obtain ⟨its, ri, ht, hz⟩ := I5.tuple (sameT r1.sub hv)
    cases d1
    cases d2
    cases d3 with
    | int _ tk =>
      show wpAny (model X.prog X.w) X.A (PyProof.Rows.subscriptTail e (.Slice none none (some (.UnaryOp .USub (.Constant (.int 1) k p1) p2)) p3) (.ref a) (.ref s4.heap.objs.size)) (EP X pins σ Q) X.xe _
      refine PyProof.Rows.tail_any (ops := [.ref a, .ref s4.heap.objs.size]) ht.typeIs (PyProof.Rows.slot_tuple_getitem.lookup) ?_ (by with_unfolding_all rfl)
      refine tuple_backwards ht (Heap.IsSliceOf.new _ _ _ _) (by rw [List.size_toArray, ← ri.length]; exact hz) ?_
      have nf := I5.hok.fresh (Nat.le_refl _)
      obtain ⟨r2, x2⟩ := r1.new (o := .tup vs.reverse) nf
      refine ⟨.ref _, _, I5.laid (t' := s4.toks) (o := .tup vs.reverse) (fun b ob z => Heap.get?_push_of_some _ z) (Nat.le_refl _) ?_, rfl, q1.at x2 r2 _ (.tup (.of upd_same) (da.reverse.mono x2.fro))⟩
      exact ⟨by rw [List.length_reverse]; exact hz, its.reverse, ri.reverse, ⟨_, Heap.get?_push_size _ rfl, rfl, _, rfl⟩⟩
  · rename_i xs ex
    obtain ⟨a, vs, rfl, hv, da⟩ := items_of r1 ex rv
    cases rx
    obtain ⟨its, ri, ht, hz⟩ := I5.list hv.sq
    show wpAny (model X.prog X.w) X.A (PyProof.Rows.subscriptTail e (.Slice none none (some (.UnaryOp .USub (.Constant (.int 1) k p1) p2)) p3) (.ref a) (.ref s4.heap.objs.size)) (EP X pins σ Q) X.xe _
    refine PyProof.Rows.tail_any (ops := [.ref a, .ref s4.heap.objs.size]) ht.isList.typeIs (PySem.slot_list_getitem.lookup) ?_ (by with_unfolding_all rfl)
    refine wpAny_getItem_list_slice ht.isList (Heap.IsSliceOf.new _ _ _ _) d1 d2 d3 (by decide) ?_ (by rw [List.size_toArray, ← ri.length]; exact hz)
    rw [PySem.W.krv_pick]
    have nf := I5.hok.fresh (Nat.le_refl _)
    obtain ⟨r2, x2⟩ := r1.new (o := .lst vs.reverse) nf
    refine ⟨.ref _, _, I5.laid (t' := s4.toks) (o := .lst vs.reverse) (fun b ob z => Heap.get?_push_of_some _ z) (Nat.le_refl _) ?_, rfl, q1.at x2 r2 _ (.lst (.of upd_same) (da.reverse.mono x2.fro))⟩
    exact ⟨by rw [List.length_reverse]; exact hz, _, 0, ri.reverse, Heap.get?_push_size _ rfl⟩
  · exact q1.elim
end

/-! ### isinstance(x, T), T a built-in type -/
def tyName : PyData → String
  | .none => "NoneType"
  | .bool _ => "bool"
  | .int _ => "int"
  | .str _ => "str"
  | .list _ => "list"
  | .tuple _ => "tuple"
  | .dict _ => "dict"
/-- whether a value of the type a is one of the type b -/
def subTy (a b : String) : Bool := a == b || (a == "bool" && b == "int")
def kinds : List String := ["NoneType", "bool", "int", "str", "list", "tuple", "dict"]
def gIsi (T : String) (a : Wv) (μ : Mu) : Out Wv :=
  match dataOf μ a with
  | some x => if kinds.contains T = true then .ok (wBl (subTy (tyName x) T)) μ else .bad
  | none => .bad
theorem kitB_all : ∀ a ∈ kinds, ∀ b ∈ kinds, kitB a b = some (subTy a b) := by decide +kernel
theorem tyName_mem (x : PyData) : tyName x ∈ kinds := by cases x <;> simp [tyName, kinds]
section
variable {X : Cx} {W : WX}
theorem Dq.ty {K : PySem.W.Frag} {H : Hp} {v : V} {x : PyData} (h : Dq K H v x) : TyX K H v (.type (tyName x)) := by
  cases h with
  | non => exact .base .non
  | bl b => exact .base (.bl b)
  | int i => exact .base (.int i)
  | str z => exact .base (.str z)
  | lst hs _ =>
    rcases hs with (e | ⟨o, e⟩) | ⟨its, n, e, _⟩
    · exact .base (.lst e)
    · exact .base (.frz e)
    · exact .kList e rfl
  | tup hs _ =>
    rcases hs with (e | ⟨o, e⟩) | ⟨o, its, n, e, c, _⟩
    · exact .base (.tup e)
    · exact .fTuple e
    · exact .kTuple e c
  | dic e => exact .base (.dK e)
theorem se_isi {e : Expr} {f : Ev} {T : String} {p p2 pos : Pos} {x : Str} (hg : Gl X "isinstance") (hm : X.mg "isinstance" = none) (hgT : Gl X x) (hmT : X.mg x = none) (hvT : bootBuiltins x = some (.type T)) (hn : x ≠ "__name__") (hdb : (x == ("__debug__" : Str)) = false)
    (he : SE X W e f) (h1 : starEach (e :: [.Name x p2]) X.env = (false, eval e X.env) :: starEach [.Name x p2] X.env) : SE X W (.Call (.Name "isinstance" p) [e, .Name x p2] [] pos) (e1 (gIsi T) f) := by
  refine (pe_callB call_isi hg hm (by decide +kernel) (pa_cons he (pa_cons (pe_bltn (v := .ty T) hgT hmT hvT rfl hn hdb) pa_nil) h1) (by decide) (by decide) h1 (by rfl)).imp fun σ H Q ⟨ρ, μ, α, F, r, re, q⟩ => ?_
  refine ⟨ρ, μ, α, F, r, re, q.bind.mono fun w μ1 α1 F1 H1 x1 r1 q1 v rv => ?_⟩
  have q2 := gp.calm (X' := fun _ _ _ => False) q1
  unfold gIsi at q2
  split at q2
  · rename_i y ey
    split at q2
    · rename_i hT
      have d := data_ok r1 ey rv
      exact ⟨v, .ty T, _, _, subTy (tyName y) T, rfl, .ty T, d.ty, kit_ty (kitB_all _ (tyName_mem y) _ (by simpa using hT)), q2.now r1 _ (.bl _)⟩
    · exact q2.elim
  · exact q2.elim
end
end TL
/-! TL8: statements, targets, methods of cells. -/
namespace TL
open PySem PySem.Spec L2

/-- an expression's outcome in a statement: what is raised leaves with the slots -/
def liftO {γ : Type} (ρ : Rho) (o : Out γ) (k : γ → Mu → Out Fl) : Out Fl :=
  match o with
  | .ok c μ => k c μ
  | .err x ws μ => .ok (.er x ws ρ) μ
  | .bad => .bad
@[simp] theorem liftO_ok {γ : Type} (ρ : Rho) (c : γ) (μ : Mu) (k : γ → Mu → Out Fl) : liftO ρ (.ok c μ) k = k c μ := rfl
@[simp] theorem liftO_err {γ : Type} (ρ : Rho) (x : Str) (ws : List Wv) (μ : Mu) (k : γ → Mu → Out Fl) : liftO ρ (.err x ws μ) k = .ok (.er x ws ρ) μ := rfl
@[simp] theorem liftO_bad {γ : Type} (ρ : Rho) (k : γ → Mu → Out Fl) : liftO ρ (.bad : Out γ) k = .bad := rfl
def sNext : Sv := fun ρ μ => .ok (.nx ρ) μ
def sBreak : Sv := fun ρ μ => .ok (.bk ρ) μ
def sCont : Sv := fun ρ μ => .ok (.ct ρ) μ
def seqK (b : Sv) (fl : Fl) (μ : Mu) : Out Fl :=
  match fl with
  | .nx ρ' => b ρ' μ
  | fl => .ok fl μ
def sSeq (a b : Sv) : Sv := fun ρ μ => (a ρ μ).bind (seqK b)
def sExpr (f : Ev) : Sv := fun ρ μ => liftO ρ (f ρ μ) fun _ μ1 => .ok (.nx ρ) μ1
def sRet (f : Ev) : Sv := fun ρ μ => liftO ρ (f ρ μ) fun w μ1 => .ok (.rt w) μ1
/-- a cell handed back as a list that nobody changes any more -/
def frz (w : Wv) (μ : Mu) : Out Wv :=
  match w with
  | .d x => .ok (.d x) μ
  | .r k => match μ[k]? with
    | some (some c) => .ok (.d (.list c)) (μ.set k none)
    | _ => .bad
  | .t _ => .bad
def sRetZ (f : Ev) : Sv := fun ρ μ => liftO ρ ((f ρ μ).bind frz) fun w μ1 => .ok (.rt w) μ1
def sIf (c : Bv) (a b : Sv) : Sv := fun ρ μ => liftO ρ (c ρ μ) fun t μ1 => if t = true then a ρ μ1 else b ρ μ1
def sAsg (f : Ev) (t : Gv) : Sv := fun ρ μ => liftO ρ (f ρ μ) fun w μ1 => (calm (t w ρ μ1)).bind fun ρ' μ2 => .ok (.nx ρ') μ2
def gNm (i : Nat) : Gv := fun w ρ μ => .ok (ρ.set i (some w)) μ
/-- targets one after another -/
def gSeq : List Gv → List Wv → Rho → Mu → Out Rho
  | [], [], ρ, μ => .ok ρ μ
  | t :: ts, w :: ws, ρ, μ => (t w ρ μ).bind fun ρ' μ' => gSeq ts ws ρ' μ'
  | _, _, _, _ => .bad
def gTp (ts : List Gv) : Gv := fun w ρ μ =>
  match w with
  | .d (.tuple xs) => if xs.length = ts.length then gSeq ts (xs.map Wv.d) ρ μ else .bad
  | _ => .bad
/-- o[i] = .. of a cell -/
def setC (o i w : Wv) (μ : Mu) : Out Unit :=
  match o, i, w with
  | .r k, .d (.int j), .d x => match μ[k]? with
    | some (some c) => match ixN c.length j with
      | some n => .ok () (μ.set k (some (c.set n x)))
      | none => .bad
    | _ => .bad
  | _, _, _ => .bad
def gSb (o i : Ev) : Gv := fun w ρ μ => (o ρ μ).bind fun ow μ1 => (i ρ μ1).bind fun iw μ2 => (setC ow iw w μ2).bind fun _ μ3 => .ok ρ μ3
/-- a, b = x, y without a pair -/
def sPar (i j : Nat) (as : Av) : Sv := fun ρ μ => liftO ρ (as ρ μ) fun ws μ1 => match ws with
  | [w, u] => .ok (.nx ((ρ.set i (some w)).set j (some u))) μ1
  | _ => .bad
/-- x.append(y), x.pop() -/
def gApp (o : Wv) (ws : List Wv) (μ : Mu) : Out Wv :=
  match o, ws with
  | .r k, [.d x] => match μ[k]? with
    | some (some c) => if c.length < 16777216 then .ok (.d .none) (μ.set k (some (c ++ [x]))) else .bad
    | _ => .bad
  | _, _ => .bad
def gPop (o : Wv) (μ : Mu) : Out Wv :=
  match o with
  | .r k => match μ[k]? with
    | some (some c) => match c[c.length - 1]? with
      | some x => .ok (.d x) (μ.set k (some c.dropLast))
      | none => .bad
    | _ => .bad
  | _ => .bad
/-- a cell is there -/
def live (w : Wv) (μ : Mu) : Bool :=
  match w with
  | .r k => match μ[k]? with
    | some (some _) => true
    | _ => false
  | _ => false
def eMeth1 (g : Wv → List Wv → Mu → Out Wv) (o : Ev) (as : Av) : Ev := fun ρ μ => (o ρ μ).bind fun w μ1 => if live w μ1 = true then (as ρ μ1).bind fun ws μ2 => calm (g w ws μ2) else .bad

section
variable {X : Cx} {W : WX}
theorem gp_lift {K : PySem.W.Frag} {mg : Str → Option Value} {γ : Type} {α : List Addr} {F H : Hp} {o : Out γ} {ρ : Rho} {σ : St} {k : γ → Mu → Out Fl} {D : Ends} {E : XK} (re : RepE K α F ρ σ) (h : gp K mg α F H (liftO ρ o k) (GS K mg W D) E) :
    gp K mg α F H o (fun c μ1 α1 F1 H1 => gp K mg α1 F1 H1 (k c μ1) (GS K mg W D) E) (fun c d H' => W c d σ H') := by
  cases o with
  | ok c μ1 => exact fun α1 F1 H1 x r => gp.base (o := k c μ1) h x
  | err y ws μ1 => exact fun α1 F1 H1 C d fs x r h1 h2 h3 => h α1 F1 H1 x r σ C d fs (re.ext x) h1 h2 h3
  | bad => exact h
theorem gp_lift0 {K : PySem.W.Frag} {mg : Str → Option Value} {γ : Type} {α : List Addr} {F H : Hp} {o : Out γ} {ρ : Rho} {σ : St} {k : γ → Mu → Out Fl} {D : Ends} {E : XK} (re : RepE K α F ρ σ) (h : gp K mg α F H (liftO ρ o k) (GS K mg W D) E) :
    gp K mg α F H o (fun c μ1 _ _ _ => gp K mg α F H (k c μ1) (GS K mg W D) E) (fun c d H' => W c d σ H') := by
  cases o with
  | ok c μ1 => exact fun α1 F1 H1 x r => h
  | err y ws μ1 => exact fun α1 F1 H1 C d fs x r h1 h2 h3 => h α1 F1 H1 x r σ C d fs (re.ext x) h1 h2 h3
  | bad => exact h
theorem ss_nil : SSs X W [] sNext := pss_nil.imp fun D σ H ⟨ρ, μ, α, F, r, re, q⟩ => q.now r σ re
theorem ss_pass {pos : Pos} : SS X W (.Pass pos) sNext := ps_pass.imp fun D σ H ⟨ρ, μ, α, F, r, re, q⟩ => q.now r σ re
theorem ss_break {pos : Pos} : SS X W (.Break pos) sBreak := ps_break.imp fun D σ H ⟨ρ, μ, α, F, r, re, q⟩ => q.now r σ re
theorem ss_continue {pos : Pos} : SS X W (.Continue pos) sCont := ps_continue.imp fun D σ H ⟨ρ, μ, α, F, r, re, q⟩ => q.now r σ re
theorem ss_never {st : Stmt} : SS X W st (fun _ _ => .bad) := ps_never.imp fun D σ H ⟨ρ, μ, α, F, r, re, q⟩ => q.elim
theorem gp_seq {K : PySem.W.Frag} {mg : Str → Option Value} {α : List Addr} {F H : Hp} {D : Ends} {a : Out Fl} {b : Sv} {E : XK} (h : gp K mg α F H (a.bind (seqK b)) (GS K mg W D) (fun _ _ _ => False)) :
    gp K mg α F H a (GS K mg W { D with nx := tS K mg W b D }) (fun _ _ _ => False) := by
  cases a with
  | bad => exact h
  | err x ws μ => exact h
  | ok fl μ =>
    intro α' F' H' x r
    cases fl with
    | nx ρ' => exact fun σ' re => ⟨ρ', μ, α', F', r, re, gp.base (o := b ρ' μ) h x⟩
    | bk ρ' => exact h α' F' H' x r
    | ct ρ' => exact h α' F' H' x r
    | rt w => exact h α' F' H' x r
    | er y ws ρ' => exact h α' F' H' x r
theorem ss_cons {st : Stmt} {rest : List Stmt} {a b : Sv} (h1 : SS X W st a) (h2 : SSs X W rest b) : SSs X W (st :: rest) (sSeq a b) := by
  refine (pss_cons h1 h2).imp fun D σ H ⟨ρ, μ, α, F, r, re, q⟩ => ?_
  exact ⟨ρ, μ, α, F, r, re, gp_seq (E := fun _ _ _ => False) q⟩
theorem ss_one {st : Stmt} {a : Sv} (h1 : SS X W st a) : SSs X W [st] a := pss_one h1
theorem ss_expr {e : Expr} {f : Ev} {pos : Pos} (he : SE X W e f) (hs : swapsWith e none pos.line X.env = pure false) : SS X W (.Expr e pos) (sExpr f) := by
  refine (ps_expr he hs).imp fun D σ H ⟨ρ, μ, α, F, r, re, q⟩ => ?_
  exact ⟨ρ, μ, α, F, r, re, (gp_lift re q).mono fun w μ1 α1 F1 H1 x1 r1 q1 v rv => q1.now r1 σ (re.ext x1)⟩
theorem ss_ret {e : Expr} {f : Ev} {pos : Pos} (he : SE X W e f) : SS X W (.Return (some e) pos) (sRet f) := by
  refine (ps_ret he).imp fun D σ H ⟨ρ, μ, α, F, r, re, q⟩ => ?_
  exact ⟨ρ, μ, α, F, r, re, (gp_lift re q).mono fun w μ1 α1 F1 H1 x1 r1 q1 v rv => q1.now r1 v rv⟩
theorem ss_retN {pos : Pos} : SS X W (.Return none pos) (fun _ μ => .ok (.rt (.d .none)) μ) :=
  ps_retN.imp fun D σ H ⟨ρ, μ, α, F, r, re, q⟩ => q.now r .non .non
theorem ss_retZ {e : Expr} {f : Ev} {pos : Pos} (he : SE X W e f) : SS X W (.Return (some e) pos) (sRetZ f) := by
  refine (ps_ret he).imp fun D σ H ⟨ρ, μ, α, F, r, re, q⟩ => ?_
  refine ⟨ρ, μ, α, F, r, re, (gp_lift re q).bind.mono fun w μ1 α1 F1 H1 x1 r1 q1 v rv => ?_⟩
  cases w with
  | d x => exact gp.now (gp.now (c := Wv.d x) q1 r1) r1 v rv
  | t ds => exact (show False from q1).elim
  | r k =>
    have q2 : gp X.K X.mg α1 F1 H1 (match μ1[k]? with
      | some (some c) => Out.ok (Wv.d (.list c)) (μ1.set k none)
      | _ => .bad) _ _ := q1
    split at q2
    · rename_i c e
      obtain ⟨F2, r2, x2, h2⟩ := r1.freeze e
      exact gp.now (q2.at x2 r2) r2 v (h2 v rv)
    · exact q2.elim
theorem ss_if {c : Expr} {a b : List Stmt} {fc : Bv} {fa fb : Sv} {pos : Pos} (hc : ST X W c fc) (ha : SSs X W a fa) (hb : SSs X W b fb) : SS X W (.If c a b pos) (sIf fc fa fb) := by
  refine (ps_if hc ha hb).imp fun D σ H ⟨ρ, μ, α, F, r, re, q⟩ => ?_
  refine ⟨ρ, μ, α, F, r, re, (gp_lift re q).mono fun t μ1 α1 F1 H1 x1 r1 q1 => ?_⟩
  cases t with
  | true => exact ⟨ρ, μ1, α1, F1, r1, re.ext x1, q1⟩
  | false => exact ⟨ρ, μ1, α1, F1, r1, re.ext x1, q1⟩

/-! targets -/
theorem sg_name {i : Nat} {x : Str} {pos : Pos} (hN : X.N.Nodup) (hi : X.N[i]? = some x) (hx : Loc X.env.scope x) (hf : X.fn x = true ∨ X.env.scope.names.lookup x = some .local) : SG X (.Name x pos) (gNm i) :=
  (pg_name hN hi hx hf).imp fun v σ H Q ⟨ρ, μ, α, F, w, r, re, rv, q⟩ => q.now r _ (re.set i rv)
def tGs' (K : PySem.W.Frag) (mg : Str → Option Value) (ts : List Gv) : TGs := fun vs σ H Q => ∃ ρ μ α F ws, Rep K α F μ H ∧ RepE K α F ρ σ ∧ Rws K α F vs ws ∧ gp K mg α F H (gSeq ts ws ρ μ) (fun ρ' _ α' F' H' => ∀ σ', RepE K α' F' ρ' σ' → Q σ' H') (fun _ _ _ => False)
abbrev SGs (X : Cx) (es : List Expr) (ts : List Gv) : Prop := PGs X es (tGs' X.K X.mg ts)
theorem _root_.L2.PGs.imp {es : List Expr} {t t' : TGs} (h : PGs X es t) (i : ∀ vs σ H Q, t' vs σ H Q → t vs σ H Q) : PGs X es t' := ⟨fun pins s σ H vs us Q I r q => h.run pins s σ H vs us Q I r (i _ _ _ _ q)⟩
theorem sgs_nil : SGs X [] [] := pgs_nil.imp fun vs σ H Q ⟨ρ, μ, α, F, ws, r, re, rv, q⟩ => by
  cases ws with
  | nil =>
    cases rv
    exact ⟨rfl, q.now r σ re⟩
  | cons w ws => exact q.elim
theorem sgs_cons {e : Expr} {es : List Expr} {t : Gv} {ts : List Gv} (h1 : SG X e t) (h2 : SGs X es ts) (hs : (assignEach (e :: es) X.env).map (·.2) = assign e X.env :: (assignEach es X.env).map (·.2)) : SGs X (e :: es) (t :: ts) := by
  refine (pgs_cons h1 h2 hs).imp fun vs σ H Q ⟨ρ, μ, α, F, ws, r, re, rv, q⟩ => ?_
  cases ws with
  | nil => exact q.elim
  | cons w ws =>
    cases rv with
    | cons r1 r2 =>
      refine ⟨_, _, rfl, ρ, μ, α, F, w, r, re, r1, gp.bind q |>.mono fun ρ' μ' α' F' H' x' rp q' σ' re' => ?_⟩
      exact ⟨ρ', μ', α', F', ws, rp, re', Rws.ext r2 x', q'⟩
theorem Rws.of_all {K : PySem.W.Frag} {α : List Addr} {F : Hp} : ∀ {vs : List V} {c : Cell}, DqAll K F vs c → Rws K α F vs (c.map Wv.d)
  | _, _, .nil => .nil
  | _, _, .cons h t => .cons h (Rws.of_all t)
theorem sg_tup {es : List Expr} {k : Nat} {pos : Pos} {ts : List Gv} (hc : X.calm = true) (h : SGs X es ts) (hn : (assignEach es X.env).length = ts.length) (hst : (assignEach es X.env).findIdx? (·.1) = none) : SG X (.Tuple es k pos) (gTp ts) := by
  refine (pg_tup hc h hn hst).imp fun v σ H Q ⟨ρ, μ, α, F, w, r, re, rv, q⟩ => ?_
  unfold gTp at q
  split at q
  · rename_i xs
    split at q
    · rename_i hl
      cases rv with
      | @tup a vs _ t1 d1 => exact ⟨a, vs, rfl, sameT r.sub t1, by rw [d1.length, hl], ρ, μ, α, F, _, r, re, Rws.of_all d1, q⟩
    · exact q.elim
  · exact q.elim
theorem sg_sub {o i : Expr} {pos : Pos} {fo fi : Ev} (ho : SE X (fun _ _ _ _ => False) o fo) (hi : SE X (fun _ _ _ _ => False) i fi) (ha : ∀ v, assign (.Subscript o i pos) X.env v = (do
      let ov ← holding [v] (eval o X.env)
      let iv ← holding [v, ov] (eval i X.env)
      standAt pos
      holding [v, ov, iv] (setItem ov iv v)
      release [v, ov, iv] [])) : SG X (.Subscript o i pos) (gSb fo fi) := by
  refine (pg_sub ho hi set_list ha).imp fun v σ H Q ⟨ρ, μ, α, F, w, r, re, rv, q⟩ => ?_
  refine ⟨ρ, μ, α, F, r, re, q.bind.mono fun ow μ1 α1 F1 H1 x1 r1 q1 ov rov => ?_⟩
  refine ⟨ρ, μ1, α1, F1, r1, re.ext x1, q1.bind.mono fun iw μ2 α2 F2 H2 x2 r2 q2 iv riv => ?_⟩
  have q3 := q2.bind0
  have rw2 : Rw X.K α2 F2 v w := (rv.ext x1).ext x2
  unfold setC at q3
  split at q3
  · rename_i k j y
    split at q3
    · rename_i c ec
      split at q3
      · rename_i n en
        have q4 : gp X.K X.mg α2 F2 H2 (.ok ρ (μ2.set k (some (c.set n y)))) (fun ρ' _ α' F' H' => ∀ σ', RepE X.K α' F' ρ' σ' → Q σ' H') (fun _ _ _ => False) := by
          have z : setC (.r k) (.d (.int j)) (.d y) μ2 = .ok () (μ2.set k (some (c.set n y))) := by
            simp only [setC, ec, en]
          have q5 := q2
          rw [z] at q5
          exact q5
        obtain ⟨a, vs, h1, h2, h3, h4⟩ := r2.cell k c ec
        obtain ⟨b, g1, rfl⟩ := rov.ext x2
        rw [h1] at g1
        cases g1
        cases riv
        obtain ⟨rw', xw⟩ := r2.write ec h1 (h4.set rw2 n)
        exact ⟨a, vs, j, n, rfl, rfl, h2, by rw [h4.length]; exact en, q4.at xw rw' σ (((re.ext x1).ext x2).ext xw)⟩
      · exact q3.elim
    · exact q3.elim
  · exact q3.elim
theorem ss_asg {tg e : Expr} {f : Ev} {t : Gv} {pos : Pos} (he : SE X W e f) (hg : SG X tg t) (hs : swapsWithSole [tg] e pos.line X.env = pure false) (hw : swappedStores [tg] e X.env = pure none) (h1 : (assignEach [tg] X.env).map (·.2) = [assign tg X.env]) :
    SS X W (.Assign [tg] e pos) (sAsg f t) := by
  refine (ps_asg he hg hs hw h1).imp fun D σ H ⟨ρ, μ, α, F, r, re, q⟩ => ?_
  refine ⟨ρ, μ, α, F, r, re, (gp_lift re q).mono fun w μ1 α1 F1 H1 x1 r1 q1 v rv => ?_⟩
  exact ⟨ρ, μ1, α1, F1, w, r1, re.ext x1, rv, q1.bind.calm.mono fun ρ' μ2 α2 F2 H2 x2 r2 q2 σ' re' => q2.now r2 σ' re'⟩
theorem ss_set {i : Nat} {x : Str} {e : Expr} {f : Ev} {pos pos' : Pos} (hN : X.N.Nodup) (hi : X.N[i]? = some x) (hx : Loc X.env.scope x) (he : SE X W e f) (hs : swapsWith e (some (.Name x pos')) pos.line X.env = pure false) (hf : X.fn x = true ∨ X.env.scope.names.lookup x = some .local) :
    SS X W (.Assign [.Name x pos'] e pos) (sAsg f (gNm i)) := by
  refine (ps_set hN hi hx he hs hf).imp fun D σ H ⟨ρ, μ, α, F, r, re, q⟩ => ?_
  refine ⟨ρ, μ, α, F, r, re, (gp_lift re q).mono fun w μ1 α1 F1 H1 x1 r1 q1 v rv => ?_⟩
  exact q1.now r1 _ ((re.ext x1).set i rv)
theorem ss_par {i j : Nat} {x y : Str} {a b : Expr} {as : Av} {px py pt pos : Pos} {kt k2 : Nat} {pt2 : Pos} (hc : X.calm = true) (hN : X.N.Nodup) (hi : X.N[i]? = some x) (hj : X.N[j]? = some y) (hij : i ≠ j) (hx : X.env.scope.names.lookup x = some .local) (hy : X.env.scope.names.lookup y = some .local)
    (ha : SA X W [a, b] as) (hw : swappedStores [.Tuple [.Name x px, .Name y py] kt pt] (.Tuple [a, b] k2 pt2) X.env = pure (some [x, y])) (hs : swapsWithSole [.Tuple [.Name x px, .Name y py] kt pt] (.Tuple [a, b] k2 pt2) pos.line X.env = pure false) :
    SS X W (.Assign [.Tuple [.Name x px, .Name y py] kt pt] (.Tuple [a, b] k2 pt2) pos) (sPar i j as) := by
  refine (ps_par hc hN hi hj hij hx hy ha hw hs).imp fun D σ H ⟨ρ, μ, α, F, r, re, q⟩ => ?_
  refine ⟨ρ, μ, α, F, r, re, (gp_lift re q).mono fun ws μ1 α1 F1 H1 x1 r1 q1 vs rv => ?_⟩
  split at q1
  · obtain ⟨v, v', rfl, d, d'⟩ := rws2 rv
    exact ⟨v, v', rfl, q1.now r1 _ (((re.ext x1).set i d).set j d')⟩
  · exact q1.elim

/-! methods of cells -/
theorem cell_at {K : PySem.W.Frag} {α : List Addr} {F H : Hp} {μ : Mu} {k : Nat} {c : Cell} {v : V} (r : Rep K α F μ H) (e : μ[k]? = some (some c)) (q : Rw K α F v (.r k)) : ∃ a vs, v = .ref a ∧ α[k]? = some a ∧ H a = some (.lst vs) ∧ DqAll K F vs c := by
  obtain ⟨a, vs, h1, h2, h3, h4⟩ := r.cell k c e
  obtain ⟨b, g1, rfl⟩ := q
  rw [h1] at g1
  cases g1
  exact ⟨a, vs, rfl, h1, h2, h4⟩
section
variable {o e : Expr} {es : List Expr} {apos cpos : Pos} {fo : Ev} {as : Av}
theorem se_app (ho : SE X W o fo) (ha : SA X W (e :: es) as) (hb : attributeBase o "append" X.env (eval o X.env) = eval o X.env)
    (hfew : ((backTo cpos (starEach (e :: es) X.env)).all (fun x => !x.1) && (backToKw cpos (keywordEach [] X.env)).all (fun x => x.1.isSome) && decide ((e :: es).length + ([] : List Keyword).length + (if ([] : List Keyword).isEmpty then 0 else 1) < 30)) = true)
    (hl : (apos.endLine == cpos.line) = true) (hs : starEach (e :: es) X.env = (false, eval e X.env) :: starEach es X.env) (hp : (backTo cpos (starEach es X.env)).any (·.1) = false) :
    SE X W (.Call (.Attribute o "append" apos) (e :: es) [] cpos) (eMeth1 gApp fo as) := by
  refine (pe_bm PySem.F.plainAttrs_list PySem.F.slot_list_append PySem.F.type_list_append mt_append ho ha hb hfew hl hs hp).imp fun σ H Q ⟨ρ, μ, α, F, r, re, q⟩ => ?_
  refine ⟨ρ, μ, α, F, r, re, q.bind.mono fun w μ1 α1 F1 H1 x1 r1 q1 v rv => ?_⟩
  by_cases hw : live w μ1 = true
  · rw [if_pos hw] at q1
    have ty : tyV X.K "list" v H1 := by
      unfold live at hw
      split at hw
      · split at hw
        · rename_i k c ec
          obtain ⟨a, vs, rfl, h1, h2, h4⟩ := cell_at r1 ec rv
          exact .inl ⟨rfl, _, .inl (.inl h2)⟩
        · cases hw
      · cases hw
    refine ⟨ty, ρ, μ1, α1, F1, r1, re.ext x1, q1.bind.mono fun ws μ2 α2 F2 H2 x2 r2 q2 us rus => ?_⟩
    have q3 := q2.calm (X' := fun _ _ _ => False)
    have rv2 := rv.ext x2
    unfold gApp at q3
    split at q3
    · split at q3
      · split at q3
        · rename_i k y _ c ec hl
          obtain ⟨a, vs, rfl, h1, h2, h4⟩ := cell_at r2 ec rv2
          cases rus with
          | cons r1' t1 =>
            cases t1
            have r1' : Dq X.K F2 _ y := r1'
            obtain ⟨rw', xw⟩ := r2.write ec h1 (h4.append (.cons r1' .nil))
            exact ⟨a, vs, _, rfl, rfl, h2, by rw [h4.length, sizeLine_eq]; exact hl, q3.at xw rw' _ .non⟩
        · exact q3.elim
      · exact q3.elim
    · exact q3.elim
  · rw [if_neg hw] at q1
    exact q1.elim
theorem se_pop (ho : SE X W o fo) (hb : attributeBase o "pop" X.env (eval o X.env) = eval o X.env) (hl : (apos.endLine == cpos.line) = true) :
    SE X W (.Call (.Attribute o "pop" apos) [] [] cpos) (e1 gPop fo) := by
  refine (pe_bm0 PySem.F.plainAttrs_list PySem.F.slot_list_pop PySem.F.type_list_pop mt_pop ho hb hl).imp fun σ H Q ⟨ρ, μ, α, F, r, re, q⟩ => ?_
  refine ⟨ρ, μ, α, F, r, re, q.bind.mono fun w μ1 α1 F1 H1 x1 r1 q1 v rv => ?_⟩
  have q2 := q1.calm (X' := fun _ _ _ => False)
  unfold gPop at q2
  split at q2
  · split at q2
    · rename_i k c ec
      split at q2
      · rename_i y ey
        obtain ⟨a, vs, rfl, h1, h2, h4⟩ := cell_at r1 ec rv
        obtain ⟨y', e1, dy⟩ := h4.get ey
        obtain ⟨rw', xw⟩ := r1.write ec h1 h4.dropLast
        refine ⟨.inl ⟨rfl, _, .inl (.inl h2)⟩, a, vs, y', rfl, rfl, h2, by rw [h4.length]; exact e1, q2.at xw rw' _ (dy.mono xw.fro)⟩
      · exact q2.elim
    · exact q2.elim
  · exact q2.elim
end
end
end TL
/-! TL9: what is walked over; for, while, list comprehensions. -/
namespace TL
open PySem PySem.Spec L2 PyProof.Rows RZ

/-- the items, and the cells that must not change meanwhile -/
structure Its where
  xs : Cell
  tie : List (Nat × Cell)
abbrev Iv := Rho → Mu → Out Its
def tied (i : Its) (μ : Mu) : Prop := ∀ p ∈ i.tie, μ[p.1]? = some (some p.2)
structure JOk (K : PySem.W.Frag) (α0 : List Addr) (F0 H0 : Hp) (J : It) (i : Its) : Prop where
  at_ : ∀ α F μ H, Rep K α F μ H → Ext α0 F0 H0 α F H → tied i μ →
    (∀ n, n < i.xs.length → J.go n H) ∧ (∀ n, i.xs.length ≤ n → J.stop n H) ∧ ∀ n d x H', i.xs[n]? = some d → J.yld n H x H' → ∃ F', Rep K α F' μ H' ∧ Ext α F H α F' H' ∧ Dq K F' x d
def tI (K : PySem.W.Frag) (mg : Str → Option Value) (W : WX) (f : Iv) : TI := fun σ H R => ∃ ρ μ α F, Rep K α F μ H ∧ RepE K α F ρ σ ∧ gp K mg α F H (f ρ μ) (fun i _ α' F' H' => ∀ J, JOk K α' F' H' J i → R J H') (fun c d H' => W c d σ H')
abbrev SI (X : Cx) (W : WX) (tg e : Expr) (f : Iv) : Prop := PI X tg e (tI X.K X.mg W f)
theorem _root_.L2.PI.imp {X : Cx} {tg e : Expr} {t t' : TI} (h : PI X tg e t) (i : ∀ σ H R, t' σ H R → t σ H R) : PI X tg e t' := ⟨fun pins s σ H R I q => h.run pins s σ H R I (i _ _ _ q)⟩

/-! ### any list, tuple, text -/
def iDyn (K : PySem.W.Frag) (te : TE) : TI := fun σ H R => te σ H fun v H1 =>
  (∃ a, v = .ref a ∧ (∃ xs, SqL K H1 a xs) ∧ R (Itl K a) H1) ∨ (∃ a, v = .ref a ∧ (∃ xs, SqT K H1 a xs) ∧ R (Itt K a) H1) ∨ ∃ x, v = .str x ∧ R (L2.Its x) H1
theorem pi_dyn {X : Cx} {tg e : Expr} {te : TE} (he : PE X e te) : PI X tg e (iDyn X.K te) := by
  refine ⟨fun pins s σ H R I h => ?_⟩
  refine thn (he.run pins s σ H _ I h) fun v s1 ⟨y, H1, I1, r1, q1⟩ => ?_
  rcases q1 with ⟨a, rfl, ⟨xs, hq⟩, q⟩ | ⟨a, rfl, ⟨xs, hq⟩, q⟩ | ⟨x, rfl, q⟩
  · cases r1
    obtain ⟨its, rv, p, hz⟩ := I1.list hq
    refine wpAny_pyIter_list p.isList ?_
    exact pi_one (tk := s1.toks) I1 _ (turn_list a _) ⟨_, Heap.get?_push_size _ rfl, rfl, rfl⟩ q
  · cases r1
    obtain ⟨its, rv, p, hz⟩ := I1.tuple hq
    refine wpAny_pyIter_tuple (show s1.heap.IsTuple a its.toArray from p) ?_
    exact pi_one (tk := s1.toks) I1 _ (turn_tuple a _) ⟨_, Heap.get?_push_size _ rfl, rfl, rfl⟩ q
  · obtain ⟨t, rfl⟩ := r1
    cases ha : x.cps.all (· < 128)
    · exact wpAny_pyIter_wide ha (pi_one (tk := s1.toks) I1 _ (turn_str _ x t "str_iterator" (.inr rfl)) ⟨_, Heap.get?_push_size _ rfl, rfl, rfl⟩ q)
    · exact wpAny_pyIter_ascii ha (pi_one (tk := s1.toks) I1 _ (turn_str _ x t "str_ascii_iterator" (.inl rfl)) ⟨_, Heap.get?_push_size _ rfl, rfl, rfl⟩ q)
def strL (x : Str) : Cell := x.cps.toList.map fun c => .str ⟨#[c]⟩
def itsOf (w : Wv) (μ : Mu) : Option Its :=
  match w with
  | .d (.list c) => some ⟨c, []⟩
  | .d (.tuple c) => some ⟨c, []⟩
  | .d (.str x) => some ⟨strL x, []⟩
  | .r k => match μ[k]? with
    | some (some c) => some ⟨c, [(k, c)]⟩
    | _ => none
  | _ => none
def oOf {γ : Type} (o : Option γ) (μ : Mu) : Out γ := match o with
  | some c => .ok c μ
  | none => .bad
def iAny (f : Ev) : Iv := fun ρ μ => (f ρ μ).bind fun w μ1 => oOf (itsOf w μ1) μ1
section
variable {K : PySem.W.Frag} {α0 : List Addr} {F0 H0 : Hp}
theorem jok_list {a : Addr} {vs : List V} {c : Cell} (hF : Ls K F0 a vs) (d : DqAll K F0 vs c) : JOk K α0 F0 H0 (Itl K a) ⟨c, []⟩ := by
  refine ⟨fun α F μ H r e t => ?_⟩
  have hs : SqL K H a vs := (sameL (e.fro.trans r.sub) hF).sq
  have d' := d.mono e.fro
  refine ⟨fun n hn => ?_, fun n hn => ⟨vs, hs, by rw [d'.length]; exact hn⟩, fun n y x H' hy hyl => ?_⟩
  · have hn' : n < vs.length := by rw [d'.length]; exact hn
    exact ⟨vs, vs[n], hs, List.getElem?_eq_getElem hn'⟩
  · obtain ⟨rfl, q⟩ := hyl
    obtain ⟨v, e1, e2⟩ := d'.get hy
    have := q vs hs
    rw [e1] at this
    cases this
    exact ⟨F, r, .refl, e2⟩
theorem jok_tup {a : Addr} {vs : List V} {c : Cell} (hF : SqT K F0 a vs) (d : DqAll K F0 vs c) : JOk K α0 F0 H0 (Itt K a) ⟨c, []⟩ := by
  refine ⟨fun α F μ H r e t => ?_⟩
  have hs : SqT K H a vs := sameT (e.fro.trans r.sub) hF
  have d' := d.mono e.fro
  refine ⟨fun n hn => ?_, fun n hn => ⟨vs, hs, by rw [d'.length]; exact hn⟩, fun n y x H' hy hyl => ?_⟩
  · have hn' : n < vs.length := by rw [d'.length]; exact hn
    exact ⟨vs, vs[n], hs, List.getElem?_eq_getElem hn'⟩
  · obtain ⟨rfl, q⟩ := hyl
    obtain ⟨v, e1, e2⟩ := d'.get hy
    have := q vs hs
    rw [e1] at this
    cases this
    exact ⟨F, r, .refl, e2⟩
theorem jok_cell {a : Addr} {k : Nat} {c : Cell} (ha : α0[k]? = some a) : JOk K α0 F0 H0 (Itl K a) ⟨c, [(k, c)]⟩ := by
  refine ⟨fun α F μ H r e t => ?_⟩
  have tk : μ[k]? = some (some c) := t (k, c) List.mem_cons_self
  obtain ⟨b, vs, h1, h2, h3, d'⟩ := r.cell k c tk
  obtain ⟨β, rfl⟩ := e.pre
  rw [List.getElem?_append_left (List.getElem?_eq_some_iff.mp ha).1, ha] at h1
  cases h1
  have hs : SqL K H a vs := .inl (.inl h2)
  refine ⟨fun n hn => ?_, fun n hn => ⟨vs, hs, by rw [d'.length]; exact hn⟩, fun n y x H' hy hyl => ?_⟩
  · have hn' : n < vs.length := by rw [d'.length]; exact hn
    exact ⟨vs, vs[n], hs, List.getElem?_eq_getElem hn'⟩
  · obtain ⟨rfl, q⟩ := hyl
    obtain ⟨v, e1, e2⟩ := d'.get hy
    have := q vs hs
    rw [e1] at this
    cases this
    exact ⟨F, r, .refl, e2⟩
theorem strL_get {x : Str} {n : Nat} {c : Nat} (h : x.cps[n]? = some c) : (strL x)[n]? = some (.str ⟨#[c]⟩) := by
  unfold strL
  rw [List.getElem?_map, Array.getElem?_toList, h]
  rfl
theorem strL_len {x : Str} : (strL x).length = x.cps.size := by
  unfold strL
  rw [List.length_map, Array.length_toList]
theorem jok_str {x : Str} : JOk K α0 F0 H0 (L2.Its x) ⟨strL x, []⟩ := by
  refine ⟨fun α F μ H r e t => ⟨fun n hn => ?_, fun n hn => ?_, fun n y v H' hy hyl => ?_⟩⟩
  · rw [strL_len] at hn
    exact hn
  · rw [strL_len] at hn
    exact hn
  · obtain ⟨rfl, c, hc, rfl⟩ := hyl
    have := strL_get hc
    rw [this] at hy
    cases hy
    exact ⟨F, r, .refl, .str _⟩
end
section
variable {X : Cx} {W : WX} {tg : Expr}
theorem si_any {e : Expr} {f : Ev} (he : SE X W e f) : SI X W tg e (iAny f) := by
  refine (pi_dyn he).imp fun σ H R ⟨ρ, μ, α, F, r, re, q⟩ => ?_
  refine ⟨ρ, μ, α, F, r, re, q.bind.mono fun w μ1 α1 F1 H1 x1 r1 q1 v rv => ?_⟩
  unfold itsOf at q1
  split at q1
  · have rv : Dq X.K F1 v _ := rv
    cases rv with
    | lst h d => exact .inl ⟨_, rfl, ⟨_, (sameL r1.sub h).sq⟩, q1.now r1 _ (jok_list h d)⟩
  · have rv : Dq X.K F1 v _ := rv
    cases rv with
    | tup h d => exact .inr (.inl ⟨_, rfl, ⟨_, sameT r1.sub h⟩, q1.now r1 _ (jok_tup h d)⟩)
  · have rv : Dq X.K F1 v _ := rv
    cases rv
    exact .inr (.inr ⟨_, rfl, q1.now r1 _ jok_str⟩)
  · split at q1
    · rename_i k c ec
      obtain ⟨a, vs, rfl, h1, h2, h4⟩ := cell_at r1 ec rv
      exact .inl ⟨_, rfl, ⟨_, .inl (.inl h2)⟩, q1.now r1 _ (jok_cell h1)⟩
    · exact q1.elim
  · exact q1.elim

/-! ### range, enumerate, zip -/
def intL (lo : Int) (n : Nat) (c : Int) : Cell := (List.range n).map fun (i : Nat) => .int (lo + (i : Int) * c)
theorem intL_len {lo c : Int} {n : Nat} : (intL lo n c).length = n := by
  unfold intL
  rw [List.length_map, List.length_range]
theorem intL_get {lo c : Int} {n i : Nat} {d : PyData} (h : (intL lo n c)[i]? = some d) : d = .int (lo + (i : Int) * c) := by
  unfold intL at h
  rw [List.getElem?_map] at h
  cases e : (List.range n)[i]? with
  | none =>
    rw [e] at h
    cases h
  | some j =>
    rw [e] at h
    have := (List.getElem?_eq_some_iff.mp e).2
    rw [List.getElem_range] at this
    subst this
    cases h
    rfl
theorem jok_rng {K : PySem.W.Frag} {α0 : List Addr} {F0 H0 : Hp} {lo : Int} {n : Nat} : JOk K α0 F0 H0 (Itr lo n) ⟨intL lo n 1, []⟩ := by
  refine ⟨fun α F μ H r e t => ⟨fun i hn => ?_, fun i hn => ?_, fun i y v H' hy hyl => ?_⟩⟩
  · rw [intL_len] at hn
    exact hn
  · rw [intL_len] at hn
    exact hn
  · obtain ⟨rfl, rfl⟩ := hyl
    rw [intL_get hy, Int.mul_one]
    exact ⟨F, r, .refl, .int _⟩
theorem jok_rngC {K : PySem.W.Frag} {α0 : List Addr} {F0 H0 : Hp} {lo c : Int} {n : Nat} : JOk K α0 F0 H0 (Itc lo c n) ⟨intL lo n c, []⟩ := by
  refine ⟨fun α F μ H r e t => ⟨fun i hn => ?_, fun i hn => ?_, fun i y v H' hy hyl => ?_⟩⟩
  · rw [intL_len] at hn
    exact hn
  · rw [intL_len] at hn
    exact hn
  · obtain ⟨rfl, rfl⟩ := hyl
    rw [intL_get hy]
    exact ⟨F, r, .refl, .int _⟩
noncomputable def smallI (j : Int) : Bool := @decide (-4611686018427387904 ≤ j) (Classical.propDecidable _) && @decide (j < 4611686018427387904) (Classical.propDecidable _)
theorem smallI_ok {j : Int} (h : smallI j = true) : -(2 ^ 62) ≤ j ∧ j < 2 ^ 62 := by
  unfold smallI at h
  rw [Bool.and_eq_true] at h
  have h1 := @of_decide_eq_true _ (Classical.propDecidable _) h.1
  have h2 := @of_decide_eq_true _ (Classical.propDecidable _) h.2
  exact ⟨by omega, by omega⟩
theorem smallI_is {j : Int} (h1 : -4611686018427387904 ≤ j) (h2 : j < 4611686018427387904) : smallI j = true := by
  unfold smallI
  rw [Bool.and_eq_true]
  exact ⟨@decide_eq_true _ (Classical.propDecidable _) h1, @decide_eq_true _ (Classical.propDecidable _) h2⟩
noncomputable def iR1 (as : Av) : Iv := fun ρ μ => (as ρ μ).bind fun ws μ1 => match ws with
  | [.d (.int j)] => if smallI j = true then .ok ⟨intL 0 j.toNat 1, []⟩ μ1 else .bad
  | _ => .bad
noncomputable def iR2 (as : Av) : Iv := fun ρ μ => (as ρ μ).bind fun ws μ1 => match ws with
  | [.d (.int i), .d (.int j)] => if (smallI i && smallI j) = true then .ok ⟨intL i (j - i).toNat 1, []⟩ μ1 else .bad
  | _ => .bad
/-- downwards -/
noncomputable def iR3 (as : Av) : Iv := fun ρ μ => (as ρ μ).bind fun ws μ1 => match ws with
  | [.d (.int i), .d (.int j), .d (.int (-1))] => if (smallI i && smallI j) = true then .ok ⟨intL i (i - j).toNat (-1), []⟩ μ1 else .bad
  | _ => .bad
theorem si_r1 {a : Expr} {as : Av} {p pos : Pos} (hg : Gl X "range") (hm : X.mg "range" = none) (ha : SA X W [a] as) (hs : starEach [a] X.env = [(false, eval a X.env)]) : SI X W tg (.Call (.Name "range" p) [a] [] pos) (iR1 as) := by
  refine (pi_range1 hg hm ha hs).imp fun σ H R ⟨ρ, μ, α, F, r, re, q⟩ => ?_
  refine ⟨ρ, μ, α, F, r, re, q.bind.mono fun ws μ1 α1 F1 H1 x1 r1 q1 vs rv => ?_⟩
  split at q1
  · rename_i j
    split at q1
    · rename_i h
      cases rv with
      | cons a1 t1 =>
        cases t1
        cases a1
        obtain ⟨h1, h2⟩ := smallI_ok h
        exact ⟨j, rfl, h1, h2, q1.now r1 _ jok_rng⟩
    · exact q1.elim
  · exact q1.elim
theorem si_r2 {a b : Expr} {as : Av} {p pos : Pos} (hg : Gl X "range") (hm : X.mg "range" = none) (ha : SA X W [a, b] as) (hs : starEach [a, b] X.env = [(false, eval a X.env), (false, eval b X.env)]) (hs2 : starEach [b] X.env = [(false, eval b X.env)]) :
    SI X W tg (.Call (.Name "range" p) [a, b] [] pos) (iR2 as) := by
  refine (pi_range2 hg hm ha hs hs2).imp fun σ H R ⟨ρ, μ, α, F, r, re, q⟩ => ?_
  refine ⟨ρ, μ, α, F, r, re, q.bind.mono fun ws μ1 α1 F1 H1 x1 r1 q1 vs rv => ?_⟩
  split at q1
  · rename_i i j
    split at q1
    · rename_i h
      rw [Bool.and_eq_true] at h
      cases rv with
      | cons a1 t1 =>
        cases t1 with
        | cons a2 t2 =>
          cases t2
          cases a1
          cases a2
          obtain ⟨h1, h2⟩ := smallI_ok h.1
          obtain ⟨h3, h4⟩ := smallI_ok h.2
          exact ⟨i, j, rfl, ⟨h1, h2, h3, h4⟩, q1.now r1 _ jok_rng⟩
    · exact q1.elim
  · exact q1.elim
theorem si_r3 {a b c : Expr} {as : Av} {p pos : Pos} (hg : Gl X "range") (hm : X.mg "range" = none) (ha : SA X W [a, b, c] as)
    (hs : starEach [a, b, c] X.env = (false, eval a X.env) :: starEach [b, c] X.env) (hpl : (backTo pos (starEach [b, c] X.env)).any (·.1) = false) :
    SI X W tg (.Call (.Name "range" p) [a, b, c] [] pos) (iR3 as) := by
  refine (pi_range3 hg hm ha hs hpl).imp fun σ H R ⟨ρ, μ, α, F, r, re, q⟩ => ?_
  refine ⟨ρ, μ, α, F, r, re, q.bind.mono fun ws μ1 α1 F1 H1 x1 r1 q1 vs rv => ?_⟩
  split at q1
  · rename_i i j
    split at q1
    · rename_i h
      rw [Bool.and_eq_true] at h
      cases rv with
      | cons a1 t1 =>
        cases t1 with
        | cons a2 t2 =>
          cases t2 with
          | cons a3 t3 =>
            cases t3
            cases a1
            cases a2
            cases a3
            obtain ⟨h1, h2⟩ := smallI_ok h.1
            obtain ⟨h3, h4⟩ := smallI_ok h.2
            exact ⟨i, j, -1, _, rfl, .neg h1 h2 h3 h4, q1.now r1 _ jok_rngC⟩
    · exact q1.elim
  · exact q1.elim
/-- a list: its items, its ties -/
def lstOf (w : Wv) (μ : Mu) : Option Its :=
  match w with
  | .d (.list c) => some ⟨c, []⟩
  | .r k => match μ[k]? with
    | some (some c) => some ⟨c, [(k, c)]⟩
    | _ => none
  | _ => none
def tupOf (w : Wv) : Option Its :=
  match w with
  | .d (.tuple c) => some ⟨c, []⟩
  | _ => none
/-- what is known of a list while it is tied -/
structure LKn (K : PySem.W.Frag) (α0 : List Addr) (F0 H0 : Hp) (a : Addr) (i : Its) : Prop where
  at_ : ∀ α F μ H, Rep K α F μ H → Ext α0 F0 H0 α F H → tied i μ → ∃ vs, SqL K H a vs ∧ DqAll K F vs i.xs
theorem lkn {K : PySem.W.Frag} {α : List Addr} {F H : Hp} {μ : Mu} {w : Wv} {v : V} {i : Its} (r : Rep K α F μ H) (rv : Rw K α F v w) (e : lstOf w μ = some i) : ∃ a, v = .ref a ∧ (∃ vs, SqL K H a vs) ∧ LKn K α F H a i := by
  unfold lstOf at e
  split at e
  · cases e
    have rv : Dq K F v _ := rv
    cases rv with
    | lst h d => exact ⟨_, rfl, ⟨_, (sameL r.sub h).sq⟩, ⟨fun α' F' μ' H' r' x t => ⟨_, (sameL (x.fro.trans r'.sub) h).sq, d.mono x.fro⟩⟩⟩
  · split at e
    · rename_i k _ c ec
      cases e
      obtain ⟨a, vs, rfl, h1, h2, h4⟩ := cell_at r ec rv
      refine ⟨a, rfl, ⟨_, .inl (.inl h2)⟩, ⟨fun α' F' μ' H' r' x t => ?_⟩⟩
      have tk : μ'[k]? = some (some c) := t (k, c) List.mem_cons_self
      obtain ⟨b, us, g1, g2, g3, d'⟩ := r'.cell k c tk
      obtain ⟨β, rfl⟩ := x.pre
      rw [List.getElem?_append_left (List.getElem?_eq_some_iff.mp h1).1, h1] at g1
      cases g1
      exact ⟨us, .inl (.inl g2), d'⟩
    · cases e
  · cases e
structure TKn (K : PySem.W.Frag) (α0 : List Addr) (F0 H0 : Hp) (a : Addr) (i : Its) : Prop where
  at_ : ∀ α F μ H, Rep K α F μ H → Ext α0 F0 H0 α F H → tied i μ → ∃ vs, SqT K H a vs ∧ DqAll K F vs i.xs
theorem tkn {K : PySem.W.Frag} {α : List Addr} {F H : Hp} {μ : Mu} {w : Wv} {v : V} {i : Its} (r : Rep K α F μ H) (rv : Rw K α F v w) (e : tupOf w = some i) : ∃ a, v = .ref a ∧ (∃ vs, SqT K H a vs) ∧ TKn K α F H a i := by
  unfold tupOf at e
  split at e
  · cases e
    have rv : Dq K F v _ := rv
    cases rv with
    | tup h d => exact ⟨_, rfl, ⟨_, sameT r.sub h⟩, ⟨fun α' F' μ' H' r' x t => ⟨_, sameT (x.fro.trans r'.sub) h, d.mono x.fro⟩⟩⟩
  · cases e
def enumL (c : Cell) : Cell := c.mapIdx fun n x => .tuple [.int n, x]
def zipL (c d : Cell) : Cell := List.zipWith (fun x y => PyData.tuple [x, y]) c d
def iEnumS (as : Av) : Iv := fun ρ μ => (as ρ μ).bind fun ws μ1 => match ws with
  | [w] => (oOf (lstOf w μ1) μ1).bind fun i μ2 => .ok ⟨enumL i.xs, i.tie⟩ μ2
  | _ => .bad
theorem tied_app {xs ys : Cell} {t1 t2 : List (Nat × Cell)} {μ : Mu} {zs : Cell} (h : tied ⟨zs, t1 ++ t2⟩ μ) : tied ⟨xs, t1⟩ μ ∧ tied ⟨ys, t2⟩ μ :=
  ⟨fun p hp => h p (List.mem_append_left _ hp), fun p hp => h p (List.mem_append_right _ hp)⟩
theorem jok_enum {K : PySem.W.Frag} {α0 : List Addr} {F0 H0 : Hp} {a : Addr} {i : Its} (k : LKn K α0 F0 H0 a i) : JOk K α0 F0 H0 (Ite K a) ⟨enumL i.xs, i.tie⟩ := by
  refine ⟨fun α F μ H r e t => ?_⟩
  obtain ⟨vs, hs, d⟩ := k.at_ α F μ H r e t
  have hl : (enumL i.xs).length = i.xs.length := by unfold enumL; rw [List.length_mapIdx]
  refine ⟨fun n hn => ?_, fun n hn => ⟨vs, hs, by rw [d.length, ← hl]; exact hn⟩, fun n y x H' hy hyl => ?_⟩
  · have hn' : n < vs.length := by rw [d.length, ← hl]; exact hn
    exact ⟨vs, vs[n], hs, List.getElem?_eq_getElem hn'⟩
  · obtain ⟨T, u, rfl, hT, rfl, q⟩ := hyl
    have hu := q vs hs
    obtain ⟨z, hz, dz⟩ := d.getV hu
    have hy : (enumL i.xs)[n]? = some y := hy
    unfold enumL at hy
    rw [List.getElem?_mapIdx, hz] at hy
    cases hy
    obtain ⟨r2, x2⟩ := r.new (o := .tup [.int (n : Nat), u]) hT
    exact ⟨_, r2, x2, .tup (.inl (.inl upd_same)) (.cons (.int _) (.cons (dz.mono x2.fro) .nil))⟩
theorem si_enum {e : Expr} {as : Av} {p pos tpos : Pos} {elts : List Expr} {kk : Nat} (hg : Gl X "enumerate") (hm : X.mg "enumerate" = none) (ha : SA X W [e] as) (hs : starEach [e] X.env = [(false, eval e X.env)]) :
    SI X W (.Tuple elts kk tpos) (.Call (.Name "enumerate" p) [e] [] pos) (iEnumS as) := by
  refine (pi_enum hg hm ha hs).imp fun σ H R ⟨ρ, μ, α, F, r, re, q⟩ => ?_
  refine ⟨ρ, μ, α, F, r, re, q.bind.mono fun ws μ1 α1 F1 H1 x1 r1 q1 vs rv => ?_⟩
  split at q1
  · rename_i w
    cases rv with
    | cons a1 t1 =>
      cases t1
      cases e1 : lstOf w μ1 with
      | none =>
        rw [e1] at q1
        exact q1.elim
      | some i =>
        rw [e1] at q1
        obtain ⟨a, rfl, ⟨us, hu⟩, k⟩ := lkn r1 a1 e1
        exact ⟨a, us, rfl, hu, gp.now (c := (⟨enumL i.xs, i.tie⟩ : Its)) q1 r1 _ (jok_enum k)⟩
  · exact q1.elim
def iZipS (as : Av) : Iv := fun ρ μ => (as ρ μ).bind fun ws μ1 => match ws with
  | [w, u] => match lstOf w μ1, lstOf u μ1, tupOf w, tupOf u with
    | some i, some j, _, _ => .ok ⟨zipL i.xs j.xs, i.tie ++ j.tie⟩ μ1
    | _, _, some i, some j => .ok ⟨zipL i.xs j.xs, i.tie ++ j.tie⟩ μ1
    | _, _, _, _ => .bad
  | _ => .bad
theorem zipL_len {c d : Cell} : (zipL c d).length = min c.length d.length := by unfold zipL; rw [List.length_zipWith]
theorem jok_zip {K : PySem.W.Frag} {α0 : List Addr} {F0 H0 : Hp} {a b : Addr} {i j : Its} (k : LKn K α0 F0 H0 a i) (k2 : LKn K α0 F0 H0 b j) : JOk K α0 F0 H0 (Itz K a b) ⟨zipL i.xs j.xs, i.tie ++ j.tie⟩ := by
  refine ⟨fun α F μ H r e t => ?_⟩
  obtain ⟨t1, t2⟩ := tied_app (xs := i.xs) (ys := j.xs) t
  obtain ⟨vs, hs, d⟩ := k.at_ α F μ H r e t1
  obtain ⟨us, hs2, d2⟩ := k2.at_ α F μ H r e t2
  have hl := zipL_len (c := i.xs) (d := j.xs)
  have l1 := d.length
  have l2 := d2.length
  refine ⟨fun n hn => ?_, fun n hn => ⟨vs, us, hs, hs2, ?_⟩, fun n y x H' hy hyl => ?_⟩
  · have hn : n < (zipL i.xs j.xs).length := hn
    have hn1 : n < vs.length := by omega
    have hn2 : n < us.length := by omega
    exact ⟨vs, us, vs[n], us[n], hs, hs2, List.getElem?_eq_getElem hn1, List.getElem?_eq_getElem hn2⟩
  · have hn : (zipL i.xs j.xs).length ≤ n := hn
    omega
  · obtain ⟨T, u, u2, rfl, hT, rfl, q, q2⟩ := hyl
    obtain ⟨z, hz, dz⟩ := d.getV (q vs hs)
    obtain ⟨z2, hz2, dz2⟩ := d2.getV (q2 us hs2)
    have hy : (zipL i.xs j.xs)[n]? = some y := hy
    unfold zipL at hy
    rw [List.getElem?_zipWith, hz, hz2] at hy
    cases hy
    obtain ⟨r2, x2⟩ := r.new (o := .tup [u, u2]) hT
    exact ⟨_, r2, x2, .tup (.inl (.inl upd_same)) (.cons (dz.mono x2.fro) (.cons (dz2.mono x2.fro) .nil))⟩
theorem jok_zipT {K : PySem.W.Frag} {α0 : List Addr} {F0 H0 : Hp} {a b : Addr} {i j : Its} (k : TKn K α0 F0 H0 a i) (k2 : TKn K α0 F0 H0 b j) : JOk K α0 F0 H0 (ItzT K a b) ⟨zipL i.xs j.xs, i.tie ++ j.tie⟩ := by
  refine ⟨fun α F μ H r e t => ?_⟩
  obtain ⟨t1, t2⟩ := tied_app (xs := i.xs) (ys := j.xs) t
  obtain ⟨vs, hs, d⟩ := k.at_ α F μ H r e t1
  obtain ⟨us, hs2, d2⟩ := k2.at_ α F μ H r e t2
  have hl := zipL_len (c := i.xs) (d := j.xs)
  have l1 := d.length
  have l2 := d2.length
  refine ⟨fun n hn => ?_, fun n hn => ⟨vs, us, hs, hs2, ?_⟩, fun n y x H' hy hyl => ?_⟩
  · have hn : n < (zipL i.xs j.xs).length := hn
    have hn1 : n < vs.length := by omega
    have hn2 : n < us.length := by omega
    exact ⟨vs, us, vs[n], us[n], hs, hs2, List.getElem?_eq_getElem hn1, List.getElem?_eq_getElem hn2⟩
  · have hn : (zipL i.xs j.xs).length ≤ n := hn
    omega
  · obtain ⟨T, u, u2, rfl, hT, rfl, q, q2⟩ := hyl
    obtain ⟨z, hz, dz⟩ := d.getV (q vs hs)
    obtain ⟨z2, hz2, dz2⟩ := d2.getV (q2 us hs2)
    have hy : (zipL i.xs j.xs)[n]? = some y := hy
    unfold zipL at hy
    rw [List.getElem?_zipWith, hz, hz2] at hy
    cases hy
    obtain ⟨r2, x2⟩ := r.new (o := .tup [u, u2]) hT
    exact ⟨_, r2, x2, .tup (.inl (.inl upd_same)) (.cons (dz.mono x2.fro) (.cons (dz2.mono x2.fro) .nil))⟩
theorem si_zip {e e2 : Expr} {as : Av} {p pos tpos : Pos} {elts : List Expr} {kk : Nat} (hg : Gl X "zip") (hm : X.mg "zip" = none) (ha : SA X W [e, e2] as)
    (hs : starEach [e, e2] X.env = (false, eval e X.env) :: starEach [e2] X.env) (hpl : (backTo pos (starEach [e2] X.env)).any (·.1) = false) :
    SI X W (.Tuple elts kk tpos) (.Call (.Name "zip" p) [e, e2] [] pos) (iZipS as) := by
  refine (pi_zipA hg hm ha hs hpl).imp fun σ H R ⟨ρ, μ, α, F, r, re, q⟩ => ?_
  refine ⟨ρ, μ, α, F, r, re, q.bind.mono fun ws μ1 α1 F1 H1 x1 r1 q1 vs rv => ?_⟩
  split at q1
  · rename_i w u
    obtain ⟨v, v', rfl, d, d'⟩ := rws2 rv
    split at q1
    · rename_i i j e1 e2
      obtain ⟨a, rfl, ⟨us, hu⟩, k⟩ := lkn r1 d e1
      obtain ⟨b, rfl, ⟨us2, hu2⟩, k2⟩ := lkn r1 d' e2
      exact ⟨a, b, us, us2, rfl, .inl ⟨hu, hu2, q1.now r1 _ (jok_zip k k2)⟩⟩
    · rename_i i j e1 e2 _
      obtain ⟨a, rfl, ⟨us, hu⟩, k⟩ := tkn r1 d e1
      obtain ⟨b, rfl, ⟨us2, hu2⟩, k2⟩ := tkn r1 d' e2
      exact ⟨a, b, us, us2, rfl, .inr ⟨hu, hu2, q1.now r1 _ (jok_zipT k k2)⟩⟩
    · exact q1.elim
  · exact q1.elim
end
end TL
/-! TL10: for, while, list comprehensions. -/
namespace TL
open PySem PySem.Spec L2 PyProof.Rows
open Classical in
noncomputable def loopF (i : Its) (t : Gv) (b : Sv) : Cell → Rho → Mu → Out Fl
  | [], ρ, μ => if tied i μ then .ok (.nx ρ) μ else .bad
  | x :: xs, ρ, μ => if tied i μ then (calm (t (.d x) ρ μ)).bind fun ρ1 μ1 => (calm (b ρ1 μ1)).bind fun fl μ2 =>
      match fl with
      | .nx ρ2 => loopF i t b xs ρ2 μ2
      | .ct ρ2 => loopF i t b xs ρ2 μ2
      | .bk ρ2 => .ok (.nx ρ2) μ2
      | .rt w => .ok (.rt w) μ2
      | .er x us ρ2 => .ok (.er x us ρ2) μ2
    else .bad
noncomputable def sFor (it : Iv) (t : Gv) (b : Sv) : Sv := fun ρ μ => liftO ρ (it ρ μ) fun i μ1 => loopF i t b i.xs ρ μ1
def loopW (c : Bv) (b : Sv) : Nat → Rho → Mu → Out Fl
  | 0, _, _ => .bad
  | n + 1, ρ, μ => liftO ρ (c ρ μ) fun z μ1 => if z = true then (calm (b ρ μ1)).bind fun fl μ2 =>
      match fl with
      | .nx ρ2 => loopW c b n ρ2 μ2
      | .ct ρ2 => loopW c b n ρ2 μ2
      | .bk ρ2 => .ok (.nx ρ2) μ2
      | .rt w => .ok (.rt w) μ2
      | .er x us ρ2 => .ok (.er x us ρ2) μ2
    else .ok (.nx ρ) μ1
open Classical in
noncomputable def sWhile (c : Bv) (b : Sv) : Sv := fun ρ μ => if h : ∃ n, loopW c b n ρ μ ≠ .bad then loopW c b (Classical.choose h) ρ μ else .bad
theorem loopW_succ (c : Bv) (b : Sv) : ∀ (n : Nat) (ρ : Rho) (μ : Mu), loopW c b n ρ μ ≠ .bad → loopW c b (n + 1) ρ μ = loopW c b n ρ μ
  | 0, ρ, μ, h => absurd rfl h
  | n + 1, ρ, μ, h => by
    unfold loopW at h ⊢
    cases e : c ρ μ with
    | bad => rfl
    | err x ws μ1 => rfl
    | ok z μ1 =>
      rw [e] at h
      simp only [liftO_ok] at h ⊢
      by_cases hz : z = true
      · rw [if_pos hz] at h ⊢
        rw [if_pos hz]
        cases e2 : calm (b ρ μ1) with
        | bad => rfl
        | err x ws μ2 => rfl
        | ok fl μ2 =>
          rw [e2] at h
          cases fl with
          | nx ρ2 => exact loopW_succ c b n ρ2 μ2 h
          | ct ρ2 => exact loopW_succ c b n ρ2 μ2 h
          | _ => rfl
      · rw [if_neg hz, if_neg hz]
theorem loopW_add (c : Bv) (b : Sv) (n : Nat) (ρ : Rho) (μ : Mu) (h : loopW c b n ρ μ ≠ .bad) : ∀ k, loopW c b (n + k) ρ μ = loopW c b n ρ μ
  | 0 => rfl
  | k + 1 => by
    have ih := loopW_add c b n ρ μ h k
    rw [← Nat.add_assoc, loopW_succ c b (n + k) ρ μ (by rw [ih]; exact h), ih]
/-- any number of turns that is enough -/
theorem sWhile_at {c : Bv} {b : Sv} {ρ : Rho} {μ : Mu} {o : Out Fl} (n : Nat) (h : loopW c b n ρ μ = o) (hb : o ≠ .bad) : sWhile c b ρ μ = o := by
  have ex : ∃ n, loopW c b n ρ μ ≠ .bad := ⟨n, by rw [h]; exact hb⟩
  unfold sWhile
  rw [dif_pos ex]
  have h1 := loopW_add c b _ ρ μ (Classical.choose_spec ex) n
  have h2 := loopW_add c b n ρ μ (by rw [h]; exact hb) (Classical.choose ex)
  rw [Nat.add_comm] at h2
  rw [← h1, h2, h]

section
variable {X : Cx} {W : WX}
section
variable {K : PySem.W.Frag} {mg : Str → Option Value} {γ δ : Type} {α0 α : List Addr} {F0 H0 F H : Hp} {o : Out γ} {E : XK}
/-- the computation goes on elsewhere; the rest is told from the old place -/
theorem gp.keep {k : γ → Mu → Out δ} {G : δ → Mu → List Addr → Hp → Hp → Prop} (h : gp K mg α0 F0 H0 (o.bind k) G E) (x : Ext α0 F0 H0 α F H) : gp K mg α F H o (fun c μ' _ _ _ => gp K mg α0 F0 H0 (k c μ') G E) E := h.bind0.base x
end
theorem turns {i : Its} {t : Gv} {b : Sv} {D : Ends} {tg : TG} {tb : TS} (hg : tg = tG X.K X.mg t) (hb : tb = tS X.K X.mg W b) {ρ : Rho} {σ : St} {μ : Mu} {α : List Addr} {F H : Hp} {J : It} (r : Rep X.K α F μ H) (re : RepE X.K α F ρ σ) (j : JOk X.K α F H J i)
    (q : gp X.K X.mg α F H (loopF i t b i.xs ρ μ) (GS X.K X.mg W D) (fun _ _ _ => False)) :
    ∃ V : Nat → Nat → St → Hp → Prop, (∃ m, V 0 m σ H) ∧ ∀ n m σ H, V n m σ H →
      (J.stop n H ∧ D.nx σ H) ∨ (J.go n H ∧ ∃ N : St → Hp → Prop, (∀ σ' H', N σ' H' → ∃ m', m' < m ∧ V (n + 1) m' σ' H') ∧ ∀ x H', J.yld n H x H' → tg x σ H' fun σ2 H2 => tb { D with nx := N, ct := N, bk := D.nx } σ2 H2) := by
  subst hg hb
  refine ⟨fun n m σ' H' => m + n = i.xs.length ∧ ∃ ρ' μ' α' F', Rep X.K α' F' μ' H' ∧ RepE X.K α' F' ρ' σ' ∧ Ext α F H α' F' H' ∧ gp X.K X.mg α' F' H' (loopF i t b (i.xs.drop n) ρ' μ') (GS X.K X.mg W D) (fun _ _ _ => False), ⟨i.xs.length, rfl, ρ, μ, α, F, r, re, .refl, q⟩, ?_⟩
  rintro n m σ1 H1 ⟨hm, ρ1, μ1, α1, F1, r1, re1, x1, q1⟩
  by_cases hn : n < i.xs.length
  · rw [List.drop_eq_getElem_cons hn] at q1
    unfold loopF at q1
    split at q1
    · rename_i ht
      obtain ⟨jg, js, jy⟩ := j.at_ α1 F1 μ1 H1 r1 x1 ht
      refine .inr ⟨jg n hn, fun σ' H' => ∃ ρ' μ' α' F', Rep X.K α' F' μ' H' ∧ RepE X.K α' F' ρ' σ' ∧ Ext α F H α' F' H' ∧ gp X.K X.mg α' F' H' (loopF i t b (i.xs.drop (n + 1)) ρ' μ') (GS X.K X.mg W D) (fun _ _ _ => False), fun σ' H' nx => ⟨m - 1, by omega, by omega, nx⟩, fun x H2 hy => ?_⟩
      obtain ⟨F2, r2, x2, d2⟩ := jy n i.xs[n] x H2 (List.getElem?_eq_getElem hn) hy
      have q2 := (q1.base x2).bind.calm (X' := fun _ _ _ => False)
      refine ⟨ρ1, μ1, α1, F2, .d i.xs[n], r2, re1.ext x2, d2, q2.mono fun ρ3 μ3 α3 F3 H3 x3 r3 q3 σ3 re3 => ?_⟩
      refine ⟨ρ3, μ3, α3, F3, r3, re3, ?_⟩
      have q4 := q3.bind.calm (X' := fun _ _ _ => False)
      refine q4.mono fun fl μ4 α4 F4 H4 x4 r4 q5 => ?_
      have xx : Ext α F H α4 F4 H4 := ((x1.trans x2).trans x3).trans x4
      cases fl with
      | nx ρ4 => exact fun σ4 re4 => ⟨ρ4, μ4, α4, F4, r4, re4, xx, q5⟩
      | ct ρ4 => exact fun σ4 re4 => ⟨ρ4, μ4, α4, F4, r4, re4, xx, q5⟩
      | bk ρ4 => exact fun σ4 re4 => gp.now (G := GS X.K X.mg W D) (X := fun _ _ _ => False) (c := Fl.nx ρ4) q5 r4 σ4 re4
      | rt w => exact gp.now (G := GS X.K X.mg W D) (X := fun _ _ _ => False) (c := Fl.rt w) q5 r4
      | er y us ρ4 => exact gp.now (G := GS X.K X.mg W D) (X := fun _ _ _ => False) (c := Fl.er y us ρ4) q5 r4
    · exact q1.elim
  · have hn' : i.xs.length ≤ n := Nat.le_of_not_lt hn
    rw [List.drop_eq_nil_of_le hn'] at q1
    unfold loopF at q1
    split at q1
    · rename_i ht
      obtain ⟨jg, js, jy⟩ := j.at_ α1 F1 μ1 H1 r1 x1 ht
      exact .inl ⟨js n hn', gp.now (G := GS X.K X.mg W D) (X := fun _ _ _ => False) (c := Fl.nx ρ1) q1 r1 σ1 re1⟩
    · exact q1.elim
theorem ss_for {tg iter : Expr} {body : List Stmt} {fi : Iv} {t : Gv} {b : Sv} {pos : Pos} (hp : PassesOwn (model X.prog X.w) X.A X.env X.xe) (hc : X.calm = true) (hi : SI X W tg iter fi) (hg : SG X tg t) (hb : SSs X W body b)
    (hs : ∀ x, foldedSetIterable iter X.env x = pure x) : SS X W (.For tg iter body [] pos) (sFor fi t b) := by
  refine (ps_for hp hc hi hg hb hs).imp fun D σ H ⟨ρ, μ, α, F, r, re, q⟩ => ?_
  refine ⟨ρ, μ, α, F, r, re, (gp_lift re q).mono fun i μ1 α1 F1 H1 x1 r1 q1 J j => ?_⟩
  exact turns rfl rfl r1 (re.ext x1) j q1
theorem ss_whileN {c : Expr} {body : List Stmt} {fc : Bv} {b : Sv} {pos : Pos} (hp : PassesOwn (model X.prog X.w) X.A X.env X.xe) (hc : ST X W c fc) (hb : SSs X W body b) : SS X W (.While c body [] pos) (sWhile fc b) := by
  refine (ps_while hp hc hb).imp fun D σ H ⟨ρ, μ, α, F, r, re, q⟩ => ?_
  have q' : gp X.K X.mg α F H (sWhile fc b ρ μ) (GS X.K X.mg W D) (fun _ _ _ => False) := q
  unfold sWhile at q'
  split at q'
  · rename_i ex
    generalize Classical.choose ex = n0 at q'
    refine ⟨fun m σ' H' => ∃ ρ' μ' α' F', Rep X.K α' F' μ' H' ∧ RepE X.K α' F' ρ' σ' ∧ gp X.K X.mg α' F' H' (loopW fc b m ρ' μ') (GS X.K X.mg W D) (fun _ _ _ => False), ⟨n0, ρ, μ, α, F, r, re, q'⟩, ?_⟩
    rintro m σ1 H1 ⟨ρ1, μ1, α1, F1, r1, re1, q1⟩
    cases m with
    | zero => exact q1.elim
    | succ m =>
      unfold loopW at q1
      refine ⟨ρ1, μ1, α1, F1, r1, re1, (gp_lift re1 q1).mono fun z μ2 α2 F2 H2 x2 r2 q2 => ?_⟩
      cases z with
      | false => exact gp.now (G := GS X.K X.mg W D) (X := fun _ _ _ => False) (c := Fl.nx ρ1) q2 r2 σ1 (re1.ext x2)
      | true =>
        refine ⟨fun σ' H' => ∃ ρ' μ' α' F', Rep X.K α' F' μ' H' ∧ RepE X.K α' F' ρ' σ' ∧ gp X.K X.mg α' F' H' (loopW fc b m ρ' μ') (GS X.K X.mg W D) (fun _ _ _ => False), fun σ' H' nx => ⟨m, Nat.lt_succ_self m, nx⟩, ?_⟩
        refine ⟨ρ1, μ2, α2, F2, r2, re1.ext x2, ?_⟩
        have q4 := (gp.bind q2).calm (X' := fun _ _ _ => False)
        refine q4.mono fun fl μ4 α4 F4 H4 x4 r4 q5 => ?_
        cases fl with
        | nx ρ4 => exact fun σ4 re4 => ⟨ρ4, μ4, α4, F4, r4, re4, q5⟩
        | ct ρ4 => exact fun σ4 re4 => ⟨ρ4, μ4, α4, F4, r4, re4, q5⟩
        | bk ρ4 => exact fun σ4 re4 => gp.now (G := GS X.K X.mg W D) (X := fun _ _ _ => False) (c := Fl.nx ρ4) q5 r4 σ4 re4
        | rt w => exact gp.now (G := GS X.K X.mg W D) (X := fun _ _ _ => False) (c := Fl.rt w) q5 r4
        | er y us ρ4 => exact gp.now (G := GS X.K X.mg W D) (X := fun _ _ _ => False) (c := Fl.er y us ρ4) q5 r4
  · exact q'.elim

/-! ### list comprehensions -/
def wipeR (ρ : Rho) : List Nat → Rho
  | [] => ρ
  | v :: vs => (wipeR ρ vs).set v none
theorem wipeR_len (ρ : Rho) : ∀ vs, (wipeR ρ vs).length = ρ.length
  | [] => rfl
  | v :: vs => by
    unfold wipeR
    rw [List.length_set, wipeR_len ρ vs]
theorem RepE.wipe {K : PySem.W.Frag} {α : List Addr} {F : Hp} {ρ : Rho} {σ : St} (h : RepE K α F ρ σ) : ∀ vs, RepE K α F (wipeR ρ vs) (L2.wipe σ vs)
  | [] => h
  | v :: vs => by
    have ih := RepE.wipe h vs
    refine ⟨by rw [wipeR_len, wipe_length]; exact h.len, fun i w e => ?_⟩
    unfold wipeR at e
    unfold L2.wipe
    by_cases hi : v = i
    · subst hi
      by_cases hl : v < (wipeR ρ vs).length
      · rw [List.getElem?_set_self hl] at e
        cases e
      · rw [List.getElem?_eq_none (by rw [List.length_set]; omega)] at e
        cases e
    · rw [List.getElem?_set_ne hi] at e ⊢
      exact ih.at_ i w e
theorem wipe_set (σ : St) (i : Nat) (v : Option V) : ∀ vs : List Nat, i ∈ vs → L2.wipe (σ.set i v) vs = L2.wipe σ vs
  | [], h => by cases h
  | u :: vs, h => by
    unfold L2.wipe
    by_cases hm : i ∈ vs
    · rw [wipe_set σ i v vs hm]
    · have hu : i = u := by
        rcases List.mem_cons.mp h with e | e
        · exact e
        · exact absurd e hm
      subst hu
      have far : ∀ (τ : St) (vs : List Nat), i ∉ vs → L2.wipe (τ.set i v) vs = (L2.wipe τ vs).set i v := by
        intro τ vs
        induction vs with
        | nil => intro _; rfl
        | cons z zs ih =>
          intro hz
          rw [List.mem_cons, not_or] at hz
          unfold L2.wipe
          rw [ih hz.2, List.set_comm _ _ (Ne.symm hz.1)]
      rw [far σ vs hm, List.set_set]
/-- a target of a block: own names only -/
def tGw (K : PySem.W.Frag) (mg : Str → Option Value) (os : List Nat) (t : Gv) : TG := fun v σ H Q => ∃ ρ μ α F w, Rep K α F μ H ∧ RepE K α F ρ σ ∧ Rw K α F v w ∧ gp K mg α F H (t w ρ μ) (fun ρ' _ α' F' H' => ∀ σ', RepE K α' F' ρ' σ' → L2.wipe σ' os = L2.wipe σ os → Q σ' H') (fun _ _ _ => False)
abbrev SGw (X : Cx) (os : List Nat) (tg : Expr) (t : Gv) : Prop := PG X tg (tGw X.K X.mg os t)
theorem sgw_name {os : List Nat} {i : Nat} {x : Str} {pos : Pos} (hN : X.N.Nodup) (hi : X.N[i]? = some x) (hx : Loc X.env.scope x) (hf : X.fn x = true ∨ X.env.scope.names.lookup x = some .local) (ho : i ∈ os) : SGw X os (.Name x pos) (gNm i) :=
  (pg_name hN hi hx hf).imp fun v σ H Q ⟨ρ, μ, α, F, w, r, re, rv, q⟩ => q.now r _ (re.set i rv) (wipe_set σ i _ os ho)
def tGsw (K : PySem.W.Frag) (mg : Str → Option Value) (os : List Nat) (ts : List Gv) : TGs := fun vs σ H Q => ∃ ρ μ α F ws, Rep K α F μ H ∧ RepE K α F ρ σ ∧ Rws K α F vs ws ∧ gp K mg α F H (gSeq ts ws ρ μ) (fun ρ' _ α' F' H' => ∀ σ', RepE K α' F' ρ' σ' → L2.wipe σ' os = L2.wipe σ os → Q σ' H') (fun _ _ _ => False)
abbrev SGsw (X : Cx) (os : List Nat) (es : List Expr) (ts : List Gv) : Prop := PGs X es (tGsw X.K X.mg os ts)
theorem sgsw_nil {os : List Nat} : SGsw X os [] [] := pgs_nil.imp fun vs σ H Q ⟨ρ, μ, α, F, ws, r, re, rv, q⟩ => by
  cases ws with
  | nil =>
    cases rv
    exact ⟨rfl, q.now r σ re rfl⟩
  | cons w ws => exact q.elim
theorem sgsw_cons {os : List Nat} {e : Expr} {es : List Expr} {t : Gv} {ts : List Gv} (h1 : SGw X os e t) (h2 : SGsw X os es ts) (hs : (assignEach (e :: es) X.env).map (·.2) = assign e X.env :: (assignEach es X.env).map (·.2)) : SGsw X os (e :: es) (t :: ts) := by
  refine (pgs_cons h1 h2 hs).imp fun vs σ H Q ⟨ρ, μ, α, F, ws, r, re, rv, q⟩ => ?_
  cases ws with
  | nil => exact q.elim
  | cons w ws =>
    cases rv with
    | cons r1 r2 =>
      refine ⟨_, _, rfl, ρ, μ, α, F, w, r, re, r1, gp.bind q |>.mono fun ρ' μ' α' F' H' x' rp q' σ' re' e' => ?_⟩
      exact ⟨ρ', μ', α', F', ws, rp, re', Rws.ext r2 x', q'.mono fun ρ2 μ2 α2 F2 H2 x2 rp2 q2 σ2 re2 e2 => q2 σ2 re2 (e2.trans e')⟩
theorem sgw_tup {os : List Nat} {es : List Expr} {k : Nat} {pos : Pos} {ts : List Gv} (hc : X.calm = true) (h : SGsw X os es ts) (hn : (assignEach es X.env).length = ts.length) (hst : (assignEach es X.env).findIdx? (·.1) = none) : SGw X os (.Tuple es k pos) (gTp ts) := by
  refine (pg_tup hc h hn hst).imp fun v σ H Q ⟨ρ, μ, α, F, w, r, re, rv, q⟩ => ?_
  unfold gTp at q
  split at q
  · rename_i xs
    split at q
    · rename_i hl
      cases rv with
      | @tup a vs _ t1 d1 => exact ⟨a, vs, rfl, sameT r.sub t1, by rw [d1.length, hl], ρ, μ, α, F, _, r, re, Rws.of_all d1, q⟩
    · exact q.elim
  · exact q.elim
/-- one turn's item -/
def lcPut (acc : Cell) (w : Wv) (μ : Mu) : Out Cell := match w with
  | .d y => if acc.length < 16777216 then .ok (acc ++ [y]) μ else .bad
  | _ => .bad
open Classical in
noncomputable def loopC (i : Its) (t : Gv) (c : Bv) (e : Ev) (ρ : Rho) : Cell → Cell → Mu → Out Cell
  | [], acc, μ => if tied i μ then .ok acc μ else .bad
  | x :: xs, acc, μ => if tied i μ then (calm (t (.d x) ρ μ)).bind fun ρ1 μ1 => (calm (c ρ1 μ1)).bind fun b μ2 =>
      if b = true then ((calm (e ρ1 μ2)).bind (lcPut acc)).bind fun acc' μ3 => loopC i t c e ρ xs acc' μ3 else loopC i t c e ρ xs acc μ2
    else .bad
noncomputable def lLc (it : Iv) (t : Gv) (c : Bv) (e : Ev) (os : List Nat) : Lv := fun ρ μ => (it ρ μ).bind fun i μ1 => loopC i t c e (wipeR ρ os) i.xs [] μ1
def bYes : Bv := fun _ μ => .ok true μ
theorem Rep.poke {K : PySem.W.Frag} {α : List Addr} {F H : Hp} {μ : Mu} {D : Addr} {o : HO} (r : Rep K α F μ H) (h : H D ≠ none) (hF : F D = none) (hn : D ∉ α) : Rep K α F μ (upd H D o) := by
  refine ⟨r.len, fun b u q => ?_, fun k c q => ?_, r.inj, fun a m => ?_⟩
  · rw [upd_ne (ne_of_none q hF)]
    exact r.sub _ _ q
  · obtain ⟨a, vs, h1, h2, h3, h4⟩ := r.cell k c q
    exact ⟨a, vs, h1, by rw [upd_ne (fun (e : a = D) => hn (e ▸ List.mem_of_getElem? h1))]; exact h2, h3, h4⟩
  · rw [upd_ne (fun (e : a = D) => hn (e ▸ m))]
    exact r.had a m
theorem Ext.poke {α0 α : List Addr} {F0 H0 F H : Hp} {D : Addr} {o : HO} (e : Ext α0 F0 H0 α F H) (h : H0 D = none) : Ext α0 F0 H0 α F (upd H D o) := by
  refine ⟨e.pre, e.fro, fun a u q n => ?_, fun a q => ?_, e.newF, e.newA⟩
  · rw [upd_ne (ne_of_none q h)]
    exact e.frame a u q n
  · by_cases z : a = D
    · rw [z, upd_same]
      exact fun z => nomatch z
    · rw [upd_ne z]
      exact e.keep a q
abbrev STs (X : Cx) (W : WX) (es : List Expr) (f : Bv) : Prop := PTs X es (tT X.K X.mg W f)
theorem sts_nil : STs X W [] bYes := ⟨fun pins s σ H Q I ⟨_, _, _, _, r, _, q⟩ => pts_nil.run pins s σ H Q I (q.now r)⟩
theorem sts_one {c : Expr} {f : Bv} (h : ST X W c f) : STs X W [c] f := pts_one h
/-- the accumulator between two turns -/
structure LcAt (X : Cx) (α0 : List Addr) (F0 H0 : Hp) (H1 : Hp) (D : Addr) (i : Its) (t : Gv) (c : Bv) (e : Ev) (ρ0 : Rho) (Q : VK) (E : XK) (n : Nat) (H : Hp) : Prop where
  ex : ∃ μ α F acc vs, Rep X.K α F μ H ∧ Ext α0 F0 H0 α F H ∧ H D = some (.lst vs) ∧ F D = none ∧ D ∉ α ∧ DqAll X.K F vs acc ∧ gp X.K X.mg α0 F0 H0 (loopC i t c e ρ0 (i.xs.drop n) acc μ) (Gl' X.K H1 Q) E
theorem away {α α' : List Addr} {F F' H H' : Hp} {D : Addr} (x : Ext α F H α' F' H') {o : HO} (h : H D = some o) (hF : F D = none) (hn : D ∉ α) : H' D = some o ∧ F' D = none ∧ D ∉ α' := by
  refine ⟨x.frame D o h hn, ?_, fun m => ?_⟩
  · cases z : F' D with
    | none => rfl
    | some u =>
      rcases x.newF D (by rw [z]; exact fun z => nomatch z) with q | q | q
      · exact absurd hF q
      · rw [h] at q; cases q
      · exact absurd q hn
  · rcases x.newA D m with q | q
    · exact hn q
    · rw [h] at q; cases q
theorem lc_turns {i : Its} {t : Gv} {c : Bv} {e : Ev} {Q : VK} {E : XK} {os : List Nat} {ρ : Rho} {σ : St} {μ : Mu} {α : List Addr} {F H Hz : Hp} {J : It} (r : Rep X.K α F μ H) (re : RepE X.K α F ρ σ) (hz : ∀ a, Hz a ≠ none → H a ≠ none) (j : JOk X.K α F H J i)
    (q : gp X.K X.mg α F H (loopC i t c e (wipeR ρ os) i.xs [] μ) (Gl' X.K Hz Q) E) (D : Addr) (hD : H D = none) :
    ∃ V : Nat → Nat → Hp → Prop, (∃ m, V 0 m (upd H D (.lst []))) ∧ ∀ n m H, V n m H →
      (J.stop n H ∧ Q (.ref D) H) ∨ (J.go n H ∧ ∃ Nx : Hp → Prop, (∀ H', Nx H' → ∃ m', m' < m ∧ V (n + 1) m' H') ∧ ∀ x H', J.yld n H x H' → tGw X.K X.mg os t x (L2.wipe σ os) H' fun σ2 H2 => L2.wipe σ2 os = L2.wipe σ os ∧ tT X.K X.mg (fun _ _ _ _ => False) c σ2 H2 fun b H3 =>
        if b = true then tE X.K X.mg (fun _ _ _ _ => False) e σ2 H3 fun y H4 => ∃ acc, H4 D = some (.lst acc) ∧ acc.length < sizeLine ∧ Nx (upd H4 D (.lst (acc ++ [y]))) else Nx H3) := by
  have wipe2 : ∀ τ : St, L2.wipe (L2.wipe τ os) os = L2.wipe τ os := by
    intro τ
    have : ∀ vs : List Nat, (∀ v ∈ vs, v ∈ os) → L2.wipe (L2.wipe τ vs) os = L2.wipe τ os := by
      intro vs
      induction vs with
      | nil => intro _; rfl
      | cons v vs ih =>
        intro h
        show L2.wipe ((L2.wipe τ vs).set v none) os = _
        rw [wipe_set _ _ _ _ (h v List.mem_cons_self), ih fun u hu => h u (List.mem_cons_of_mem _ hu)]
    exact this os fun v h => h
  have fp : F D = none := r.sub.free hD
  have na : D ∉ α := fun m => r.had D m hD
  obtain ⟨rs, xs⟩ := r.side (o := .lst []) hD
  refine ⟨fun n m H' => m + n = i.xs.length ∧ LcAt X α F H Hz D i t c e (wipeR ρ os) Q E n H', ⟨i.xs.length, rfl, ⟨μ, α, F, [], [], rs, xs, upd_same, fp, na, .nil, q⟩⟩, ?_⟩
  rintro n m H1 ⟨hm, ⟨μ1, α1, F1, acc, vs, r1, x1, h1, f1, n1, d1, q1⟩⟩
  by_cases hn : n < i.xs.length
  · rw [List.drop_eq_getElem_cons hn] at q1
    unfold loopC at q1
    split at q1
    · rename_i ht
      obtain ⟨jg, js, jy⟩ := j.at_ α1 F1 μ1 H1 r1 x1 ht
      refine .inr ⟨jg n hn, LcAt X α F H Hz D i t c e (wipeR ρ os) Q E (n + 1), fun H' nx => ⟨m - 1, by omega, by omega, nx⟩, fun x H2 hy => ?_⟩
      obtain ⟨F2, r2, x2, d2⟩ := jy n i.xs[n] x H2 (List.getElem?_eq_getElem hn) hy
      have re2 : RepE X.K α1 F2 (wipeR ρ os) (L2.wipe σ os) := ((re.wipe os).ext x1).ext x2
      refine ⟨wipeR ρ os, μ1, α1, F2, .d i.xs[n], r2, re2, d2, ((q1.keep (x1.trans x2)).calm (X' := fun _ _ _ => False)).mono fun ρ3 μ3 α3 F3 H3 x3 r3 q3 σ3 re3 e3 => ?_⟩
      have x13 := (x1.trans x2).trans x3
      refine ⟨e3.trans (wipe2 σ), ρ3, μ3, α3, F3, r3, re3, ((q3.keep x13).calm (X' := fun _ _ _ => False)).mono fun b μ4 α4 F4 H4 x4 r4 q4 => ?_⟩
      have x14 := x13.trans x4
      have x24 := (x2.trans x3).trans x4
      obtain ⟨g1, g2, g3⟩ := away x24 h1 f1 n1
      have d4 := d1.mono x24.fro
      cases b with
      | false => exact ⟨μ4, α4, F4, acc, vs, r4, x14, g1, g2, g3, d4, q4⟩
      | true =>
        refine ⟨ρ3, μ4, α4, F4, r4, re3.ext x4, ((gp.keep (gp.bind0 q4) .refl |>.base x14).calm (X' := fun _ _ _ => False)).mono fun w μ5 α5 F5 H5 x5 r5 q5 v rv => ?_⟩
        obtain ⟨k1, k2, k3⟩ := away x5 g1 g2 g3
        unfold lcPut at q5
        split at q5
        · rename_i y
          split at q5
          · rename_i hl
            have d5 := d4.mono x5.fro
            refine ⟨vs, k1, by rw [d5.length, sizeLine_eq]; exact hl, ⟨μ5, α5, F5, acc ++ [y], vs ++ [v], r5.poke (by rw [k1]; exact fun z => nomatch z) k2 k3, (x14.trans x5).poke hD, upd_same, k2, k3, d5.append (.cons rv .nil), ?_⟩⟩
            exact q5.at (x14.trans x5) r5
          · exact q5.elim
        · exact q5.elim
    · exact q1.elim
  · have hn' : i.xs.length ≤ n := Nat.le_of_not_lt hn
    rw [List.drop_eq_nil_of_le hn'] at q1
    unfold loopC at q1
    split at q1
    · rename_i ht
      obtain ⟨jg, js, jy⟩ := j.at_ α1 F1 μ1 H1 r1 x1 ht
      refine .inl ⟨js n hn', ?_⟩
      have : Hz D = none := by
        by_cases z : Hz D = none
        · exact z
        · exact absurd hD (hz D z)
      exact (gp.at q1 x1 r1) D vs this h1 f1 n1 d1
    · exact q1.elim
section
variable {elt tg iter : Expr} {ifs : List Expr} {scope : Scope} {own : List (Str × Nat)} {pos : Pos} {fi : Iv} {t : Gv} {c : Bv} {e : Ev}
/-- X, as the block of a comprehension sees it -/
abbrev Bk (X : Cx) (scope : Scope) (s : Shared) (H : Hp) (C : Addr) (cl : List (Str × Addr)) (fp : List Addr) : Cx := X.blk s H scope (compEnvC scope cl C X.env) fp
abbrev W0 : WX := fun _ _ _ _ => False
theorem lc_read {D : Ends} {os : List Nat} {σ : St} {H : Hp} {Q : VK} (h : tL X.K X.mg W (lLc fi t c e os) σ H Q) : tLc (tI X.K X.mg W fi) (tGw X.K X.mg os t) (tT X.K X.mg W0 c) (tE X.K X.mg W0 e) os σ H Q := by
  obtain ⟨ρ, μ, α, F, r, re, q⟩ := h
  have q' := gp.bind0 q
  refine ⟨ρ, μ, α, F, r, re, ?_⟩
  refine (show gp X.K X.mg α F H (fi ρ μ) _ _ from q').mono fun i μ1 α1 F1 H1 x1 r1 q1 J j => ?_
  intro D hD
  exact lc_turns r1 (re.ext x1) x1.keep j (q1.base x1) D hD
theorem sl_lc (hc : X.calm = true) (hN : X.N.Nodup) (hi : SI X W tg iter fi) (ok : BlkOk X.N X.env.scope scope own)
    (hg : ∀ s H C cl fp, SGw (Bk X scope s H C cl fp) (own.map (·.2)) tg t) (ht : ∀ s H C cl fp, STs (Bk X scope s H C cl fp) W0 ifs c) (he : ∀ s H C cl fp, SE (Bk X scope s H C cl fp) W0 elt e)
    (hs : ∀ x, foldedSetIterable iter X.env x = pure x) : SL X W (.ListComp elt [⟨tg, iter, ifs, 0⟩] scope pos) (lLc fi t c e (own.map (·.2))) :=
  (pe_lc (g := tGw X.K X.mg (own.map (·.2)) t) (tt := tT X.K X.mg W0 c) (te := tE X.K X.mg W0 e) hc hN hi ok hg ht he hs).imp fun σ H Q h => lc_read (D := ⟨fun _ _ => True, fun _ _ => True, fun _ _ => True, fun _ _ => True⟩) h
/-- name = [..] on one line -/
theorem ss_setLcN {i : Nat} {y : Str} {py spos : Pos} (hc : X.calm = true) (hN : X.N.Nodup) (hy : X.N[i]? = some y) (hyl : X.env.scope.names.lookup y = some .local)
    (hsw : swapsWith (.ListComp elt [⟨tg, iter, ifs, 0⟩] scope pos) (some (.Name y py)) spos.line X.env = pure true) (hi : SI X W tg iter fi) (ok : BlkOk X.N X.env.scope scope own)
    (hg : ∀ s H C cl fp, SGw (Bk X scope s H C cl fp) (own.map (·.2)) tg t) (ht : ∀ s H C cl fp, STs (Bk X scope s H C cl fp) W0 ifs c) (he : ∀ s H C cl fp, SE (Bk X scope s H C cl fp) W0 elt e)
    (hs : ∀ x, foldedSetIterable iter X.env x = pure x) : SS X W (.Assign [.Name y py] (.ListComp elt [⟨tg, iter, ifs, 0⟩] scope pos) spos) (sAsg (eNew (lLc fi t c e (own.map (·.2)))) (gNm i)) := by
  refine (ps_setLc (g := tGw X.K X.mg (own.map (·.2)) t) (tt := tT X.K X.mg W0 c) (te := tE X.K X.mg W0 e) hc hN hy hyl hsw hi ok hg ht he hs).imp fun D σ H ⟨ρ, μ, α, F, r, re, q⟩ => ?_
  refine lc_read (D := D) ⟨ρ, μ, α, F, r, re, ?_⟩
  have q1 := gp_lift re q
  refine gp.mono (gp.bind0 (show gp X.K X.mg α F H ((lLc fi t c e (own.map (·.2)) ρ μ).bind fun c μ1 => .ok (Wv.r μ1.length) (μ1 ++ [some c])) _ _ from q1)) fun z μ1 α1 F1 H1 x1 r1 q2 A vs hD hD1 hF hn dq => ?_
  have r2 := r1.cellSide hD1 hF hn dq
  have q3 := q2.at (x1.celled hD) r2
  refine gp.now (G := GS X.K X.mg W D) (X := fun _ _ _ => False) (c := Fl.nx (ρ.set i (some (Wv.r μ1.length)))) q3 r2 _ ((re.ext (x1.celled hD)).set i ⟨A, ?_, rfl⟩)
  rw [r1.len, List.getElem?_append_right (Nat.le_refl _), Nat.sub_self]
  rfl
/-- name = [..] on one line -/
theorem ss_setLcF {i : Nat} {y : Str} {py spos : Pos} (hc : X.calm = true) (hN : X.N.Nodup) (hy : X.N[i]? = some y) (hyl : X.env.scope.names.lookup y = some .local)
    (hsw : swapsWith (.ListComp elt [⟨tg, iter, ifs, 0⟩] scope pos) (some (.Name y py)) spos.line X.env = pure true) (hi : SI X W tg iter fi) (ok : BlkOk X.N X.env.scope scope own)
    (hg : ∀ s H C cl fp, SGw (Bk X scope s H C cl fp) (own.map (·.2)) tg t) (ht : ∀ s H C cl fp, STs (Bk X scope s H C cl fp) W0 ifs c) (he : ∀ s H C cl fp, SE (Bk X scope s H C cl fp) W0 elt e)
    (hs : ∀ x, foldedSetIterable iter X.env x = pure x) : SS X W (.Assign [.Name y py] (.ListComp elt [⟨tg, iter, ifs, 0⟩] scope pos) spos) (sAsg (eFrz (lLc fi t c e (own.map (·.2)))) (gNm i)) := by
  refine (ps_setLc (g := tGw X.K X.mg (own.map (·.2)) t) (tt := tT X.K X.mg W0 c) (te := tE X.K X.mg W0 e) hc hN hy hyl hsw hi ok hg ht he hs).imp fun D σ H ⟨ρ, μ, α, F, r, re, q⟩ => ?_
  refine lc_read (D := D) ⟨ρ, μ, α, F, r, re, ?_⟩
  have q1 := gp_lift re q
  refine gp.mono (gp.bind0 (show gp X.K X.mg α F H ((lLc fi t c e (own.map (·.2)) ρ μ).bind fun c μ1 => .ok (Wv.d (.list c)) μ1) _ _ from q1)) fun z μ1 α1 F1 H1 x1 r1 q2 A vs hD hD1 hF hn dq => ?_
  have r2 := r1.freezeSide hD1 hF hn
  have q3 := q2.at (x1.frozen hD hF) r2
  exact gp.now (G := GS X.K X.mg W D) (X := fun _ _ _ => False) (c := Fl.nx (ρ.set i (some (Wv.d (.list z))))) q3 r2 _ ((re.ext (x1.frozen hD hF)).set i (Dq.lst (.of upd_same) (dq.mono (same_frozen hF))))
end
end
end TL
/-! TL11: lists put together; {}. -/
namespace TL
open PySem PySem.Spec L2 PyProof.Rows RZ
def gPlus (a b : Wv) (μ : Mu) : Out Wv :=
  match dataOf μ a, dataOf μ b with
  | some (.list xs), some (.list ys) => if xs.length + ys.length ≤ 16777216 then .ok (.d (.list (xs ++ ys))) μ else .bad
  | _, _ => gAdd a b μ
/-- told so that no computing of it starts by itself -/
noncomputable def repOk (n : Nat) (k : Int) : Bool := @decide (k < 16777216 ∧ -16777216 ≤ k ∧ n * k.toNat ≤ 16777216) (Classical.propDecidable _)
theorem repOk_ok {n : Nat} {k : Int} (h : repOk n k = true) : k < 16777216 ∧ -16777216 ≤ k ∧ n * k.toNat ≤ 16777216 := @of_decide_eq_true _ (Classical.propDecidable _) h
theorem repOk_is {n : Nat} {k : Int} (h : k < 16777216 ∧ -16777216 ≤ k ∧ n * k.toNat ≤ 16777216) : repOk n k = true := @decide_eq_true _ (Classical.propDecidable _) h
noncomputable def gTimes (a b : Wv) (μ : Mu) : Out Wv :=
  match dataOf μ a, b with
  | some (.list xs), .d (.int k) => if repOk xs.length k = true then .ok (.d (.list (List.replicate k.toNat xs).flatten)) μ else .bad
  | _, _ => gMul a b μ
theorem DqAll.times {K : PySem.W.Frag} {F : Hp} {vs : List V} {c : Cell} (d : DqAll K F vs c) : ∀ k : Nat, DqAll K F (List.replicate k vs).flatten (List.replicate k c).flatten
  | 0 => .nil
  | k + 1 => by
    rw [List.replicate_succ, List.replicate_succ, List.flatten_cons, List.flatten_cons]
    exact d.append (DqAll.times d k)
section
variable {X : Cx} {W : WX}
def rCatR (K : PySem.W.Frag) : R2 := fun x y H Q => ∃ l b xs zs, x = .ref l ∧ y = .ref b ∧ Ls K H l xs ∧ Ls K H b zs ∧ xs.length + zs.length ≤ sizeLine ∧ ∀ p, H p = none → Q (.ref p) (upd H p (.lst (xs ++ zs)))
theorem op_catR : OpR X (binaryOp .Add) (rCatR X.K) := by
  intro pins s σ H x y v u Q I rx ry h
  obtain ⟨l, b, xs, zs, rfl, rfl, hH, hB, hz, q⟩ := h
  cases rx
  cases ry
  obtain ⟨z, its, n, r, e⟩ := hH.ob I
  obtain ⟨z2, its2, n2, r2, e2⟩ := hB.ob I
  have hl := r.length
  have hl2 := r2.length
  refine PySem.P.add_list e e2 ?_ (by rw [List.size_toArray, List.size_toArray]; omega)
  have ea : its.toArray ++ its2.toArray = (its ++ its2).toArray := by simp
  rw [ea]
  exact ⟨.ref _, _, I.lnew (t' := s.toks) (r.append r2) (by rw [List.length_append]; omega), rfl, q _ I.fresh⟩
def rRepR (K : PySem.W.Frag) : R2 := fun x y H Q => ∃ l k xs, x = .ref l ∧ y = .int k ∧ Ls K H l xs ∧ -(2 ^ 63) ≤ k ∧ k < 2 ^ 63 ∧ xs.length * k.toNat ≤ sizeLine ∧
  ∀ p, H p = none → Q (.ref p) (upd H p (.lst (List.replicate k.toNat xs).flatten))
theorem op_repR : OpR X (binaryOp .Mult) (rRepR X.K) := by
  intro pins s σ H x y v u Q I rx ry h
  obtain ⟨l, k, xs, rfl, rfl, hH, h1, h2, hz, q⟩ := h
  cases rx
  obtain ⟨t, rfl⟩ := ry
  obtain ⟨z, its, n, r, e⟩ := hH.ob I
  have hl := r.length
  have hlen : its.toArray.size * k.toNat ≤ sizeLine := by rw [List.size_toArray, ← hl]; exact hz
  have hcap : ¬ its.toArray.size * k.toNat > (2 ^ 63 - 1) / 8 := by
    have : (sizeLine : Nat) ≤ (2 ^ 63 - 1) / 8 := by decide
    omega
  have hfit : ¬ (!Builtin.List.listFitsIndex k) = true := by
    rw [fitsIndex_both h1 h2]
    exact Bool.false_ne_true
  have hlong : ¬ Builtin.List.listTooLong (its.toArray.size * k.toNat) = true := by
    rw [notLongL hlen]
    exact Bool.false_ne_true
  have hnew : List.foldl (fun x1 x2 => x1 ++ x2) #[] (List.replicate (if its.toArray.isEmpty = true then 0 else k.toNat) its.toArray) = (List.replicate k.toNat its).flatten.toArray := by
    have f0 : ∀ m : Nat, List.foldl (fun x1 x2 => x1 ++ x2) #[] (List.replicate m its.toArray) = (List.replicate m its).flatten.toArray := fun m => by
      have := foldl_rep its m []
      rw [List.nil_append] at this
      exact this
    rw [f0]
    cases its with
    | nil => simp
    | cons a r' => rw [if_neg (by simp)]
  refine wpAny_binaryOp_repeat_ref (T := "list") (U := "int") (by decide) ⟨_, e, rfl⟩ (fun s' => typeIs_int s' k t) noFill_list_mul F.fills_int_mul F.slot_int_rmul repeat_list F.slot_int_index.lookup
    (call_meets F.slot_int_rmul (typeIs_int s k t) F.entry_int_rmul (F.args_int_rmul_2 _ _) (int___rmul___int_list k t l its.toArray n)
      ⟨e, rfl, ⟨_, e, rfl⟩, call_meets F.slot_list_mul ⟨_, e, rfl⟩ F.entry_list_mul (F.args_list_mul_2 _ _) (AutoListH.list___mul___list_int_3 l its.toArray n k t hfit hcap hlong) ⟨e, ?_⟩⟩)
  rw [hnew]
  exact ⟨.ref _, _, I.lnew (t' := s.toks) (r.rep k.toNat) (by rw [PyProof.Rows.lm_len_rep_flat, Nat.mul_comm]; exact hz), rfl, q _ I.fresh⟩
theorem op_gPlus : OpR X (binaryOp .Add) (r2G X.K X.mg gPlus) := by
  intro pins s σ H x y v u Q I rx ry ⟨μ, α, F, w1, w2, r, h1, h2, q⟩
  unfold gPlus at q
  split at q
  · rename_i xs ys e1 e2
    split at q
    · rename_i hl
      obtain ⟨a, vs, rfl, hA, d1⟩ := items_of r e1 h1
      obtain ⟨b, us, rfl, hB, d2⟩ := items_of r e2 h2
      refine op_catR pins s σ H _ _ v u Q I rx ry ⟨a, b, vs, us, rfl, rfl, hA, hB, ?_, fun p hp => ?_⟩
      · rw [d1.length, d2.length]
        exact le_line hl
      · obtain ⟨r2, x2⟩ := r.new (o := .lst (vs ++ us)) hp
        exact q.at x2 r2 _ (.lst (.of upd_same) ((d1.mono x2.fro).append (d2.mono x2.fro)))
    · exact q.elim
  · exact op_gAdd pins s σ H x y v u Q I rx ry ⟨μ, α, F, w1, w2, r, h1, h2, q⟩
theorem op_gTimes : OpR X (binaryOp .Mult) (r2G X.K X.mg gTimes) := by
  intro pins s σ H x y v u Q I rx ry ⟨μ, α, F, w1, w2, r, h1, h2, q⟩
  unfold gTimes at q
  split at q
  · rename_i xs k e1
    split at q
    · rename_i hl
      have hl := repOk_ok hl
      obtain ⟨a, vs, rfl, hA, d1⟩ := items_of r e1 h1
      cases h2
      refine op_repR pins s σ H _ _ v u Q I rx ry ⟨a, k, vs, rfl, rfl, hA, by omega, by omega, ?_, fun p hp => ?_⟩
      · rw [d1.length]
        exact le_line hl.2.2
      · obtain ⟨r2, x2⟩ := r.new (o := .lst (List.replicate k.toNat vs).flatten) hp
        exact q.at x2 r2 _ (.lst (.of upd_same) (DqAll.times (d1.mono x2.fro) k.toNat))
    · exact q.elim
  · exact op_gMul pins s σ H x y v u Q I rx ry ⟨μ, α, F, w1, _, r, h1, h2, q⟩
/-- a list that nobody else has -/
def lCat (a b : Ev) : Lv := fun ρ μ => (a ρ μ).bind fun w μ1 => (b ρ μ1).bind fun u μ2 => match dataOf μ2 w, dataOf μ2 u with
  | some (.list xs), some (.list ys) => if xs.length + ys.length ≤ 16777216 then .ok (xs ++ ys) μ2 else .bad
  | _, _ => .bad
noncomputable def lRep (a b : Ev) : Lv := fun ρ μ => (a ρ μ).bind fun w μ1 => (b ρ μ1).bind fun u μ2 => match dataOf μ2 w, u with
  | some (.list xs), .d (.int k) => if repOk xs.length k = true then .ok (List.replicate k.toNat xs).flatten μ2 else .bad
  | _, _ => .bad
theorem side_at {K : PySem.W.Frag} {mg : Str → Option Value} {α0 α : List Addr} {F0 H0 F H : Hp} {μ : Mu} {c : Cell} {Q : VK} {E : XK} {vs : List V} {p : Addr} (q : gp K mg α F H (.ok c μ) (Gl' K H0 Q) E) (r : Rep K α F μ H) (x : Ext α0 F0 H0 α F H) (hp : H p = none) (d : DqAll K F vs c) : Q (.ref p) (upd H p (.lst vs)) := by
  obtain ⟨r2, x2⟩ := r.side (o := .lst vs) hp
  have hF : F p = none := r.sub.free hp
  have hH : H0 p = none := by
    by_cases z : H0 p = none
    · exact z
    · exact absurd hp (x.keep p z)
  exact q.at x2 r2 p vs hH upd_same hF (fun m => r.had p m hp) d
theorem sl_cat {a b : Expr} {pos : Pos} {fa fb : Ev} (ha : SE X W a fa) (hb : SE X W b fb) : SL X W (.BinOp a .Add b pos) (lCat fa fb) := by
  refine (pe_op op_catR ha hb).imp fun σ H Q ⟨ρ, μ, α, F, r, re, q⟩ => ?_
  refine ⟨ρ, μ, α, F, r, re, q.bind.mono fun w μ1 α1 F1 H1 x1 r1 q1 v rv => ?_⟩
  refine ⟨ρ, μ1, α1, F1, r1, re.ext x1, q1.bind.mono fun u μ2 α2 F2 H2 x2 r2 q2 v' rv' => ?_⟩
  split at q2
  · rename_i xs ys e1 e2
    split at q2
    · rename_i hl
      obtain ⟨a, vs, rfl, hA, d1⟩ := items_of r2 e1 (rv.ext x2)
      obtain ⟨b, us, rfl, hB, d2⟩ := items_of r2 e2 rv'
      refine ⟨a, b, vs, us, rfl, rfl, hA, hB, ?_, fun p hp => side_at q2 r2 (x1.trans x2) hp (d1.append d2)⟩
      rw [d1.length, d2.length]
      exact le_line hl
    · exact q2.elim
  · exact q2.elim
theorem sl_rep {a b : Expr} {pos : Pos} {fa fb : Ev} (ha : SE X W a fa) (hb : SE X W b fb) : SL X W (.BinOp a .Mult b pos) (lRep fa fb) := by
  refine (pe_op op_repR ha hb).imp fun σ H Q ⟨ρ, μ, α, F, r, re, q⟩ => ?_
  refine ⟨ρ, μ, α, F, r, re, q.bind.mono fun w μ1 α1 F1 H1 x1 r1 q1 v rv => ?_⟩
  refine ⟨ρ, μ1, α1, F1, r1, re.ext x1, q1.bind.mono fun u μ2 α2 F2 H2 x2 r2 q2 v' rv' => ?_⟩
  split at q2
  · rename_i xs k e1
    split at q2
    · rename_i hl
      have hl := repOk_ok hl
      obtain ⟨a, vs, rfl, hA, d1⟩ := items_of r2 e1 (rv.ext x2)
      cases rv'
      refine ⟨a, k, vs, rfl, rfl, hA, by omega, by omega, ?_, fun p hp => side_at q2 r2 (x1.trans x2) hp (DqAll.times d1 k.toNat)⟩
      rw [d1.length]
      exact le_line hl.2.2
    · exact q2.elim
  · exact q2.elim
/-- {} -/
def eDic : Ev := fun _ μ => .ok (.d (.dict [])) μ
theorem se_dic {pos : Pos} : SE X W (.Dict [] [] pos) eDic := by
  refine pe_dnewK.imp fun σ H Q ⟨ρ, μ, α, F, r, re, q⟩ => ?_
  intro p hp
  obtain ⟨r2, x2⟩ := r.new (o := .dK []) hp
  exact q.at x2 r2 _ (.dic upd_same)
end
end TL
/-! TL12: rules with their small conditions filled; what a def of the text is; the law's head. -/
namespace TL
open PySem PySem.Spec L2 PyProof.Rows RZ

abbrev GF := List Wv → Mu → Out Wv
/-- a def of the text at its place, and its promise -/
structure Has (P : Program) (w : World) (K : PySem.W.Frag) (mg : Str → Option Value) (base : Heap) (j : Nat) (x : Str) (st : Stmt) (ps : List Str) (n : Nat) (g : GF) (f : Addr) (fd : FuncData) : Prop where
  m : mg x = some (.ref f)
  F : Fun K x x st f fd
  b : Binds K fd ps []
  G : FnG P w K mg base j f fd ps (spG K mg n g)
theorem fng_bad {P : Program} {w : World} {K : PySem.W.Frag} {mg : Str → Option Value} {base : Heap} {j n : Nat} {f : Addr} {fd : FuncData} {ps : List Str} (hn : ps.length = n) : FnG P w K mg base j f fd ps (spG K mg n fun _ _ => .bad) := by
  refine ⟨fun vs H Q E h => by rw [h.len, hn], fun A outer s H args us vs Q E hr hg he hb hv h => ?_⟩
  obtain ⟨ws, μ, α, F, r, rv, q⟩ := h
  unfold arity at q
  split at q <;> exact q.elim
def cF (n : Nat) (g : GF) (as : Av) : Ev := fun ρ μ => (as ρ μ).bind fun ws μ1 => if ws.length = n then g ws μ1 else .bad
section
variable {X : Cx} {W : WX} {x : Str} {p pos : Pos} {e : Expr} {es : List Expr} {as : Av} {j k n : Nat} {st : Stmt} {ps : List Str} {g : GF} {f : Addr} {fd : FuncData}
theorem xV (i : Nat) (hN : X.N[i]? = some x := by rfl) (hv : Vis X.env.scope x := by first | exact Or.inl rfl | exact Or.inr (Or.inl rfl) | exact Or.inr (Or.inr rfl)) (hd : (x == ("__debug__" : Str)) = false := by decide) (hcd : (x == ("__classdict__" : Str)) = false := by decide) : SE X W (.Name x pos) (eVar i) := se_var hN hv hd hcd
theorem xCall (h : Has X.prog X.w X.K X.mg X.base j x st ps n g f fd) (hj : j ≤ k) (hr : Room k X.A) (hg : X.A.guards = some []) (tk : Takes X W) (gl : Gl X x) (ha : SA X W (e :: es) as)
    (hdb : (x == ("__debug__" : Str)) = false := by decide) (he : starEach (e :: es) X.env = (false, eval e X.env) :: starEach es X.env := by rfl) (hpl : (backTo pos (starEach es X.env)).any (·.1) = false := by rfl) :
    SE X W (.Call (.Name x p) (e :: es) [] pos) (cF n g as) := by
  have z := se_call (p := p) (pos := pos) (dv := []) (ds := []) (ws0 := []) (h.G.up hj) hr hg gl h.m h.F.kp h.b .nil (fun _ _ => .nil) tk ha hdb he hpl
  have e : eCall (fun ws μ => arity n g (ws ++ []) μ) as = cF n g as := by
    unfold eCall cF arity
    simp only [List.append_nil]
  rw [e] at z
  exact z
theorem xCall0 (h : Has X.prog X.w X.K X.mg X.base j x st ps n g f fd) (hj : j ≤ k) (hr : Room k X.A) (hg : X.A.guards = some []) (tk : Takes X W) (gl : Gl X x)
    (hdb : (x == ("__debug__" : Str)) = false := by decide) : SE X W (.Call (.Name x p) [] [] pos) (cF n g aNil) := by
  have z := se_call0 (p := p) (pos := pos) (dv := []) (ds := []) (ws0 := []) (h.G.up hj) hr hg gl h.m h.F.kp h.b .nil (fun _ _ => .nil) tk hdb
  have e : eCall (fun ws μ => arity n g (ws ++ []) μ) aNil = cF n g aNil := by
    unfold eCall cF arity
    simp only [List.append_nil]
  rw [e] at z
  exact z
/-- by keywords, in the order pm -/
def cFK (pm : List Nat) (n : Nat) (g : GF) (as : Av) : Ev := fun ρ μ => (as ρ μ).bind fun ws μ1 => if (permL pm ws).length = n then g (permL pm ws) μ1 else .bad
theorem xCallK {kws : List Keyword} {ks : List Str} {pm : List Nat} (h : Has X.prog X.w X.K X.mg X.base j x st ps n g f fd) (kb : KwBinds X.K fd ps ks pm []) (hj : j ≤ k) (hr : Room k X.A) (hg : X.A.guards = some []) (tk : Takes X W) (gl : Gl X x) (ha : SK X W kws as)
    (hall : (backToKw pos (keywordEach kws X.env)).all (·.1.isSome) = true := by rfl) (hks : (backToKw pos (keywordEach kws X.env)).filterMap (·.1) = ks := by rfl) (hdb : (x == ("__debug__" : Str)) = false := by decide)
    (hpl : ((backTo pos (starEach [] X.env)).any (·.1) || (backToKw pos (keywordEach kws X.env)).any (·.1.isNone)) = false := by rfl) : SE X W (.Call (.Name x p) [] kws pos) (cFK pm n g as) := by
  have z := se_callK (p := p) (pos := pos) (dv := []) (ds := []) (ws0 := []) (h.G.up hj) hr hg gl h.m h.F.kp kb .nil (fun _ _ => .nil) tk ha hall hks hdb hpl
  have e : eCall (fun ws μ => arity n g (permL pm (ws ++ [])) μ) as = cFK pm n g as := by
    unfold eCall cFK arity
    simp only [List.append_nil]
  rw [e] at z
  exact z
theorem xBi {id : String} {g : GF} (hc : CallR X (.builtin id) (rnG X.K X.mg g)) (hv : bootBuiltins x = some (.builtin id)) (hm : X.mg x = none) (hg : Gl X x) (ha : SA X W (e :: es) as) (hn : x ≠ "__name__" := by decide) (hdb : (x == ("__debug__" : Str)) = false := by decide)
    (he : starEach (e :: es) X.env = (false, eval e X.env) :: starEach es X.env := by rfl) (hpl : (backTo pos (starEach es X.env)).any (·.1) = false := by rfl) : SE X W (.Call (.Name x p) (e :: es) [] pos) (en g as) := se_bi hc hg hm hv ha hn hdb he hpl
theorem xTy {T : String} {g : GF} (hc : CallR X (.type T) (rnG X.K X.mg g)) (hv : bootBuiltins x = some (.type T)) (hm : X.mg x = none) (hg : Gl X x) (ha : SA X W (e :: es) as) (hn : x ≠ "__name__" := by decide) (hdb : (x == ("__debug__" : Str)) = false := by decide)
    (he : starEach (e :: es) X.env = (false, eval e X.env) :: starEach es X.env := by rfl) (hpl : (backTo pos (starEach es X.env)).any (·.1) = false := by rfl) : SE X W (.Call (.Name x p) (e :: es) [] pos) (en g as) := se_ty hc hg hm hv ha hn hdb he hpl
theorem xList (hm : X.mg "list" = none) (hg : Gl X "list") (ha : SA X W (e :: es) as)
    (he : starEach (e :: es) X.env = (false, eval e X.env) :: starEach es X.env := by rfl) (hpl : (backTo pos (starEach es X.env)).any (·.1) = false := by rfl) : SL X W (.Call (.Name "list" p) (e :: es) [] pos) (lList as) := TL.sl_list hg hm (by decide +kernel) ha (by decide) (by decide) he hpl
theorem bt_len : bootBuiltins "len" = some (.builtin "len") := by decide +kernel
theorem bt_abs : bootBuiltins "abs" = some (.builtin "abs") := by decide +kernel
theorem bt_max : bootBuiltins "max" = some (.builtin "max") := by decide +kernel
theorem bt_min : bootBuiltins "min" = some (.builtin "min") := by decide +kernel
theorem bt_sum : bootBuiltins "sum" = some (.builtin "sum") := by decide +kernel
theorem bt_all : bootBuiltins "all" = some (.builtin "all") := by decide +kernel
theorem bt_any : bootBuiltins "any" = some (.builtin "any") := by decide +kernel
theorem bt_repr : bootBuiltins "repr" = some (.builtin "repr") := by decide +kernel
theorem bt_divmod : bootBuiltins "divmod" = some (.builtin "divmod") := by decide +kernel
theorem bt_int : bootBuiltins "int" = some (.type "int") := by decide +kernel
theorem bt_str : bootBuiltins "str" = some (.type "str") := by decide +kernel
theorem bt_bool : bootBuiltins "bool" = some (.type "bool") := by decide +kernel
theorem bt_tuple : bootBuiltins "tuple" = some (.type "tuple") := by decide +kernel
theorem bt_list : bootBuiltins "list" = some (.type "list") := by decide +kernel
theorem xIsi {T : String} {f : Ev} {p2 : Pos} {y : Str} (hvT : bootBuiltins y = some (.type T)) (hm : X.mg "isinstance" = none) (hmT : X.mg y = none) (hg : Gl X "isinstance") (hgT : Gl X y) (he : SE X W e f) (hn : y ≠ "__name__" := by decide) (hdb : (y == ("__debug__" : Str)) = false := by decide)
    (h1 : starEach (e :: [.Name y p2]) X.env = (false, eval e X.env) :: starEach [.Name y p2] X.env := by rfl) : SE X W (.Call (.Name "isinstance" p) [e, .Name y p2] [] pos) (e1 (gIsi T) f) := se_isi hg hm hgT hmT hvT hn hdb he h1
theorem xA {a : Ev} (ha : SE X W e a) (hr : SA X W es as) (hs : starEach (e :: es) X.env = (false, eval e X.env) :: starEach es X.env := by rfl) : SA X W (e :: es) (aCons a as) := sa_cons ha hr hs
theorem xCmp {a b : Expr} {op : CmpOp} {g : Wv → Wv → Mu → Out Wv} {fa fb : Ev} (ho : OpR X (compareOp op) (r2G X.K X.mg g)) (ha : SE X W a fa) (hb : SE X W b fb) (hm : behindInMarks op b = false := by first | rfl | exact nomark _) : SE X W (.Compare a [op] [b] pos) (e2 g fa fb) := se_cmp ho ha hb hm
theorem xtCmp {a b : Expr} {op : CmpOp} {g : Wv → Wv → Mu → Out Wv} {fa fb : Ev} (ho : OpR X (compareOp op) (r2G X.K X.mg g)) (ha : SE X W a fa) (hb : SE X W b fb) (hm : behindInMarks op b = false := by first | rfl | exact nomark _) : ST X W (.Compare a [op] [b] pos) (tB' (e2 g fa fb)) := st_cmp ho ha hb hm
theorem xtVal {f : Ev} (h : SE X W e f) (he : ∀ whole, isTrue e X.env whole = (do let v ← whole; standAt e.pos; holding [v] (truthy v)) := by intro _; rfl) : ST X W e (tB' f) := st_val h he
theorem xIx {a b : Expr} {fa fb : Ev} (ha : SE X W a fa) (hb : SE X W b fb) (hs : PlainIx b := by intro _ _; rfl) : SE X W (.Subscript a b pos) (e2 gIx fa fb) := se_ix ha hb hs
theorem xSet (i : Nat) {f : Ev} {pos' : Pos} (hN : X.N.Nodup) (he : SE X W e f) (hi : X.N[i]? = some x := by rfl) (hx : Loc X.env.scope x := by first | exact Or.inl rfl | exact Or.inr rfl) (hs : swapsWith e (some (.Name x pos')) pos.line X.env = pure false := by rfl)
    (hf : X.fn x = true ∨ X.env.scope.names.lookup x = some .local := by first | exact Or.inl rfl | exact Or.inr rfl) : SS X W (.Assign [.Name x pos'] e pos) (sAsg f (gNm i)) := ss_set hN hi hx he hs hf
theorem xNm (i : Nat) (hN : X.N.Nodup) (hi : X.N[i]? = some x := by rfl) (hx : Loc X.env.scope x := by first | exact Or.inl rfl | exact Or.inr rfl) (hf : X.fn x = true ∨ X.env.scope.names.lookup x = some .local := by first | exact Or.inl rfl | exact Or.inr rfl) : SG X (.Name x pos) (gNm i) := sg_name hN hi hx hf
theorem xwNm (i : Nat) {os : List Nat} (hN : X.N.Nodup) (hi : X.N[i]? = some x := by rfl) (hx : Loc X.env.scope x := by first | exact Or.inl rfl | exact Or.inr rfl) (hf : X.fn x = true ∨ X.env.scope.names.lookup x = some .local := by first | exact Or.inl rfl | exact Or.inr rfl) (ho : i ∈ os := by decide) : SGw X os (.Name x pos) (gNm i) := sgw_name hN hi hx hf ho
theorem xG {t : Gv} {ts : List Gv} (h1 : SG X e t) (h2 : SGs X es ts) (hs : (assignEach (e :: es) X.env).map (·.2) = assign e X.env :: (assignEach es X.env).map (·.2) := by rfl) : SGs X (e :: es) (t :: ts) := sgs_cons h1 h2 hs
theorem xGT {kk : Nat} {ts : List Gv} (hc : X.calm = true) (h : SGs X es ts) (hn : (assignEach es X.env).length = ts.length := by rfl) (hst : (assignEach es X.env).findIdx? (·.1) = none := by rfl) : SG X (.Tuple es kk pos) (gTp ts) := sg_tup hc h hn hst
theorem xwG {os : List Nat} {t : Gv} {ts : List Gv} (h1 : SGw X os e t) (h2 : SGsw X os es ts) (hs : (assignEach (e :: es) X.env).map (·.2) = assign e X.env :: (assignEach es X.env).map (·.2) := by rfl) : SGsw X os (e :: es) (t :: ts) := sgsw_cons h1 h2 hs
theorem xwGT {os : List Nat} {kk : Nat} {ts : List Gv} (hc : X.calm = true) (h : SGsw X os es ts) (hn : (assignEach es X.env).length = ts.length := by rfl) (hst : (assignEach es X.env).findIdx? (·.1) = none := by rfl) : SGw X os (.Tuple es kk pos) (gTp ts) := sgw_tup hc h hn hst
theorem xGS {o i : Expr} {fo fi : Ev} (ho : SE X (fun _ _ _ _ => False) o fo) (hi : SE X (fun _ _ _ _ => False) i fi) (ha : ∀ v, assign (.Subscript o i pos) X.env v = (do
      let ov ← holding [v] (eval o X.env)
      let iv ← holding [v, ov] (eval i X.env)
      standAt pos
      holding [v, ov, iv] (setItem ov iv v)
      release [v, ov, iv] []) := by intro _; rfl) : SG X (.Subscript o i pos) (gSb fo fi) := sg_sub ho hi ha
theorem xAsg {tg : Expr} {f : Ev} {t : Gv} (he : SE X W e f) (hg : SG X tg t) (hs : swapsWithSole [tg] e pos.line X.env = pure false := by rfl) (hw : swappedStores [tg] e X.env = pure none := by rfl) (h1 : (assignEach [tg] X.env).map (·.2) = [assign tg X.env] := by rfl) :
    SS X W (.Assign [tg] e pos) (sAsg f t) := ss_asg he hg hs hw h1
theorem xExpr {f : Ev} (he : SE X W e f) (hs : swapsWith e none pos.line X.env = pure false := by rfl) : SS X W (.Expr e pos) (sExpr f) := ss_expr he hs
theorem xFor {tg : Expr} {body : List Stmt} {fi : Iv} {t : Gv} {b : Sv} (hp : PassesOwn (model X.prog X.w) X.A X.env X.xe) (hc : X.calm = true) (hi : SI X W tg e fi) (hg : SG X tg t) (hb : SSs X W body b) (hs : ∀ x, foldedSetIterable e X.env x = pure x := by intro _; rfl) : SS X W (.For tg e body [] pos) (sFor fi t b) := ss_for hp hc hi hg hb hs
theorem xR1 {tg a : Expr} (hm : X.mg "range" = none) (hg : Gl X "range") (ha : SA X W [a] as) (hs : starEach [a] X.env = [(false, eval a X.env)] := by rfl) : SI X W tg (.Call (.Name "range" p) [a] [] pos) (iR1 as) := si_r1 hg hm ha hs
theorem xR2 {tg a b : Expr} (hm : X.mg "range" = none) (hg : Gl X "range") (ha : SA X W [a, b] as) (hs : starEach [a, b] X.env = [(false, eval a X.env), (false, eval b X.env)] := by rfl) (hs2 : starEach [b] X.env = [(false, eval b X.env)] := by rfl) : SI X W tg (.Call (.Name "range" p) [a, b] [] pos) (iR2 as) := si_r2 hg hm ha hs hs2
theorem xR3 {tg a b c : Expr} (hm : X.mg "range" = none) (hg : Gl X "range") (ha : SA X W [a, b, c] as) (hs : starEach [a, b, c] X.env = (false, eval a X.env) :: starEach [b, c] X.env := by rfl) (hpl : (backTo pos (starEach [b, c] X.env)).any (·.1) = false := by rfl) :
    SI X W tg (.Call (.Name "range" p) [a, b, c] [] pos) (iR3 as) := si_r3 hg hm ha hs hpl
theorem xEnum {elts : List Expr} {kk : Nat} {tpos : Pos} (hm : X.mg "enumerate" = none) (hg : Gl X "enumerate") (ha : SA X W [e] as) (hs : starEach [e] X.env = [(false, eval e X.env)] := by rfl) : SI X W (.Tuple elts kk tpos) (.Call (.Name "enumerate" p) [e] [] pos) (iEnumS as) := si_enum hg hm ha hs
theorem xZip {e2 : Expr} {elts : List Expr} {kk : Nat} {tpos : Pos} (hm : X.mg "zip" = none) (hg : Gl X "zip") (ha : SA X W [e, e2] as) (hs : starEach [e, e2] X.env = (false, eval e X.env) :: starEach [e2] X.env := by rfl) (hpl : (backTo pos (starEach [e2] X.env)).any (·.1) = false := by rfl) :
    SI X W (.Tuple elts kk tpos) (.Call (.Name "zip" p) [e, e2] [] pos) (iZipS as) := si_zip hg hm ha hs hpl
theorem xLc {elt tg iter : Expr} {ifs : List Expr} {scope : Scope} {fi : Iv} {t : Gv} {c : Bv} {v : Ev} (own : List (Str × Nat)) (hc : X.calm = true) (hN : X.N.Nodup) (hi : SI X W tg iter fi)
    (hg : ∀ s H C cl fp, SGw (Bk X scope s H C cl fp) (own.map (·.2)) tg t) (ht : ∀ s H C cl fp, STs (Bk X scope s H C cl fp) W0 ifs c) (he : ∀ s H C cl fp, SE (Bk X scope s H C cl fp) W0 elt v)
    (ok : BlkOk X.N X.env.scope scope own := by exact blkOk_by (by decide +kernel)) (hs : ∀ x, foldedSetIterable iter X.env x = pure x := by intro _; rfl) : SL X W (.ListComp elt [⟨tg, iter, ifs, 0⟩] scope pos) (lLc fi t c v (own.map (·.2))) := sl_lc hc hN hi ok hg ht he hs
theorem xSetLcN (i : Nat) {y : Str} {py spos : Pos} {elt tg iter : Expr} {ifs : List Expr} {scope : Scope} {fi : Iv} {t : Gv} {c : Bv} {v : Ev} (own : List (Str × Nat)) (hc : X.calm = true) (hN : X.N.Nodup) (hi : SI X W tg iter fi)
    (hg : ∀ s H C cl fp, SGw (Bk X scope s H C cl fp) (own.map (·.2)) tg t) (ht : ∀ s H C cl fp, STs (Bk X scope s H C cl fp) W0 ifs c) (he : ∀ s H C cl fp, SE (Bk X scope s H C cl fp) W0 elt v)
    (hy : X.N[i]? = some y := by rfl) (hyl : X.env.scope.names.lookup y = some .local := by rfl) (hsw : swapsWith (.ListComp elt [⟨tg, iter, ifs, 0⟩] scope pos) (some (.Name y py)) spos.line X.env = pure true := by rfl)
    (ok : BlkOk X.N X.env.scope scope own := by exact blkOk_by (by decide +kernel)) (hs : ∀ x, foldedSetIterable iter X.env x = pure x := by intro _; rfl) : SS X W (.Assign [.Name y py] (.ListComp elt [⟨tg, iter, ifs, 0⟩] scope pos) spos) (sAsg (eNew (lLc fi t c v (own.map (·.2)))) (gNm i)) := ss_setLcN hc hN hy hyl hsw hi ok hg ht he hs
theorem xSetLcF (i : Nat) {y : Str} {py spos : Pos} {elt tg iter : Expr} {ifs : List Expr} {scope : Scope} {fi : Iv} {t : Gv} {c : Bv} {v : Ev} (own : List (Str × Nat)) (hc : X.calm = true) (hN : X.N.Nodup) (hi : SI X W tg iter fi)
    (hg : ∀ s H C cl fp, SGw (Bk X scope s H C cl fp) (own.map (·.2)) tg t) (ht : ∀ s H C cl fp, STs (Bk X scope s H C cl fp) W0 ifs c) (he : ∀ s H C cl fp, SE (Bk X scope s H C cl fp) W0 elt v)
    (hy : X.N[i]? = some y := by rfl) (hyl : X.env.scope.names.lookup y = some .local := by rfl) (hsw : swapsWith (.ListComp elt [⟨tg, iter, ifs, 0⟩] scope pos) (some (.Name y py)) spos.line X.env = pure true := by rfl)
    (ok : BlkOk X.N X.env.scope scope own := by exact blkOk_by (by decide +kernel)) (hs : ∀ x, foldedSetIterable iter X.env x = pure x := by intro _; rfl) : SS X W (.Assign [.Name y py] (.ListComp elt [⟨tg, iter, ifs, 0⟩] scope pos) spos) (sAsg (eFrz (lLc fi t c v (own.map (·.2)))) (gNm i)) := ss_setLcF hc hN hy hyl hsw hi ok hg ht he hs
theorem xApp {o : Expr} {apos cpos : Pos} {fo : Ev} (ho : SE X W o fo) (ha : SA X W (e :: es) as) (hb : attributeBase o "append" X.env (eval o X.env) = eval o X.env := by rfl)
    (hfew : ((backTo cpos (starEach (e :: es) X.env)).all (fun x => !x.1) && (backToKw cpos (keywordEach [] X.env)).all (fun x => x.1.isSome) && decide ((e :: es).length + ([] : List Keyword).length + (if ([] : List Keyword).isEmpty then 0 else 1) < 30)) = true := by rfl)
    (hl : (apos.endLine == cpos.line) = true := by rfl) (hs : starEach (e :: es) X.env = (false, eval e X.env) :: starEach es X.env := by rfl) (hp : (backTo cpos (starEach es X.env)).any (·.1) = false := by rfl) :
    SE X W (.Call (.Attribute o "append" apos) (e :: es) [] cpos) (eMeth1 gApp fo as) := se_app ho ha hb hfew hl hs hp
theorem xPop {o : Expr} {apos cpos : Pos} {fo : Ev} (ho : SE X W o fo) (hb : attributeBase o "pop" X.env (eval o X.env) = eval o X.env := by rfl) (hl : (apos.endLine == cpos.line) = true := by rfl) : SE X W (.Call (.Attribute o "pop" apos) [] [] cpos) (e1 gPop fo) := se_pop ho hb hl
end

/-! ### the law's head -/
theorem DqAll.ofInts {K : PySem.W.Frag} {H : Hp} : ∀ ns : List Int, DqAll K H (ns.map V.int) (ns.map PyData.int)
  | [] => .nil
  | n :: r => .cons (.int n) (DqAll.ofInts r)
section
variable {P : Program} {w : World} {K : PySem.W.Frag} {mg mb : Str → Option Value} {k : Nat} {fa a : Addr} {fd : FuncData} {x : Str} {g : GF} {s₁ : Shared} {vs : List Value} {ns : List Int}
theorem head_call (inK : K.In s₁.heap) (gl : s₁.heap.Ns mainGlobals mg) (bl : s₁.heap.Ns builtinsNs mb) (bb : ∀ y : Str, y ≠ "__name__" → mb y = bootBuiltins y) (nl : s₁.heap.NoLimit) (ng : s₁.gens = #[])
    (ob : s₁.heap.get? a = some { cls := .type "list", data := .seq vs.toArray }) (isI : IntsAre vs ns) (len : ns.length ≤ sizeLine) (room : Room k callerA)
    (F : ∀ base : Heap, K.In base → base.Ns mainGlobals mg → FnG P w K mg base k fa fd [x] (spG K mg 1 g)) (bind : ∀ (s : Shared) (u : Value), BindsTo s fd ⟨[u], []⟩ [(x, u)])
    (sem : arity 1 g [.d (.list (ns.map PyData.int))] [] = .ok (.d (.bool true)) []) :
    codeAny (model P w) callerA (.call (.ref fa) ⟨[.ref a], []⟩) (fun r s' => r = .ok (.ret (.bool true)) ∧ OldK s₁.heap s'.heap ∧ s'.os = s₁.os ∧ AllBare s'.gens) s₁ := by
  have rel := vals_ints isI
  have cnt := isI.length
  have go : ∀ H : Hp, (∀ b, H b ≠ none → b = a) → (H a ≠ none → K.lookup a = none) → HOk P w H s₁.heap → Only H → Ls K H a (ns.map V.int) →
      codeAny (model P w) callerA (.call (.ref fa) ⟨[.ref a], []⟩) (fun r s' => r = .ok (.ret (.bool true)) ∧ OldK s₁.heap s'.heap ∧ s'.os = s₁.os ∧ AllBare s'.gens) s₁ := by
    intro H alone apart hk only lies
    have far : ∀ {b : Addr} {o : Obj}, s₁.heap.get? b = some o → b ≠ a → (hidT s₁.heap H).get? b = some o := fun {b o} got ne => hidT_get got (Classical.byContradiction fun z => ne (alone b z))
    have space : ∀ {b : Addr} {m : Str → Option Value}, s₁.heap.Ns b m → (hidT s₁.heap H).Ns b m := by
      rintro b m ⟨o, es, ep, got, dat, rest⟩
      refine ⟨o, es, ep, far got fun eq => ?_, dat, rest⟩
      rw [eq, ob] at got
      cases got
      exact nomatch dat
    have known : K.In (hidT s₁.heap H) := by
      intro b o kb
      by_cases eq : b = a
      · subst eq
        refine hidT_get (inK _ o kb) (Classical.byContradiction fun z => ?_)
        rw [apart z] at kb
        exact nomatch kb
      · exact far (inK b o kb) eq
    have lim : (hidT s₁.heap H).NoLimit := by
      obtain ⟨mc, l1, l2⟩ := nl
      exact ⟨mc, space l1, l2⟩
    have md : Mod K mg (hidT s₁.heap H) := ⟨known, space gl, ⟨mb, space bl, bb⟩, lim⟩
    have en0 : Env0 P w K mg (hidT s₁.heap H) callerA [] s₁ H :=
      ⟨rfl, md, fun b o z => of_hidT z, Nat.le_of_eq (hidT_size _ _), trivial, fun b z => (nomatch (show b ∈ ([] : List Addr) from z)), hk, .of_eq ng⟩
    have data : Dq K H (.ref a) (.list (ns.map PyData.int)) := .lst lies (DqAll.ofInts ns)
    have want : spG K mg 1 g [.ref a] H (fun v _ => v = .bl true) (fun _ _ _ => False) := by
      refine ⟨[.d (.list (ns.map PyData.int))], [], [], H, ⟨rfl, Same.refl _, fun i c z => ?_, fun i j b c c' z => ?_, fun b z => (nomatch z)⟩, .cons data .nil, ?_⟩
      · simp at z
      · simp at z
      · rw [sem]
        intro α' F' H' _ _ v rv
        have rv : Dq K F' v (.bool true) := rv
        cases rv
        rfl
    refine codeAny_mono ((F _ known (space gl)).run callerA [] s₁ H ⟨[.ref a], []⟩ [.ref a] [.ref a] _ _ room rfl en0 (bind s₁ (.ref a)) (.cons rfl .nil) want) fun r s' got => ?_
    rcases r with er | fl
    · obtain ⟨_, _, _, _, _, _, _, _, _, _, _, _, z⟩ := got
      exact z.elim
    · cases fl with
      | ret u =>
        obtain ⟨v, H', os, bare, un, hk', ru, rfl⟩ := got
        cases (show u = Value.bool true from ru)
        refine ⟨rfl, OldK.of_keep fun b o z => ?_, os, bare⟩
        rcases only b with n | ⟨o', xs, fz⟩
        · exact un.keep b o z n (fun y => nomatch (show b ∈ ([] : List Addr) from y)) (by simp)
        · have fz' := un.frzs b o' _ fz
          have g1 := (hk b _ fz).1
          have g2 := (hk' b _ fz').1
          rw [g1] at z
          cases z
          exact g2
      | _ => exact False.elim got
  cases lk : K.lookup a with
  | some o =>
    have got := inK a o lk
    rw [ob] at got
    cases got
    exact go (fun _ => none) (fun b z => absurd rfl z) (fun z => absurd rfl z) (fun b u z => nomatch (show (none : Option HO) = some u from z)) (fun _ => .inl rfl)
      (.inr ⟨vs, _, lk, by rw [List.length_map]; exact len, rel⟩)
  | none =>
    have at_ : ∀ b u, (if b = a then some (HO.frz { cls := .type "list", data := .seq vs.toArray } (.lst (ns.map V.int))) else none) = some u → b = a ∧ u = HO.frz { cls := .type "list", data := .seq vs.toArray } (.lst (ns.map V.int)) := fun b u z => by
      split at z
      · exact ⟨by assumption, (Option.some.inj z).symm⟩
      · exact nomatch z
    refine go (fun b => if b = a then some (.frz { cls := .type "list", data := .seq vs.toArray } (.lst (ns.map V.int))) else none) (fun b z => ?_) (fun _ => lk) (fun b u z => ?_) (fun b => ?_) (.inl (.inr ⟨_, if_pos rfl⟩))
    · by_cases eq : b = a
      · exact eq
      · exact absurd (if_neg eq) z
    · obtain ⟨rfl, rfl⟩ := at_ b u z
      exact ⟨ob, by rw [List.length_map]; exact len, vs, _, rel, ob⟩
    · by_cases eq : b = a
      · exact .inr ⟨_, _, if_pos eq⟩
      · exact .inl (if_neg eq)
/-- what is left of a law behind k_head: each def's promise, and that the law's own function tells True -/
theorem walk_G {l : PySem.W.OpenLaw} {n k : Nat} {q : Program} {loose : List Str} {XP : (Str → Option Value) → Heap → Prop} {YP : World → Heap → Prop} {d : DefRec} {K : Params → PySem.W.Frag} {x : Str} {g : GF}
    (hn : l.most = some n) (hn2 : n ≤ sizeLine) (hdf : d.params.defaults = []) (room : Room k callerA) (hY : ∀ (w : World) (h : Heap), YP w h → (K w.params).In h)
    (F : ∀ (w : World) (mg : Str → Option Value) (fa : Addr) (h : Heap), (K w.params).In h → h.Ns mainGlobals mg → mg d.name = some (.ref fa) →
      ∃ fd : FuncData, (∀ (s : Shared) (u : Value), BindsTo s fd ⟨[u], []⟩ [(x, u)]) ∧ ∀ base : Heap, (K w.params).In base → base.Ns mainGlobals mg → FnG l.prog w (K w.params) mg base k fa fd [x] (spG (K w.params) mg 1 g))
    (sem : ∀ ns : List Int, ns.length ≤ n → (∀ z ∈ ns, Builtin.Int.intBits z ≤ 1048576) → arity 1 g [.d (.list (ns.map PyData.int))] [] = .ok (.d (.bool true)) []) :
    PySem.W.WalkO q loose XP YP l.row.toRowW d [] (fun f vs => PySem.call f vs) := by
  refine Att.attach_callB hn hdf fun w s₀ s₁ mg mb fa o pm cd doc a vs ns G Y _ _ _ named obj isI many bits gens => ?_
  have inK := hY w _ Y
  obtain ⟨fd, bind, prom⟩ := F w mg fa _ inK G.T.g named
  exact head_call inK G.T.g G.T.b G.T.builtins G.T.nolimit gens obj isI (Nat.le_trans many hn2) room prom bind (sem ns many bits)
end
end TL
/-! TL13: tuple * int, gcd, pairs, constants of the module, defaults. -/
namespace TL
open PySem PySem.Spec L2 PyProof.Rows RZ
/-- one time, or nothing to repeat: the object itself -/
theorem tuple_mul_same (l : Addr) (items : Array Value) (n : Nat) (dd : Option Addr) (sl : Array (Option Value)) (x : Int) (u : Tok) (c0 : (decide (x < -(2 ^ 63)) || decide (x ≥ 2 ^ 63)) = false) (c1 : (items.isEmpty || x == 1) = true) :
    Meets (Builtin.«tuple.__mul__» ⟨[.ref l, .int x u], []⟩) (fun _ R s => s.heap.get? l = some { cls := .type "tuple", dict := dd, data := .seq items n, slots := sl } ∧ R (.ok (.ret (Value.ref l))) s) :=
  .of_wp fun prog w A R s h => by
    obtain ⟨hp, g, d, tk, os⟩ := s
    obtain ⟨hl, h⟩ := h
    have f1 := AutoSeq1.idx_int
    wp_walk using wpAny_loadPart' hl
    repeat (first
      | (refine wpAny_ite_false (decide_eq_false (by rw [c0]; exact Bool.false_ne_true)) ?_; wp_walk using wpAny_loadPart' hl)
      | (refine wpAny_ite_true (decide_eq_true c1) ?_; wp_walk using wpAny_loadPart' hl))
    exact ⟨_, rfl, h⟩
theorem tuple_mul_none (l : Addr) (items : Array Value) (n : Nat) (dd : Option Addr) (sl : Array (Option Value)) (x : Int) (u : Tok) (c0 : (decide (x < -(2 ^ 63)) || decide (x ≥ 2 ^ 63)) = false) (c1 : (items.isEmpty || x == 1) = false) (c2 : (decide (x ≤ 0) || items.isEmpty) = true) :
    Meets (Builtin.«tuple.__mul__» ⟨[.ref l, .int x u], []⟩) (fun _ R s => s.heap.get? l = some { cls := .type "tuple", dict := dd, data := .seq items n, slots := sl } ∧
      R (.ok (.ret (Value.ref s.heap.objs.size))) { s with heap := s.heap.push { cls := Value.type "tuple", data := Data.seq #[] }, toks := s.toks }) :=
  .of_wp fun prog w A R s h => by
    obtain ⟨hp, g, d, tk, os⟩ := s
    obtain ⟨hl, h⟩ := h
    have f1 := AutoSeq1.idx_int
    wp_walk using wpAny_loadPart' hl
    repeat (first
      | (refine wpAny_ite_false (decide_eq_false (by rw [c0]; exact Bool.false_ne_true)) ?_; wp_walk using wpAny_loadPart' hl)
      | (refine wpAny_ite_false (decide_eq_false (by rw [c1]; exact Bool.false_ne_true)) ?_; wp_walk using wpAny_loadPart' hl)
      | (refine wpAny_ite_true (decide_eq_true c2) ?_; wp_walk using wpAny_loadPart' hl))
    exact ⟨_, rfl, h⟩
noncomputable def gTimesT (a b : Wv) (μ : Mu) : Out Wv :=
  match a, b with
  | .d (.tuple xs), .d (.int k) => if -1000 ≤ k ∧ k ≤ 1000 ∧ xs.length ≤ 1000 then .ok (.d (.tuple (List.replicate k.toNat xs).flatten)) μ else .bad
  | _, _ => gTimes a b μ
section
variable {X : Cx} {W : WX}
theorem op_gTimesT : OpR X (binaryOp .Mult) (r2G X.K X.mg gTimesT) := by
  intro pins s σ H x y v u Q I rx ry ⟨μ, α, Fz, w1, w2, r, h1, h2, q⟩
  unfold gTimesT at q
  split at q
  · rename_i xs k
    split at q
    · rename_i hk
      cases h1 with
      | @tup a vs _ t1 d1 =>
        cases h2
        have tH := sameT r.sub t1
        by_cases hbig : xs ≠ [] ∧ 2 ≤ k
        · refine op_repT pins s σ H _ _ v u Q I rx ry ⟨a, k, vs, rfl, rfl, tH, fun e => hbig.1 ?_, hbig.2, hk.2.1, by rw [d1.length]; exact hk.2.2, fun p hp => ?_⟩
          · have := d1.length
            rw [e] at this
            exact List.eq_nil_of_length_eq_zero this.symm
          · obtain ⟨r2, x2⟩ := r.new (o := .tup (List.replicate k.toNat vs).flatten) hp
            exact q.at x2 r2 _ (.tup (.inl (.inl upd_same)) (DqAll.times (d1.mono x2.fro) k.toNat))
        · cases rx
          obtain ⟨t, rfl⟩ := ry
          obtain ⟨its, ri, ⟨⟨cls, dd, data, sl⟩, ho, hc, n, hd⟩, hs⟩ := I.tuple tH
          simp only at hc hd
          subst hc hd
          have hle : its.length = xs.length := by rw [← ri.length, d1.length]
          have c0 : (decide (k < -(2 ^ 63)) || decide (k ≥ 2 ^ 63)) = false := by
            rw [decide_eq_false (by omega), decide_eq_false (by omega)] <;> rfl
          by_cases h1 : (its.toArray.isEmpty || k == 1) = true
          · have hval : (List.replicate k.toNat xs).flatten = xs := by
              rcases Bool.or_eq_true_iff.mp h1 with e | e
              · have e0 : its.length = 0 := by simpa [Array.isEmpty] using e
                have : xs = [] := List.eq_nil_of_length_eq_zero (by omega)
                subst this
                simp
              · have : k = 1 := by simpa using e
                subst this
                simp
            rw [hval] at q
            refine wpAny_binaryOp_repeat_ref (T := "tuple") (U := "int") (by decide) ⟨_, ho, rfl⟩ (fun s' => typeIs_int s' k t) L2.noFill_tuple_mul F.fills_int_mul F.slot_int_rmul L2.repeat_tuple F.slot_int_index.lookup
              (call_meets F.slot_int_rmul (typeIs_int s k t) F.entry_int_rmul (F.args_int_rmul_2 _ _) (L2.int_rmul_tuple k t a its.toArray n dd sl)
                ⟨ho, rfl, ⟨_, ho, rfl⟩, call_meets F.slot_tuple_mul ⟨_, ho, rfl⟩ F.entry_tuple_mul (F.args_tuple_mul_2 _ _) (tuple_mul_same a its.toArray n dd sl k t c0 h1) ⟨ho, ?_⟩⟩)
            exact ⟨V.ref a, H, I, rfl, q.now r _ (.tup t1 d1)⟩
          · rw [Bool.not_eq_true] at h1
            have hne : its.toArray.isEmpty = false := by
              cases z : its.toArray.isEmpty with
              | false => rfl
              | true => rw [z] at h1; cases h1
            have hxs : xs ≠ [] := fun e => by
              rw [e] at hle
              have : its = [] := List.eq_nil_of_length_eq_zero hle
              rw [this] at hne
              cases hne
            have hk1 : k ≠ 1 := fun e => by
              rw [e] at h1
              simp at h1
            have hk0 : k ≤ 0 := by
              have : ¬ 2 ≤ k := fun z => hbig ⟨hxs, z⟩
              omega
            have hval : (List.replicate k.toNat xs).flatten = [] := by
              have : k.toNat = 0 := by omega
              rw [this]
              rfl
            rw [hval] at q
            have c2 : (decide (k ≤ 0) || its.toArray.isEmpty) = true := by
              rw [decide_eq_true hk0]
              rfl
            refine wpAny_binaryOp_repeat_ref (T := "tuple") (U := "int") (by decide) ⟨_, ho, rfl⟩ (fun s' => typeIs_int s' k t) L2.noFill_tuple_mul F.fills_int_mul F.slot_int_rmul L2.repeat_tuple F.slot_int_index.lookup
              (call_meets F.slot_int_rmul (typeIs_int s k t) F.entry_int_rmul (F.args_int_rmul_2 _ _) (L2.int_rmul_tuple k t a its.toArray n dd sl)
                ⟨ho, rfl, ⟨_, ho, rfl⟩, call_meets F.slot_tuple_mul ⟨_, ho, rfl⟩ F.entry_tuple_mul (F.args_tuple_mul_2 _ _) (tuple_mul_none a its.toArray n dd sl k t c0 h1 c2) ⟨ho, ?_⟩⟩)
            have nf := I.hok.fresh (Nat.le_refl s.heap.objs.size)
            obtain ⟨r2, x2⟩ := r.new (o := .tup []) nf
            refine ⟨.ref s.heap.objs.size, _, I.laid (t' := s.toks) (o := .tup []) (fun b ob q => Heap.get?_push_of_some _ q) (Nat.le_refl _) ?_, rfl, q.at x2 r2 _ (.tup (.inl (.inl upd_same)) .nil)⟩
            exact ⟨Nat.zero_le _, [], .nil, IsTup.new _ _⟩
    · exact q.elim
  · exact op_gTimes pins s σ H x y v u Q I rx ry ⟨μ, α, Fz, w1, w2, r, h1, h2, q⟩

/-! ### a function of the library bound at the top; pairs -/
variable {x y : Str} {p pos : Pos} {e : Expr} {es : List Expr} {as : Av}
theorem xBif {id : String} {g : GF} (hc : CallR X (.builtin id) (rnG X.K X.mg g)) (hm : X.mg x = some (.builtin id)) (hg : Gl X x) (ha : SA X W (e :: es) as) (hdb : (x == ("__debug__" : Str)) = false := by decide)
    (he : starEach (e :: es) X.env = (false, eval e X.env) :: starEach es X.env := by rfl) (hpl : (backTo pos (starEach es X.env)).any (·.1) = false := by rfl) : SE X W (.Call (.Name x p) (e :: es) [] pos) (en g as) := se_bif hc hg hm ha hdb he hpl
theorem xPar (i j : Nat) {a b : Expr} {px py pt : Pos} {kt k2 : Nat} {pt2 : Pos} (hc : X.calm = true) (hN : X.N.Nodup) (ha : SA X W [a, b] as) (hi : X.N[i]? = some x := by rfl) (hj : X.N[j]? = some y := by rfl) (hij : i ≠ j := by decide)
    (hx : X.env.scope.names.lookup x = some .local := by rfl) (hy : X.env.scope.names.lookup y = some .local := by rfl)
    (hw : swappedStores [.Tuple [.Name x px, .Name y py] kt pt] (.Tuple [a, b] k2 pt2) X.env = pure (some [x, y]) := by rfl) (hs : swapsWithSole [.Tuple [.Name x px, .Name y py] kt pt] (.Tuple [a, b] k2 pt2) pos.line X.env = pure false := by rfl) :
    SS X W (.Assign [.Tuple [.Name x px, .Name y py] kt pt] (.Tuple [a, b] k2 pt2) pos) (sPar i j as) := ss_par hc hN hi hj hij hx hy ha hw hs
def sNever : Sv := fun _ _ => .bad
theorem ss_nev {st : Stmt} : SS X W st sNever := ss_never
/-- a constant of the module -/
def Con (K : PySem.W.Frag) (mg : Str → Option Value) (x : Str) (c : PyData) : Prop := ∃ v u, mg x = some u ∧ RelV v u ∧ ∀ F, Dq K F v c
theorem xCon {c : PyData} (h : Con X.K X.mg x c) (hg : Gl X x) (hd : (x == ("__debug__" : Str)) = false := by decide) : SE X W (.Name x pos) (eK c) := by
  obtain ⟨v, u, hm, r, hc⟩ := h
  exact se_glob hg hm r hc hd
end
end TL
/-! TL14: enumerate over a tuple. -/
namespace TL
open PySem PySem.Spec L2 PyProof.Rows RZ
open AutoSeq1 (wpAny_loadPart')
theorem meets_enum_tup (l : Addr) (items : Array Value) (n : Nat) (dct : Option Addr) (sl : Array (Option Value)) :
    Meets (Builtin.«enumerate.__new__» ⟨[.type "enumerate", .ref l], []⟩) (fun _ R s => s.heap.get? l = some { cls := .type "tuple", dict := dct, data := .seq items n, slots := sl } ∧
      R (.ok (.ret (.ref (s.heap.push { cls := .type "tuple_iterator", data := .fields #[.ref l, .int 0 0] }).objs.size)))
        { s with heap := (s.heap.push { cls := .type "tuple_iterator", data := .fields #[.ref l, .int 0 0] }).push { cls := .type "enumerate", data := .fields #[.none, .bool false, .ref s.heap.objs.size, rawInt 0, .none, .none] } }) :=
  .of_wp fun prog w A R s h => by
    obtain ⟨hp, g, d, tk, os⟩ := s
    obtain ⟨hl, h⟩ := h
    have hsub := sub_enumerate
    have hT : Heap.IsTuple (Shared.heap ⟨hp, g, d, tk, os⟩) l items := ⟨_, hl, rfl, n, rfl⟩
    wp_walk using wpAny_loadPart' hl
    refine wpAny_stack_any fun st => wpAny_pure ?_
    split
    · rename_i c _ _ _ _ _
      cases (c == Value.type "enumerate")
      · wp_walk using wpAny_loadPart' hl, wpAny_pyIter_tuple hT
        exact ⟨_, rfl, h⟩
      · wp_walk using wpAny_loadPart' hl, wpAny_pyIter_tuple hT
        exact ⟨_, rfl, h⟩
    · wp_walk using wpAny_loadPart' hl, wpAny_pyIter_tuple hT
      exact ⟨_, rfl, h⟩
theorem call_enum_tup {prog : Program} {w : World} {A : Around} {E : Value → Shared → Prop} {s : Shared} {l : Addr} {items : Array Value} {Q : Value → Shared → Prop} (hT : s.heap.IsTuple l items)
    (h : ∀ h', IsEnum h' (s.heap.objs.size + 1) s.heap.objs.size 0 .none → h'.IsTupleIter s.heap.objs.size l 0 → h'.objs.size = s.heap.objs.size + 2 →
      (∀ b o, s.heap.get? b = some o → h'.get? b = some o) → Q (.ref (s.heap.objs.size + 1)) { s with heap := h' }) :
    wpAny (model prog w) A (call (.type "enumerate") [.ref l]) Q E s := by
  obtain ⟨⟨c, dct, dt, sl⟩, hl, hc, n, hd⟩ := hT
  simp only at hc hd
  subst hc hd
  refine callType_new F.called_enumerate (by decide) (F.typeCall_enumerate_1 _) (F.newCall_enumerate_1 _) (fun obj => F.args_object_init_2 obj _) F.entry_enumerate_new
    (meets_enum_tup l items n dct sl) ⟨hl, ?_⟩
  have two : ((s.heap.push { cls := .type "tuple_iterator", data := .fields #[.ref l, .int 0 0] }).push { cls := .type "enumerate", data := .fields #[.none, .bool false, .ref s.heap.objs.size, rawInt 0, .none, .none] }).get? (s.heap.objs.size + 1) =
      some { cls := .type "enumerate", data := .fields #[.none, .bool false, .ref s.heap.objs.size, rawInt 0, .none, .none] } := by
    have := Heap.get?_push_size (s.heap.push { cls := .type "tuple_iterator", data := .fields #[.ref l, .int 0 0] }) (o := { cls := .type "enumerate", data := .fields #[.none, .bool false, .ref s.heap.objs.size, rawInt 0, .none, .none] }) rfl
    rw [Heap.size_push] at this
    exact this
  show _ ∧ _
  rw [Heap.size_push]
  exact ⟨⟨_, two, rfl⟩, h _ two ⟨_, Heap.get?_push_of_some _ (Heap.get?_push_size _ rfl), rfl, rfl⟩ (by rw [Heap.size_push, Heap.size_push]) fun b o x => Heap.get?_push_of_some _ (Heap.get?_push_of_some _ x)⟩
/-- the tuple at a, each item in a new pair -/
def IteT (K : PySem.W.Frag) (a : Addr) : It :=
  ⟨fun i H => ∃ (xs : List V) (x : V), SqT K H a xs ∧ xs[i]? = some x, fun i H v H' => ∃ T x, v = .ref T ∧ H T = none ∧ H' = upd H T (.tup [.int (i : Nat), x]) ∧ ∀ xs, SqT K H a xs → xs[i]? = some x, fun i H => ∃ xs : List V, SqT K H a xs ∧ xs.length ≤ i⟩
theorem turn_enumT {P : Program} {w : World} {K : PySem.W.Frag} {elts : List Expr} {kk : Nat} {tpos : Pos} (a e it : Addr) (hae : a ≠ e) (hai : a ≠ it) :
    Turn P w K (.Tuple elts kk tpos) (IteT K a) [e, it] e (fun i h => (∃ old, IsEnum h e it ((i : Nat) : Int) old) ∧ h.IsTupleIter it a i ∧ e ≠ it) where
  mem := by simp
  obj := fun i h st b hb => by
    obtain ⟨⟨old, he⟩, ⟨o, ho, hc, hd⟩, _⟩ := st
    have two : b = e ∨ b = it := by simpa using hb
    rcases two with z | z
    · rw [z]
      exact ⟨_, he, fun v q => nomatch q⟩
    · rw [z]
      exact ⟨o, ho, fun v q => by rw [hd] at q; cases q⟩
  keep := fun i h h' st k => ⟨⟨st.1.choose, k e (by simp) _ st.1.choose_spec⟩, st.2.1.at fun o q => k it (by simp) o q, st.2.2⟩
  item := by
    intro X hP hw hK hc i pins s σ H E I hf st hg
    subst hP hw hK
    obtain ⟨⟨old, he⟩, hit, hne⟩ := st
    obtain ⟨xs, x, hq, hx⟩ := hg
    obtain ⟨its, rv, p, hz⟩ := I.tuple hq
    obtain ⟨u, hu, ru⟩ := rv.get hx
    have hel : e < s.heap.objs.size := Heap.lt_size he
    have hil : it < s.heap.objs.size := by
      obtain ⟨_, q, _⟩ := hit
      exact Heap.lt_size q
    have pT : s.heap.IsTuple a its.toArray := p
    have D := Draws.tuple (prog := X.prog) (w := X.w) (A := X.A.in1) (by rw [show X.A.in1.handled = X.A.handled from rfl]; exact I.ok.hd hc) it a hai its.toArray
    have hlt : i < its.toArray.size := by
      rw [List.size_toArray]
      exact (List.getElem?_eq_some_iff.mp hu).1
    refine wpAny_pyNext_enum_itemD D he ⟨hit, pT⟩ hlt hne (by simp; exact ⟨hne, Ne.symm hae⟩) fun y h' tk hy ho st' hT hsz hk => ?_
    have ey : y = u := by
      have hy : its.toArray[i]? = some y := hy
      rw [List.getElem?_toArray, hu] at hy
      exact (Option.some.inj hy).symm
    subst ey
    refine ⟨_, rfl, wpAny_letOwnedTupleGo_enum (s := { s with heap := h', toks := tk + 1 }) ho fun h2 he2 sb => ?_⟩
    have hT2 : h2.get? s.heap.objs.size = some { cls := .type "tuple", data := .seq #[.int i tk, y] } := (sb.2 _ (Nat.ne_of_gt hel)).trans hT
    have new : ObjOk X.prog X.w (upd H s.heap.objs.size (.tup [.int (i : Nat), x])) h2 s.heap.objs.size (.tup [.int (i : Nat), x]) :=
      ⟨by show 2 ≤ sizeLine; decide, [.int i tk, y], .cons ⟨_, rfl⟩ (.cons ru .nil), ⟨_, hT2, rfl, _, rfl⟩⟩
    have I1 : Inv X pins σ (upd H s.heap.objs.size (.tup [.int (i : Nat), x])) { s with heap := h2, toks := tk + 1 } :=
      I.turnedNew (ch := [e, it]) (fun b ob hb q => (sb.2 b (fun z => hb (by simp [z]))).trans (hk b ob (fun z => hb (by simp [z])) (fun z => hb (by simp [z])) q)) hf (Nat.le_refl _) new
    refine ⟨.ref s.heap.objs.size, _, I1, rfl, ⟨_, x, rfl, I.hok.fresh (Nat.le_refl _), rfl, fun ys hy => by rw [I.tuple_inj hy hq]; exact hx⟩, ⟨⟨y, ?_⟩, st'.1.at fun o q => (sb.2 it (Ne.symm hne)).trans q, hne⟩, fun b hb => ?_⟩
    · have e1 : ((i + 1 : Nat) : Int) = (i : Int) + 1 := by omega
      rw [e1]
      exact he2
    · have two : b = e ∨ b = it := by simpa using hb
      have hb' : b < s.heap.objs.size := by
        rcases two with z | z
        · rw [z]; exact hel
        · rw [z]; exact hil
      rw [upd_ne (Nat.ne_of_lt hb')]
      exact (hf b hb).1
  done := by
    intro X hP hw hK hc i pins s σ H E I hf st hg
    subst hP hw hK
    obtain ⟨⟨old, he⟩, hit, hne⟩ := st
    obtain ⟨xs, hq, hx⟩ := hg
    obtain ⟨its, rv, p, hz⟩ := I.tuple hq
    have pT : s.heap.IsTuple a its.toArray := p
    have hl := rv.length
    have over : its.toArray[i]? = none := by
      simp
      omega
    have D : Draws X.prog X.w X.A.in1 it [it, a] i (fun _ _ => False) (fun j h => j = i ∧ h.IsTupleIter it a i ∧ h.IsTuple a its.toArray) :=
      { live := fun _ _ st => let ⟨o, ho, _⟩ := st.2.1; ⟨o, ho⟩
        frame := fun _ _ _ st hk => ⟨st.1, st.2.1.at fun o e => hk it (by simp) o e, st.2.2.at fun o e => hk a (by simp) o e⟩
        item := fun j s Q E hj st hQ => absurd st.1 (by omega)
        done := fun s Q E st hE => wpAny_nextOf_tuple_end (by rw [show X.A.in1.handled = X.A.handled from rfl]; exact I.ok.hd hc) st.2.1 st.2.2 over hE }
    refine wpAny_pyNext_enum_endD D he ⟨rfl, hit, pT⟩ fun h' eb => ⟨rfl, I.turned (t' := s.toks) (fun b o hb q => eb b o hb q) (hf it (by simp)).1 (hf it (by simp)).2.1 (hf it (by simp)).2.2.2.1 (hf it (by simp)).2.2.2.2.1 (hf it (by simp)).2.2.2.2.2⟩
  self := fun A i s Q E st h => wpAny_pyIter_enum st.1.choose_spec h
def iEnumA (K : PySem.W.Frag) (ta : TA) : TI := fun σ H R => ta σ H fun vs H1 => ∃ a xs, vs = [.ref a] ∧ ((SqL K H1 a xs ∧ R (Ite K a) H1) ∨ (SqT K H1 a xs ∧ R (IteT K a) H1))
theorem pi_enumA {X : Cx} {e : Expr} {ta : TA} {p pos tpos : Pos} {elts : List Expr} {kk : Nat} (hg : Gl X "enumerate") (hm : X.mg "enumerate" = none) (ha : PA X [e] ta) (hs : starEach [e] X.env = [(false, eval e X.env)]) :
    PI X (.Tuple elts kk tpos) (.Call (.Name "enumerate" p) [e] [] pos) (iEnumA X.K ta) := by
  refine ⟨fun pins s σ H R I h => ?_⟩
  refine Call_ (ld_blt I hg hm boot_enumerate (PyProof.Rows.callWith_type1 (thn (ha.run pos pins s σ H _ I h) fun us s1 ⟨vs, H1, I1, r1, q1⟩ => ?_) hs rfl))
  obtain ⟨a, xs, ex, q1⟩ := q1
  subst ex
  cases r1 with
  | cons r rr =>
    cases rr
    cases r
    have own : ∀ b, b ∈ [s1.heap.objs.size + 1, s1.heap.objs.size] → FpOk X pins H1 b := fun b hb => by
      have two : b = s1.heap.objs.size + 1 ∨ b = s1.heap.objs.size := by simpa using hb
      have hle : s1.heap.objs.size ≤ b := by omega
      exact I1.fpOk hle (I1.hok.fresh hle)
    rcases q1 with ⟨hq, q⟩ | ⟨hq, q⟩
    · obtain ⟨its, rv, p', hz⟩ := I1.list hq
      exact call_enumerate_list p'.isList fun h' he hit hsz hk => wpAny_pyIter_enum he
        ⟨_, [s1.heap.objs.size + 1, s1.heap.objs.size], _, _, H1, rfl, I1.kept (t' := s1.toks) hk, turn_enum a (s1.heap.objs.size + 1) s1.heap.objs.size, ⟨⟨.none, he⟩, hit, Nat.succ_ne_self _⟩, own, q⟩
    · obtain ⟨its, rv, p', hz⟩ := I1.tuple hq
      have pT : s1.heap.IsTuple a its.toArray := p'
      have la : a < s1.heap.objs.size := by
        obtain ⟨o, ho, _⟩ := pT
        exact Heap.lt_size ho
      exact call_enum_tup pT fun h' he hit hsz hk => wpAny_pyIter_enum he
        ⟨_, [s1.heap.objs.size + 1, s1.heap.objs.size], _, _, H1, rfl, I1.kept (t' := s1.toks) hk, turn_enumT a (s1.heap.objs.size + 1) s1.heap.objs.size (Nat.ne_of_lt (Nat.lt_succ_of_lt la)) (Nat.ne_of_lt la), ⟨⟨.none, he⟩, hit, Nat.succ_ne_self _⟩, own, q⟩
def seqOf (w : Wv) (μ : Mu) : Option Its :=
  match w with
  | .d (.tuple c) => some ⟨c, []⟩
  | _ => lstOf w μ
def iEnumT (as : Av) : Iv := fun ρ μ => (as ρ μ).bind fun ws μ1 => match ws with
  | [w] => (oOf (seqOf w μ1) μ1).bind fun i μ2 => .ok ⟨enumL i.xs, i.tie⟩ μ2
  | _ => .bad
theorem jok_enumT {K : PySem.W.Frag} {α0 : List Addr} {F0 H0 : Hp} {a : Addr} {i : Its} (k : TKn K α0 F0 H0 a i) : JOk K α0 F0 H0 (IteT K a) ⟨enumL i.xs, i.tie⟩ := by
  refine ⟨fun α F μ H r e t => ?_⟩
  obtain ⟨vs, hs, d⟩ := k.at_ α F μ H r e t
  have hl : (enumL i.xs).length = i.xs.length := by unfold enumL; rw [List.length_mapIdx]
  refine ⟨fun n hn => ?_, fun n hn => ⟨vs, hs, by rw [d.length, ← hl]; exact hn⟩, fun n y x H' hy hyl => ?_⟩
  · have hn' : n < vs.length := by rw [d.length, ← hl]; exact hn
    exact ⟨vs, vs[n], hs, List.getElem?_eq_getElem hn'⟩
  · obtain ⟨T, u, rfl, hT, rfl, q⟩ := hyl
    obtain ⟨z, hz, dz⟩ := d.getV (q vs hs)
    have hy : (enumL i.xs)[n]? = some y := hy
    unfold enumL at hy
    rw [List.getElem?_mapIdx, hz] at hy
    cases hy
    obtain ⟨r2, x2⟩ := r.new (o := .tup [.int (n : Nat), u]) hT
    exact ⟨_, r2, x2, .tup (.inl (.inl upd_same)) (.cons (.int _) (.cons (dz.mono x2.fro) .nil))⟩
section
variable {X : Cx} {W : WX}
theorem xEnumT {e : Expr} {as : Av} {p pos tpos : Pos} {elts : List Expr} {kk : Nat} (hm : X.mg "enumerate" = none) (hg : Gl X "enumerate") (ha : SA X W [e] as) (hs : starEach [e] X.env = [(false, eval e X.env)] := by rfl) :
    SI X W (.Tuple elts kk tpos) (.Call (.Name "enumerate" p) [e] [] pos) (iEnumT as) := by
  refine (pi_enumA hg hm ha hs).imp fun σ H R ⟨ρ, μ, α, F, r, re, q⟩ => ?_
  refine ⟨ρ, μ, α, F, r, re, q.bind.mono fun ws μ1 α1 F1 H1 x1 r1 q1 vs rv => ?_⟩
  split at q1
  · rename_i w
    cases rv with
    | cons a1 t1 =>
      cases t1
      unfold seqOf at q1
      split at q1
      · obtain ⟨a, rfl, ⟨us, hu⟩, k⟩ := tkn r1 a1 rfl
        exact ⟨a, us, rfl, .inr ⟨hu, gp.now (c := (⟨enumL _, []⟩ : Its)) q1 r1 _ (jok_enumT k)⟩⟩
      · cases e1 : lstOf w μ1 with
        | none =>
          rw [e1] at q1
          exact q1.elim
        | some i =>
          rw [e1] at q1
          obtain ⟨a, rfl, ⟨us, hu⟩, k⟩ := lkn r1 a1 e1
          exact ⟨a, us, rfl, .inl ⟨hu, gp.now (c := (⟨enumL i.xs, i.tie⟩ : Its)) q1 r1 _ (jok_enum k)⟩⟩
  · exact q1.elim
end
end TL
/-! TLP: what the combinators do, as rules for simp; loops over data. -/
namespace TL
open PySem PySem.Spec L2
section
variable {ρ : Rho} {μ : Mu}
@[simp] theorem x_next : sNext ρ μ = .ok (.nx ρ) μ := rfl
@[simp] theorem x_seq {a b : Sv} : sSeq a b ρ μ = (a ρ μ).bind (seqK b) := rfl
@[simp] theorem x_seqn {b : Sv} {ρ' : Rho} : seqK b (.nx ρ') μ = b ρ' μ := rfl
@[simp] theorem x_seqr {b : Sv} {w : Wv} : seqK b (.rt w) μ = .ok (.rt w) μ := rfl
@[simp] theorem x_seqb {b : Sv} {ρ' : Rho} : seqK b (.bk ρ') μ = .ok (.bk ρ') μ := rfl
@[simp] theorem x_seqc {b : Sv} {ρ' : Rho} : seqK b (.ct ρ') μ = .ok (.ct ρ') μ := rfl
@[simp] theorem x_seqe {b : Sv} {x : Str} {ws : List Wv} {ρ' : Rho} : seqK b (.er x ws ρ') μ = .ok (.er x ws ρ') μ := rfl
@[simp] theorem x_ret {f : Ev} : sRet f ρ μ = liftO ρ (f ρ μ) fun w μ1 => .ok (.rt w) μ1 := rfl
@[simp] theorem x_retZ {f : Ev} : sRetZ f ρ μ = liftO ρ ((f ρ μ).bind frz) fun w μ1 => .ok (.rt w) μ1 := rfl
@[simp] theorem x_expr {f : Ev} : sExpr f ρ μ = liftO ρ (f ρ μ) fun _ μ1 => .ok (.nx ρ) μ1 := rfl
@[simp] theorem x_if {c : Bv} {a b : Sv} : sIf c a b ρ μ = liftO ρ (c ρ μ) fun t μ1 => if t = true then a ρ μ1 else b ρ μ1 := rfl
@[simp] theorem x_asg {f : Ev} {t : Gv} : sAsg f t ρ μ = liftO ρ (f ρ μ) fun w μ1 => (calm (t w ρ μ1)).bind fun ρ' μ2 => .ok (.nx ρ') μ2 := rfl
@[simp] theorem x_nm {i : Nat} {w : Wv} : gNm i w ρ μ = .ok (ρ.set i (some w)) μ := rfl
@[simp] theorem x_calm {γ : Type} {c : γ} : calm (.ok c μ) = .ok c μ := rfl
@[simp] theorem x_calmb {γ : Type} : calm (.bad : Out γ) = .bad := rfl
@[simp] theorem x_tp {ts : List Gv} {xs : List PyData} : gTp ts (.d (.tuple xs)) ρ μ = if xs.length = ts.length then gSeq ts (xs.map Wv.d) ρ μ else .bad := rfl
@[simp] theorem x_sq0 : gSeq [] [] ρ μ = .ok ρ μ := rfl
@[simp] theorem x_sq1 {t : Gv} {ts : List Gv} {w : Wv} {ws : List Wv} : gSeq (t :: ts) (w :: ws) ρ μ = (t w ρ μ).bind fun ρ' μ' => gSeq ts ws ρ' μ' := rfl
@[simp] theorem x_sb {o i : Ev} {w : Wv} : gSb o i w ρ μ = (o ρ μ).bind fun ow μ1 => (i ρ μ1).bind fun iw μ2 => (setC ow iw w μ2).bind fun _ μ3 => .ok ρ μ3 := rfl
@[simp] theorem x_k {x : PyData} : eK x ρ μ = .ok (.d x) μ := rfl
@[simp] theorem x_e1 {g : Wv → Mu → Out Wv} {a : Ev} : e1 g a ρ μ = (a ρ μ).bind fun w μ1 => calm (g w μ1) := rfl
@[simp] theorem x_e2 {g : Wv → Wv → Mu → Out Wv} {a b : Ev} : e2 g a b ρ μ = (a ρ μ).bind fun w μ1 => (b ρ μ1).bind fun u μ2 => calm (g w u μ2) := rfl
@[simp] theorem x_en {g : GF} {as : Av} : en g as ρ μ = (as ρ μ).bind fun ws μ1 => calm (g ws μ1) := rfl
@[simp] theorem x_nil : aNil ρ μ = .ok [] μ := rfl
@[simp] theorem x_cons {a : Ev} {as : Av} : aCons a as ρ μ = (a ρ μ).bind fun w μ1 => (as ρ μ1).bind fun ws μ2 => .ok (w :: ws) μ2 := rfl
@[simp] theorem x_cF {n : Nat} {g : GF} {as : Av} : cF n g as ρ μ = (as ρ μ).bind fun ws μ1 => if ws.length = n then g ws μ1 else .bad := rfl
@[simp] theorem x_cFK {pm : List Nat} {n : Nat} {g : GF} {as : Av} : cFK pm n g as ρ μ = (as ρ μ).bind fun ws μ1 => if (permL pm ws).length = n then g (permL pm ws) μ1 else .bad := rfl
@[simp] theorem x_tup {as : Av} : eTup as ρ μ = (lDisp as ρ μ).bind fun c μ1 => .ok (.d (.tuple c)) μ1 := rfl
@[simp] theorem x_frz {l : Lv} : eFrz l ρ μ = (l ρ μ).bind fun c μ1 => .ok (.d (.list c)) μ1 := rfl
@[simp] theorem x_new {l : Lv} : eNew l ρ μ = (l ρ μ).bind fun c μ1 => .ok (.r μ1.length) (μ1 ++ [some c]) := rfl
@[simp] theorem x_disp {as : Av} : lDisp as ρ μ = (as ρ μ).bind fun ws μ1 => match allD ws with
  | some c => if c.length ≤ 16777216 then .ok c μ1 else .bad
  | none => .bad := rfl
@[simp] theorem x_all0 : allD [] = some [] := rfl
@[simp] theorem x_all1 {x : PyData} {ws : List Wv} : allD (.d x :: ws) = (allD ws).map (x :: ·) := rfl
@[simp] theorem x_wB {b : Bool} : wB (.d (.bool b)) μ = .ok b μ := rfl
@[simp] theorem x_tB {a : Ev} : tB' a ρ μ = (a ρ μ).bind wB := rfl
@[simp] theorem x_bnot {a : Bv} : bNot a ρ μ = (a ρ μ).bind fun b μ1 => .ok (!b) μ1 := rfl
@[simp] theorem x_band {a b : Bv} : bAnd a b ρ μ = (a ρ μ).bind fun c μ1 => if c = true then b ρ μ1 else .ok false μ1 := rfl
@[simp] theorem x_bor {a b : Bv} : bOr a b ρ μ = (a ρ μ).bind fun c μ1 => if c = true then .ok true μ1 else b ρ μ1 := rfl
@[simp] theorem x_and {a b : Ev} : eAnd a b ρ μ = (a ρ μ).bind fun w μ0 => (wB w μ0).bind fun c μ1 => if c = true then b ρ μ1 else .ok (.d (.bool false)) μ1 := rfl
@[simp] theorem x_or {a b : Ev} : eOr a b ρ μ = (a ρ μ).bind fun w μ0 => (wB w μ0).bind fun c μ1 => if c = true then .ok (.d (.bool true)) μ1 else b ρ μ1 := rfl
@[simp] theorem x_not {a : Ev} : eNot a ρ μ = (a ρ μ).bind fun w μ0 => (wB w μ0).bind fun c μ1 => .ok (.d (.bool (!c))) μ1 := rfl
@[simp] theorem x_eif {c : Bv} {a b : Ev} : eIf c a b ρ μ = (c ρ μ).bind fun c μ1 => if c = true then a ρ μ1 else b ρ μ1 := rfl
@[simp] theorem x_lst {as : Av} : lList as ρ μ = (as ρ μ).bind fun ws μ1 => calm (gList ws μ1) := rfl
@[simp] theorem x_sl {a : Ev} {lo hi : Option Ev} : eSl a lo hi ρ μ = (a ρ μ).bind fun w μ1 => (oPart lo ρ μ1).bind fun l μ2 => (oPart hi ρ μ2).bind fun h μ3 => calm (gSl w l h μ3) := rfl
@[simp] theorem x_pn : oPart none ρ μ = .ok none μ := rfl
@[simp] theorem x_ps {f : Ev} : oPart (some f) ρ μ = (f ρ μ).bind fun w μ1 => match w with
    | .d (.int i) => .ok (some i) μ1
    | _ => .bad := rfl
@[simp] theorem x_dic : eDic ρ μ = .ok (.d (.dict [])) μ := rfl
@[simp] theorem x_iany {f : Ev} : iAny f ρ μ = (f ρ μ).bind fun w μ1 => oOf (itsOf w μ1) μ1 := rfl
@[simp] theorem x_oof {γ : Type} {c : γ} : oOf (some c) μ = .ok c μ := rfl
@[simp] theorem x_yes : bYes ρ μ = .ok true μ := rfl
@[simp] theorem x_dd {x : PyData} : dataOf μ (.d x) = some x := rfl
theorem x_dr {k : Nat} {c : Cell} (h : μ[k]? = some (some c)) : dataOf μ (.r k) = some (.list c) := by
  show (μ[k]?.join).map PyData.list = _
  rw [h]
  rfl
theorem x_var {i : Nat} {w : Wv} (h : ρ[i]? = some (some w)) : eVar i ρ μ = .ok w μ := by
  unfold eVar
  rw [h]
@[simp] theorem x_v0 {o : Wv} {r : Rho} : eVar 0 (some o :: r) μ = .ok o μ := rfl
@[simp] theorem x_vs {i : Nat} {o : Option Wv} {r : Rho} : eVar (i + 1) (o :: r) μ = eVar i r μ := rfl
@[simp] theorem x_ni {i : Int} : numOf (.d (.int i)) = some i := rfl
@[simp] theorem x_nb {b : Bool} : numOf (.d (.bool b)) = some (bi b) := rfl
theorem get_set {k : Nat} {c c' : Option Cell} (h : μ[k]? = some c) : (μ.set k c')[k]? = some c' := List.getElem?_set_self (List.getElem?_eq_some_iff.mp h).1
@[simp] theorem v_plus {i j : Int} : gPlus (.d (.int i)) (.d (.int j)) μ = .ok (.d (.int (i + j))) μ := rfl
@[simp] theorem v_plusT {xs ys : List PyData} : gPlus (.d (.tuple xs)) (.d (.tuple ys)) μ = if xs.length + ys.length ≤ 16777216 then .ok (.d (.tuple (xs ++ ys))) μ else .bad := rfl
@[simp] theorem v_plusL {xs ys : List PyData} : gPlus (.d (.list xs)) (.d (.list ys)) μ = if xs.length + ys.length ≤ 16777216 then .ok (.d (.list (xs ++ ys))) μ else .bad := rfl
@[simp] theorem v_plusB {b : Bool} {j : Int} : gPlus (.d (.bool b)) (.d (.int j)) μ = .ok (.d (.int (bi b + j))) μ := rfl
@[simp] theorem v_sub {i j : Int} : gSub (.d (.int i)) (.d (.int j)) μ = .ok (.d (.int (i - j))) μ := rfl
@[simp] theorem v_subB {i : Int} {b : Bool} : gSub (.d (.int i)) (.d (.bool b)) μ = .ok (.d (.int (i - bi b))) μ := rfl
@[simp] theorem v_subB' {j : Int} {b : Bool} : gSub (.d (.bool b)) (.d (.int j)) μ = .ok (.d (.int (bi b - j))) μ := rfl
theorem bits_small {i : Int} (h1 : -1000000000000000000 < i) (h2 : i < 1000000000000000000) : Builtin.Int.intBits i ≤ 64 := by
  unfold Builtin.Int.intBits
  split
  · omega
  · have hn : i.natAbs < 2 ^ 63 := by omega
    by_cases h0 : i.natAbs = 0
    · rw [h0]
      decide
    · have := (Nat.log2_lt h0).mpr hn
      omega
theorem v_times {i j : Int} (h1 : -1000000000000000000 < i) (h2 : i < 1000000000000000000) (h3 : -1000000000000000000 < j) (h4 : j < 1000000000000000000) : gTimes (.d (.int i)) (.d (.int j)) μ = .ok (.d (.int (i * j))) μ := by
  show (if mulOk i j = true then Out.ok (wI (i * j)) μ else Out.bad) = _
  rw [if_pos]
  · unfold mulOk
    have a := bits_small h1 h2
    have b := bits_small h3 h4
    exact @decide_eq_true _ (Classical.propDecidable _) (by omega)
theorem v_mod {i j : Int} (h : 0 < j) : gMod (.d (.int i)) (.d (.int j)) μ = .ok (.d (.int (i % j))) μ := by
  show (if j = 0 then Out.bad else Out.ok (wI (i.fmod j)) μ) = _
  rw [if_neg (by omega), Int.fmod_eq_emod_of_nonneg _ (by omega)]
theorem no_pylong {i j : Int} (h : 0 < j) (h2 : j < 1000000000000000000) : Builtin.divisionGoesByPylong i j = false := by
  unfold Builtin.divisionGoesByPylong
  have b := bits_small (i := j) (by omega) h2
  unfold Builtin.Int.intBits at b
  have hj : (j == 0) = false := by
    rw [beq_eq_false_iff_ne]
    omega
  rw [hj] at b
  simp only [hj, Bool.false_eq_true, if_false] at b ⊢
  have : ¬ (j.natAbs.log2 / 30 + 1 > 300) := by omega
  simp [this]
theorem v_div {i j : Int} (h : 0 < j) (h2 : j < 1000000000000000000) : gDiv (.d (.int i)) (.d (.int j)) μ = .ok (.d (.int (i / j))) μ := by
  show (if j = 0 ∨ Builtin.divisionGoesByPylong i j = true then Out.bad else Out.ok (wI (i.fdiv j)) μ) = _
  rw [if_neg, Int.fdiv_eq_ediv_of_nonneg _ (by omega)]
  · rw [no_pylong h h2]
    simp
    omega
theorem v_divmod {i j : Int} (h : 0 < j) (h2 : j < 1000000000000000000) : gDivmod [.d (.int i), .d (.int j)] μ = .ok (.d (.tuple [.int (i / j), .int (i % j)])) μ := by
  show (if 0 < j ∧ Builtin.divisionGoesByPylong i j = false then Out.ok (wT [.int (i / j), .int (i % j)]) μ else Out.bad) = _
  rw [if_pos ⟨h, no_pylong h h2⟩]
@[simp] theorem v_int {i : Int} : gInt [.d (.int i)] μ = .ok (.d (.int i)) μ := rfl
@[simp] theorem v_abs {i : Int} : gAbs [.d (.int i)] μ = .ok (.d (.int (if i < 0 then -i else i))) μ := rfl
@[simp] theorem v_neg {i : Int} : gNeg (.d (.int i)) μ = .ok (.d (.int (-i))) μ := rfl
@[simp] theorem v_cmp {p : Int → Int → Bool} {i j : Int} : gCmp p (.d (.int i)) (.d (.int j)) μ = .ok (.d (.bool (p i j))) μ := rfl
theorem v_ixr {k : Nat} {c : Cell} {i : Int} (h : μ[k]? = some (some c)) : gIx (.r k) (.d (.int i)) μ = match atI c i with
    | some x => .ok (.d x) μ
    | none => .bad := by
  unfold gIx
  rw [x_dr h] <;> rfl
@[simp] theorem v_ixt {xs : List PyData} {i : Int} : gIx (.d (.tuple xs)) (.d (.int i)) μ = match atI xs i with
    | some x => .ok (.d x) μ
    | none => .bad := rfl
@[simp] theorem v_ixl {xs : List PyData} {i : Int} : gIx (.d (.list xs)) (.d (.int i)) μ = match atI xs i with
    | some x => .ok (.d x) μ
    | none => .bad := rfl
theorem v_setc {k : Nat} {c : Cell} {j : Int} {x : PyData} (h : μ[k]? = some (some c)) : setC (.r k) (.d (.int j)) (.d x) μ = match ixN c.length j with
      | some n => .ok () (μ.set k (some (c.set n x)))
      | none => .bad := by
  unfold setC
  simp only [h] <;> (cases ixN c.length j <;> rfl)
@[simp] theorem v_isi {T : String} {x : PyData} : gIsi T (.d x) μ = if kinds.contains T = true then .ok (.d (.bool (subTy (tyName x) T))) μ else .bad := rfl
@[simp] theorem v_lent {xs : List PyData} : gLen [.d (.tuple xs)] μ = .ok (.d (.int xs.length)) μ := rfl
@[simp] theorem v_lenl {xs : List PyData} : gLen [.d (.list xs)] μ = .ok (.d (.int xs.length)) μ := rfl
@[simp] theorem v_tupl {xs : List PyData} : gTuple [.d (.list xs)] μ = .ok (.d (.tuple xs)) μ := rfl
@[simp] theorem v_tupt {xs : List PyData} : gTuple [.d (.tuple xs)] μ = .ok (.d (.tuple xs)) μ := rfl
theorem v_tupr {k : Nat} {c : Cell} (h : μ[k]? = some (some c)) : gTuple [.r k] μ = .ok (.d (.tuple c)) μ := by
  show (match dataOf μ (.r k) with
    | some (.list xs) => Out.ok (wT xs) μ
    | some (.tuple xs) => Out.ok (wT xs) μ
    | _ => Out.bad) = _
  rw [x_dr h]
@[simp] theorem v_listt {xs : List PyData} : gList [.d (.tuple xs)] μ = .ok xs μ := rfl
@[simp] theorem v_listl {xs : List PyData} : gList [.d (.list xs)] μ = .ok xs μ := rfl
theorem at_n {β : Type} {xs : List β} {x : β} {n : Nat} (h : xs[n]? = some x) : atI xs (n : Int) = some x := by
  unfold atI ixN
  rw [if_pos (by omega), if_pos (by have := (List.getElem?_eq_some_iff.mp h).1; omega)]
  exact h
@[simp] theorem at_0 {β : Type} {x : β} {xs : List β} : atI (x :: xs) 0 = some x := at_n (n := 0) rfl
@[simp] theorem at_1 {β : Type} {x y : β} {xs : List β} : atI (x :: y :: xs) 1 = some y := at_n (n := 1) rfl
@[simp] theorem at_2 {β : Type} {x y z : β} {xs : List β} : atI (x :: y :: z :: xs) 2 = some z := at_n (n := 2) rfl
@[simp] theorem ix_0 {n : Nat} : ixN (n + 1) 0 = some 0 := by
  unfold ixN
  rw [if_pos (by omega), if_pos (by omega)]
  rfl
@[simp] theorem ix_1 {n : Nat} : ixN (n + 1 + 1) 1 = some 1 := by
  unfold ixN
  rw [if_pos (by omega), if_pos (by omega)]
  rfl
@[simp] theorem ix_2 {n : Nat} : ixN (n + 1 + 1 + 1) 2 = some 2 := by
  unfold ixN
  rw [if_pos (by omega), if_pos (by omega)]
  rfl
@[simp] theorem ix_03 : ixN 3 0 = some 0 := ix_0
@[simp] theorem ix_13 : ixN 3 1 = some 1 := ix_1
@[simp] theorem ix_23 : ixN 3 2 = some 2 := ix_2
theorem at_last {x : PyData} {xs : List PyData} : atI (x :: xs) (-1) = some ((x :: xs).getLast (List.cons_ne_nil _ _)) := by
  have h : ((x :: xs) : List PyData) = (x :: xs).dropLast ++ [(x :: xs).getLast (List.cons_ne_nil _ _)] := (List.dropLast_concat_getLast _).symm
  generalize (x :: xs).getLast (List.cons_ne_nil _ _) = y at h ⊢
  rw [h]
  exact atI_last _ _
theorem at_nat {xs : List PyData} {i : Int} (h1 : 0 ≤ i) (h2 : i < xs.length) : ∃ x, atI xs i = some x ∧ x ∈ xs := by
  unfold atI ixN
  rw [if_pos h1, if_pos h2]
  have hl : i.toNat < xs.length := by omega
  exact ⟨xs[i.toNat], by simp [hl], List.getElem_mem hl⟩
/-- behind a def -/
@[simp] theorem leave_d {n : Nat} {x : PyData} : leave n (.d x) μ = .ok (.d x) (μ.take n) := rfl
@[simp] theorem take_self : μ.take μ.length = μ := List.take_length
@[simp] theorem take_set {k : Nat} {c : Option Cell} : (μ.set k c).take μ.length = μ.set k c := List.take_of_length_le (by rw [List.length_set]; exact Nat.le_refl _)
@[simp] theorem take_app {l : Mu} : (μ ++ l).take μ.length = μ := by simp
theorem lt_of_get {k : Nat} {c : Option Cell} (h : μ[k]? = some c) : k < μ.length := (List.getElem?_eq_some_iff.mp h).1
/-- data are told; of the cells only the k-th may change -/
def Tl (μ : Mu) (k : Nat) (o : Out Wv) (P : PyData → Cell → Prop) : Prop := match o with
  | .ok (.d x) μ' => ∃ c', μ' = μ.set k (some c') ∧ P x c'
  | _ => False
theorem Tl.ok {k : Nat} {o : Out Wv} {P : PyData → Cell → Prop} (h : Tl μ k o P) : ∃ x c', o = .ok (.d x) (μ.set k (some c')) ∧ P x c' := by
  unfold Tl at h
  split at h
  · obtain ⟨c', rfl, p⟩ := h
    exact ⟨_, c', rfl, p⟩
  · exact h.elim
end
end TL
/-! TLQ: loops over data. -/
namespace TL
open PySem PySem.Spec L2
@[simp] theorem tied_nil {xs : Cell} {μ : Mu} : tied ⟨xs, []⟩ μ := fun p h => (nomatch h)
theorem loopC_run {Iv : Nat → Mu → Prop} {R : PyData → PyData → Prop} {xs0 : Cell} {i : Nat} {e : Ev} {ρ : Rho} : ∀ (xs acc : Cell) (n : Nat) (μ : Mu), Iv n μ → acc.length + xs.length ≤ 16777216 →
    (∀ x ∈ xs, ∀ n μ, Iv n μ → ∃ y μ', e (ρ.set i (some (.d x))) μ = .ok (.d y) μ' ∧ Iv (n + 1) μ' ∧ R x y) →
    ∃ ys μ', loopC ⟨xs0, []⟩ (gNm i) bYes e ρ xs acc μ = .ok (acc ++ ys) μ' ∧ Iv (n + xs.length) μ' ∧ ys.length = xs.length ∧ ∀ (k : Nat) x y, xs[k]? = some x → ys[k]? = some y → R x y
  | [], acc, n, μ, h, _, _ => by
    refine ⟨[], μ, ?_, h, rfl, fun k x y h1 => by simp at h1⟩
    unfold loopC
    rw [if_pos tied_nil, List.append_nil]
  | x :: xs, acc, n, μ, h, hl, he => by
    obtain ⟨y, μ1, e1, h1, r1⟩ := he x List.mem_cons_self n μ h
    rw [List.length_cons] at hl
    obtain ⟨ys, μ2, e2, h2, l2, r2⟩ := loopC_run (xs0 := xs0) xs (acc ++ [y]) (n + 1) μ1 h1 (by rw [List.length_append, List.length_singleton]; omega) fun z hz => he z (List.mem_cons_of_mem _ hz)
    refine ⟨y :: ys, μ2, ?_, by rw [List.length_cons]; rw [show n + (xs.length + 1) = n + 1 + xs.length by omega]; exact h2, by rw [List.length_cons, List.length_cons, l2], fun k a b h3 h4 => ?_⟩
    · unfold loopC
      rw [if_pos tied_nil]
      simp only [x_nm, x_calm, Out.bind_ok, x_yes, if_true, e1]
      unfold lcPut
      simp only [Out.bind_ok]
      rw [if_pos (by omega)]
      simp only [Out.bind_ok, e2, List.append_assoc, List.singleton_append]
    · cases k with
      | zero =>
        simp at h3 h4
        subst h3 h4
        exact r1
      | succ k => exact r2 k a b (by simpa using h3) (by simpa using h4)
theorem lc_run {Iv : Nat → Mu → Prop} {R : PyData → PyData → Prop} {it : TL.Iv} {xs : Cell} {i : Nat} {e : Ev} {ρ : Rho} {μ μ1 : Mu} (hit : it ρ μ = .ok ⟨xs, []⟩ μ1) (h0 : Iv 0 μ1) (hl : xs.length ≤ 16777216)
    (he : ∀ x ∈ xs, ∀ n μ, Iv n μ → ∃ y μ', e ((ρ.set i none).set i (some (.d x))) μ = .ok (.d y) μ' ∧ Iv (n + 1) μ' ∧ R x y) :
    ∃ ys μ', lLc it (gNm i) bYes e [i] ρ μ = .ok ys μ' ∧ Iv xs.length μ' ∧ ys.length = xs.length ∧ ∀ (k : Nat) x y, xs[k]? = some x → ys[k]? = some y → R x y := by
  obtain ⟨ys, μ', e1, h1, l1, r1⟩ := loopC_run (Iv := Iv) (R := R) (xs0 := xs) (i := i) (e := e) (ρ := ρ.set i none) xs [] 0 μ1 h0 (by simpa using hl) he
  rw [Nat.zero_add] at h1
  refine ⟨ys, μ', ?_, h1, l1, r1⟩
  show (it ρ μ).bind (fun i1 μ1 => loopC i1 (gNm i) bYes e (wipeR ρ [i]) i1.xs [] μ1) = _
  rw [hit]
  exact e1
/-- each item's value by itself -/
theorem lc_map {g : PyData → PyData} {it : TL.Iv} {xs : Cell} {i : Nat} {e : Ev} {ρ : Rho} {μ μ1 : Mu} (hit : it ρ μ = .ok ⟨xs, []⟩ μ1) (hl : xs.length ≤ 16777216)
    (he : ∀ x ∈ xs, e ((ρ.set i none).set i (some (.d x))) μ1 = .ok (.d (g x)) μ1) : lLc it (gNm i) bYes e [i] ρ μ = .ok (xs.map g) μ1 := by
  obtain ⟨ys, μ', e1, rfl, l1, r1⟩ := lc_run (Iv := fun _ μ => μ = μ1) (R := fun x y => y = g x) hit rfl hl fun x hx n μ h => by
    subst h
    exact ⟨g x, μ, he x hx, rfl, rfl⟩
  rw [e1]
  congr 1
  apply List.ext_getElem?
  intro k
  rw [List.getElem?_map]
  by_cases hk : k < xs.length
  · have hk' : k < ys.length := by omega
    rw [List.getElem?_eq_getElem hk, List.getElem?_eq_getElem hk', r1 k _ _ (List.getElem?_eq_getElem hk) (List.getElem?_eq_getElem hk')]
    rfl
  · rw [List.getElem?_eq_none (by omega), List.getElem?_eq_none (by omega)]
    rfl
/-- the same with any target -/
theorem loopCT_run {Iv : Nat → Mu → Prop} {R : PyData → PyData → Prop} {xs0 : Cell} {t : Gv} {e : Ev} {ρ : Rho} : ∀ (xs acc : Cell) (n : Nat) (μ : Mu), Iv n μ → acc.length + xs.length ≤ 16777216 →
    (∀ x ∈ xs, ∀ n μ, Iv n μ → ∃ ρ1 μ1 y μ', t (.d x) ρ μ = .ok ρ1 μ1 ∧ e ρ1 μ1 = .ok (.d y) μ' ∧ Iv (n + 1) μ' ∧ R x y) →
    ∃ ys μ', loopC ⟨xs0, []⟩ t bYes e ρ xs acc μ = .ok (acc ++ ys) μ' ∧ Iv (n + xs.length) μ' ∧ ys.length = xs.length ∧ ∀ (k : Nat) x y, xs[k]? = some x → ys[k]? = some y → R x y
  | [], acc, n, μ, h, _, _ => by
    refine ⟨[], μ, ?_, h, rfl, fun k x y h1 => by simp at h1⟩
    unfold loopC
    rw [if_pos tied_nil, List.append_nil]
  | x :: xs, acc, n, μ, h, hl, he => by
    obtain ⟨ρ1, μ0, y, μ1, e0, e1, h1, r1⟩ := he x List.mem_cons_self n μ h
    rw [List.length_cons] at hl
    obtain ⟨ys, μ2, e2, h2, l2, r2⟩ := loopCT_run (xs0 := xs0) xs (acc ++ [y]) (n + 1) μ1 h1 (by rw [List.length_append, List.length_singleton]; omega) fun z hz => he z (List.mem_cons_of_mem _ hz)
    refine ⟨y :: ys, μ2, ?_, by rw [List.length_cons]; rw [show n + (xs.length + 1) = n + 1 + xs.length by omega]; exact h2, by rw [List.length_cons, List.length_cons, l2], fun k a b h3 h4 => ?_⟩
    · unfold loopC
      rw [if_pos tied_nil, e0]
      simp only [x_calm, Out.bind_ok, x_yes, if_true, e1]
      unfold lcPut
      simp only [Out.bind_ok]
      rw [if_pos (by omega)]
      simp only [Out.bind_ok, e2, List.append_assoc, List.singleton_append]
    · cases k with
      | zero =>
        simp at h3 h4
        subst h3 h4
        exact r1
      | succ k => exact r2 k a b (by simpa using h3) (by simpa using h4)
theorem lcT_run {Iv : Nat → Mu → Prop} {R : PyData → PyData → Prop} {it : TL.Iv} {xs : Cell} {t : Gv} {os : List Nat} {e : Ev} {ρ : Rho} {μ μ1 : Mu} (hit : it ρ μ = .ok ⟨xs, []⟩ μ1) (h0 : Iv 0 μ1) (hl : xs.length ≤ 16777216)
    (he : ∀ x ∈ xs, ∀ n μ, Iv n μ → ∃ ρ1 μ1 y μ', t (.d x) (wipeR ρ os) μ = .ok ρ1 μ1 ∧ e ρ1 μ1 = .ok (.d y) μ' ∧ Iv (n + 1) μ' ∧ R x y) :
    ∃ ys μ', lLc it t bYes e os ρ μ = .ok ys μ' ∧ Iv xs.length μ' ∧ ys.length = xs.length ∧ ∀ (k : Nat) x y, xs[k]? = some x → ys[k]? = some y → R x y := by
  obtain ⟨ys, μ', e1, h1, l1, r1⟩ := loopCT_run (Iv := Iv) (R := R) (xs0 := xs) (t := t) (e := e) (ρ := wipeR ρ os) xs [] 0 μ1 h0 (by simpa using hl) he
  rw [Nat.zero_add] at h1
  refine ⟨ys, μ', ?_, h1, l1, r1⟩
  show (it ρ μ).bind (fun i1 μ1 => loopC i1 t bYes e (wipeR ρ os) i1.xs [] μ1) = _
  rw [hit]
  exact e1
/-- each item's value by itself, known by place -/
theorem lcT_eq {zs : Cell} {it : TL.Iv} {xs : Cell} {t : Gv} {os : List Nat} {e : Ev} {ρ : Rho} {μ μ1 : Mu} (hit : it ρ μ = .ok ⟨xs, []⟩ μ1) (hl : xs.length ≤ 16777216) (hz : zs.length = xs.length)
    (he : ∀ (k : Nat) x z, xs[k]? = some x → zs[k]? = some z → ∃ ρ1, t (.d x) (wipeR ρ os) μ1 = .ok ρ1 μ1 ∧ e ρ1 μ1 = .ok (.d z) μ1) : lLc it t bYes e os ρ μ = .ok zs μ1 := by
  have gen : ∀ (ys ws acc : Cell), acc.length + ys.length ≤ 16777216 → ws.length = ys.length → (∀ (k : Nat) x z, ys[k]? = some x → ws[k]? = some z → ∃ ρ1, t (.d x) (wipeR ρ os) μ1 = .ok ρ1 μ1 ∧ e ρ1 μ1 = .ok (.d z) μ1) →
      loopC ⟨xs, []⟩ t bYes e (wipeR ρ os) ys acc μ1 = .ok (acc ++ ws) μ1 := by
    intro ys
    induction ys with
    | nil =>
      intro ws acc _ hw _
      cases ws with
      | nil =>
        unfold loopC
        rw [if_pos tied_nil, List.append_nil]
      | cons w ws => cases hw
    | cons y ys ih =>
      intro ws acc hl hw hk
      cases ws with
      | nil => cases hw
      | cons w ws =>
        obtain ⟨ρ1, e0, e1⟩ := hk 0 y w rfl rfl
        rw [List.length_cons] at hl
        have := ih ws (acc ++ [w]) (by rw [List.length_append, List.length_singleton]; omega) (by simpa using hw) fun k x z h1 h2 => hk (k + 1) x z (by simpa using h1) (by simpa using h2)
        unfold loopC
        rw [if_pos tied_nil, e0]
        simp only [x_calm, Out.bind_ok, x_yes, if_true, e1]
        unfold lcPut
        simp only [Out.bind_ok]
        rw [if_pos (by omega)]
        simp only [Out.bind_ok, this, List.append_assoc, List.singleton_append]
  show (it ρ μ).bind (fun i1 μ1 => loopC i1 t bYes e (wipeR ρ os) i1.xs [] μ1) = _
  rw [hit]
  exact gen xs zs [] (by simpa using hl) hz he
theorem v_allm {β : Type} {xs : List β} {p : β → Bool} {μ : Mu} : gAll [.d (.list (xs.map fun x => .bool (p x)))] μ = .ok (.d (.bool (xs.all p))) μ := by
  have e : (xs.map fun x => PyData.bool (p x)) = (xs.map p).map PyData.bool := by rw [List.map_map]; rfl
  unfold gAll
  simp only [x_dd, e, boolsOf_bools]
  show Out.ok (Wv.d (.bool _)) μ = _
  congr 3
  rw [List.all_map]
  rfl
theorem v_anym {β : Type} {xs : List β} {p : β → Bool} {μ : Mu} : gAny [.d (.list (xs.map fun x => .bool (p x)))] μ = .ok (.d (.bool (xs.any p))) μ := by
  have e : (xs.map fun x => PyData.bool (p x)) = (xs.map p).map PyData.bool := by rw [List.map_map]; rfl
  unfold gAny
  simp only [x_dd, e, boolsOf_bools]
  show Out.ok (Wv.d (.bool _)) μ = _
  congr 3
  rw [List.any_map]
  rfl
theorem loopF_run {P : Nat → Rho → Mu → Prop} {xs0 : Cell} {t : Gv} {b : Sv} : ∀ (xs : Cell) (n : Nat) (ρ : Rho) (μ : Mu), P n ρ μ →
    (∀ (k : Nat) x ρ μ, xs[k]? = some x → P (n + k) ρ μ → ∃ ρ1 μ1 ρ' μ', t (.d x) ρ μ = .ok ρ1 μ1 ∧ b ρ1 μ1 = .ok (.nx ρ') μ' ∧ P (n + k + 1) ρ' μ') →
    ∃ ρ' μ', loopF ⟨xs0, []⟩ t b xs ρ μ = .ok (.nx ρ') μ' ∧ P (n + xs.length) ρ' μ'
  | [], n, ρ, μ, h, _ => by
    refine ⟨ρ, μ, ?_, h⟩
    unfold loopF
    rw [if_pos tied_nil]
  | x :: xs, n, ρ, μ, h, hb => by
    obtain ⟨ρ1, μ1, ρ2, μ2, e1, e2, h2⟩ := hb 0 x ρ μ rfl h
    obtain ⟨ρ3, μ3, e3, h3⟩ := loopF_run (P := P) (xs0 := xs0) (t := t) (b := b) xs (n + 1) ρ2 μ2 h2 fun k y ρ μ hk hp => by
      have := hb (k + 1) y ρ μ (by simpa using hk) (by rw [show n + (k + 1) = n + 1 + k by omega]; exact hp)
      rw [show n + (k + 1) + 1 = n + 1 + k + 1 by omega] at this
      exact this
    refine ⟨ρ3, μ3, ?_, by rw [List.length_cons, show n + (xs.length + 1) = n + 1 + xs.length by omega]; exact h3⟩
    unfold loopF
    rw [if_pos tied_nil, e1]
    simp only [x_calm, Out.bind_ok, e2]
    exact e3
theorem for_run (P : Nat → Rho → Mu → Prop) {it : TL.Iv} {xs : Cell} {t : Gv} {b : Sv} {ρ : Rho} {μ μ1 : Mu} (hit : it ρ μ = .ok ⟨xs, []⟩ μ1) (h0 : P 0 ρ μ1)
    (hb : ∀ (k : Nat) x ρ μ, xs[k]? = some x → P k ρ μ → ∃ ρ1 μ1 ρ' μ', t (.d x) ρ μ = .ok ρ1 μ1 ∧ b ρ1 μ1 = .ok (.nx ρ') μ' ∧ P (k + 1) ρ' μ') :
    ∃ ρ' μ', sFor it t b ρ μ = .ok (.nx ρ') μ' ∧ P xs.length ρ' μ' := by
  obtain ⟨ρ', μ', e, h⟩ := loopF_run (P := P) (xs0 := xs) (t := t) (b := b) xs 0 ρ μ1 h0 (by simpa using hb)
  rw [Nat.zero_add] at h
  refine ⟨ρ', μ', ?_, h⟩
  unfold sFor
  rw [hit]
  exact e
theorem loopW_run {P : Nat → Rho → Mu → Prop} {Q : Rho → Mu → Prop} {c : Bv} {b : Sv} (step : ∀ n ρ μ, P n ρ μ → ∃ t μ1, c ρ μ = .ok t μ1 ∧ ((t = false ∧ Q ρ μ1) ∨ (t = true ∧ ∃ ρ' μ' n', n' < n ∧ b ρ μ1 = .ok (.nx ρ') μ' ∧ P n' ρ' μ'))) :
    ∀ (n : Nat) (ρ : Rho) (μ : Mu), P n ρ μ → ∃ k ρ' μ', loopW c b k ρ μ = .ok (.nx ρ') μ' ∧ Q ρ' μ' := by
  intro n
  induction n using Nat.strongRecOn with
  | _ n ih =>
    intro ρ μ h
    obtain ⟨t, μ1, e, z⟩ := step n ρ μ h
    rcases z with ⟨rfl, q⟩ | ⟨rfl, ρ', μ', n', hn, e2, h2⟩
    · refine ⟨1, ρ, μ1, ?_, q⟩
      unfold loopW
      rw [e]
      rfl
    · obtain ⟨k, ρ3, μ3, e3, q⟩ := ih n' hn ρ' μ' h2
      refine ⟨k + 1, ρ3, μ3, ?_, q⟩
      unfold loopW
      rw [e]
      simp only [liftO_ok, if_true, e2, x_calm, Out.bind_ok]
      exact e3
theorem wh_run (P : Nat → Rho → Mu → Prop) (Q : Rho → Mu → Prop) {c : Bv} {b : Sv} (n : Nat) {ρ : Rho} {μ : Mu} (h : P n ρ μ)
    (step : ∀ n ρ μ, P n ρ μ → ∃ t μ1, c ρ μ = .ok t μ1 ∧ ((t = false ∧ Q ρ μ1) ∨ (t = true ∧ ∃ ρ' μ' n', n' < n ∧ b ρ μ1 = .ok (.nx ρ') μ' ∧ P n' ρ' μ'))) :
    ∃ ρ' μ', sWhile c b ρ μ = .ok (.nx ρ') μ' ∧ Q ρ' μ' := by
  obtain ⟨k, ρ', μ', e, q⟩ := loopW_run step n ρ μ h
  exact ⟨ρ', μ', sWhile_at k e (by simp), q⟩
section
variable {μ : Mu}
theorem v_eq {neg : Bool} {a b : Wv} {x y : PyData} {c : Bool} (ha : dataOf μ a = some x) (hb : dataOf μ b = some y) (h : eqP x y = some c) : gEq neg a b μ = .ok (.d (.bool (if neg then !c else c))) μ := by
  unfold gEq
  simp only [ha, hb, h]
@[simp] theorem v_eqd {neg : Bool} {x y : PyData} : gEq neg (.d x) (.d y) μ = match eqP x y with
    | some c => .ok (.d (.bool (if neg then !c else c))) μ
    | none => .bad := rfl
@[simp] theorem v_pow {i j : Int} : gPow (.d (.int i)) (.d (.int j)) μ = if 0 ≤ j ∧ j ≤ 1000000 ∧ i.natAbs < 2 ^ 64 then .ok (.d (.int (i ^ j.toNat))) μ else .bad := rfl
@[simp] theorem eq_tt {xs : List PyData} : eqP (.tuple xs) (.tuple []) = some xs.isEmpty := by cases xs <;> rfl
@[simp] theorem eq_ll {xs : List PyData} : eqP (.list xs) (.list []) = some xs.isEmpty := by cases xs <;> rfl
@[simp] theorem eq_ss {x y : Str} : eqP (.str x) (.str y) = some (decide (x = y)) := rfl
@[simp] theorem sh_int {i : Int} : SeqAt.shaped (.int i) = true := rfl
@[simp] theorem sh_bool {b : Bool} : SeqAt.shaped (.bool b) = true := rfl
@[simp] theorem sh_none : SeqAt.shaped .none = true := rfl
@[simp] theorem sh_t0 : SeqAt.shaped (.tuple []) = true := rfl
theorem eq_sh {x y : PyData} (hx : SeqAt.shaped x = true) (hy : SeqAt.shaped y = true) (h1 : ∀ a, x ≠ .str a) (h2 : ∀ a, x ≠ .tuple a) (h3 : ∀ a, x ≠ .list a) : eqP x y = some (PyData.eqv x y) := by
  unfold eqP
  split
  · exact (h1 _ rfl).elim
  · exact (h2 _ rfl).elim
  · exact (h2 _ rfl).elim
  · exact (h3 _ rfl).elim
  · exact (h3 _ rfl).elim
  · rw [if_pos ⟨hx, hy⟩]
@[simp] theorem eq_ii {i j : Int} : eqP (.int i) (.int j) = some (i == j) := by
  rw [eq_sh rfl rfl (fun _ h => by cases h) (fun _ h => by cases h) (fun _ h => by cases h)]
  simp [PyData.eqv]
@[simp] theorem eq_it {i : Int} : eqP (.int i) (.tuple []) = some false := by
  rw [eq_sh rfl rfl (fun _ h => by cases h) (fun _ h => by cases h) (fun _ h => by cases h)]
  simp [PyData.eqv]
@[simp] theorem eq_bi {b : Bool} {j : Int} : eqP (.bool b) (.int j) = some ((if b then 1 else 0) == j) := by
  rw [eq_sh rfl rfl (fun _ h => by cases h) (fun _ h => by cases h) (fun _ h => by cases h)]
  simp [PyData.eqv]
theorem eq_ti {xs : List PyData} {j : Int} (h : SeqAt.shaped (.tuple xs) = true) : eqP (.tuple xs) (.int j) = some false := by
  have : eqP (.tuple xs) (.int j) = if SeqAt.shaped (.tuple xs) = true ∧ SeqAt.shaped (.int j) = true then some (PyData.eqv (.tuple xs) (.int j)) else none := by
    cases xs <;> rfl
  rw [this, if_pos ⟨h, rfl⟩]
  simp [PyData.eqv]
theorem sh_ints {xs : List PyData} (h : ∀ x ∈ xs, ∃ i, x = .int i) : SeqAt.shaped (.tuple xs) = true := by
  have h1 : PyData.canLayAll0 xs = true ∧ PyData.depthAll xs = 0 := by
    induction xs with
    | nil => exact ⟨rfl, rfl⟩
    | cons x xs ih =>
      obtain ⟨i, rfl⟩ := h x List.mem_cons_self
      obtain ⟨a, b⟩ := ih fun y hy => h y (List.mem_cons_of_mem _ hy)
      exact ⟨by simp [PyData.canLayAll0, PyData.canLay0, a], by simp [PyData.depthAll, PyData.depth, b]⟩
  unfold SeqAt.shaped
  simp [PyData.canLay0, PyData.depth, h1.1, h1.2]
end
section
variable {μ : Mu}
theorem app_set {k : Nat} {a : Option Cell} {l : Mu} (h : k < μ.length) : (μ ++ l).set k a = μ.set k a ++ l := List.set_append_left _ _ h
theorem app_get {k : Nat} {a : Option Cell} {l : Mu} (h : μ[k]? = some a) : (μ ++ l)[k]? = some a := by
  rw [List.getElem?_append_left (lt_of_get h)]
  exact h
@[simp] theorem take_setapp {k : Nat} {c : Option Cell} {l : Mu} : (μ.set k c ++ l).take μ.length = μ.set k c := by
  rw [List.take_append_of_le_length (by rw [List.length_set]; exact Nat.le_refl _)]
  exact take_set
@[simp] theorem get_last {k : Nat} {c a : Option Cell} : (μ.set k c ++ [a])[μ.length]? = some a := by
  rw [List.getElem?_append_right (by rw [List.length_set]; exact Nat.le_refl _), List.length_set, Nat.sub_self]
  rfl
@[simp] theorem set_last {k : Nat} {c a b : Option Cell} : (μ.set k c ++ [a]).set μ.length b = μ.set k c ++ [b] := by
  rw [List.set_append_right _ _ (by rw [List.length_set]; exact Nat.le_refl _), List.length_set, Nat.sub_self]
  rfl
theorem v_app {k : Nat} {c : Cell} {x : PyData} (h : μ[k]? = some (some c)) (hl : c.length < 16777216) : gApp (.r k) [.d x] μ = .ok (.d .none) (μ.set k (some (c ++ [x]))) := by
  unfold gApp
  simp only [h, if_pos hl]
theorem x_meth {ρ : Rho} {g : Wv → List Wv → Mu → Out Wv} {o : Ev} {as : Av} : eMeth1 g o as ρ μ = (o ρ μ).bind fun w μ1 => if live w μ1 = true then (as ρ μ1).bind fun ws μ2 => calm (g w ws μ2) else .bad := rfl
theorem live_r {k : Nat} {c : Cell} (h : μ[k]? = some (some c)) : live (.r k) μ = true := by
  unfold live
  simp only [h]
theorem it_r1 {ρ : Rho} {as : Av} {j : Int} {μ1 : Mu} (h : as ρ μ = .ok [.d (.int j)] μ1) (h1 : -4611686018427387904 ≤ j) (h2 : j < 4611686018427387904) : iR1 as ρ μ = .ok ⟨intL 0 j.toNat 1, []⟩ μ1 := by
  show (as ρ μ).bind _ = _
  rw [h]
  show (if smallI j = true then _ else _) = _
  rw [if_pos (smallI_is h1 h2)]
end
end TL
/-! TLR: what repr can show. -/
namespace TL
open PySem PySem.Spec L2
/-- may be shown: W its weight, D its depth -/
structure Shw (W D : Nat) (x : PyData) : Prop where
  sh : x.showable = true
  ls : x.leavesShort 1921 = true
  w : x.weight ≤ W
  d : x.depth ≤ D
  nd : x.hasDict = false
structure ShwAll (W D : Nat) (xs : List PyData) : Prop where
  sh : PyData.showableAll xs = true
  ls : PyData.leavesShortAll 1921 xs = true
  w : PyData.weightAll xs ≤ W
  d : PyData.depthAll xs ≤ D
  nd : PyData.hasDictAll xs = false
theorem Shw.ok {W D : Nat} {x : PyData} (h : Shw W D x) (hW : W ≤ 8000) (hD : D ≤ 60) : reprOk x = true := by
  have h1 := PyData.shown_le 1921 (by omega) x h.ls
  have h2 : (1921 + 2) * x.weight ≤ 1923 * 8000 := Nat.mul_le_mul_left _ (Nat.le_trans h.w hW)
  unfold reprOk
  rw [h.sh, h.nd, decide_eq_true (show x.shown.length ≤ 16777216 by omega), decide_eq_true (show x.depth ≤ 60 from Nat.le_trans h.d hD)]
  rfl
theorem Shw.repr {W D : Nat} {x : PyData} {μ : Mu} (h : Shw W D x) (hW : W ≤ 8000) (hD : D ≤ 60) : gRepr [.d x] μ = .ok (.d (.str x.shown)) μ := by
  show (if reprOk x = true then Out.ok (wS x.shown) μ else Out.bad) = _
  rw [if_pos (h.ok hW hD)]
theorem ShwAll.nil : ShwAll 0 0 [] := ⟨rfl, rfl, Nat.le_refl _, Nat.le_refl _, rfl⟩
theorem ShwAll.cons {W D W2 D2 : Nat} {x : PyData} {xs : List PyData} (h : Shw W D x) (t : ShwAll W2 D2 xs) : ShwAll (W + 1 + W2) (max D D2) (x :: xs) := by
  refine ⟨?_, ?_, ?_, ?_, ?_⟩
  · simp [PyData.showableAll, h.sh, t.sh]
  · simp [PyData.leavesShortAll, h.ls, t.ls]
  · have := h.w
    have := t.w
    simp only [PyData.weightAll]
    omega
  · have := h.d
    have := t.d
    simp only [PyData.depthAll]
    omega
  · simp [PyData.hasDictAll, h.nd, t.nd]
theorem Shw.list {W D : Nat} {xs : List PyData} (t : ShwAll W D xs) : Shw W (D + 1) (.list xs) := by
  refine ⟨t.sh, t.ls, ?_, ?_, t.nd⟩
  · simp only [PyData.weight]
    exact t.w
  · have := t.d
    simp only [PyData.depth]
    omega
theorem Shw.tuple {W D : Nat} {xs : List PyData} (t : ShwAll W D xs) : Shw W (D + 1) (.tuple xs) := by
  refine ⟨t.sh, t.ls, ?_, ?_, t.nd⟩
  · simp only [PyData.weight]
    exact t.w
  · have := t.d
    simp only [PyData.depth]
    omega
theorem Shw.up {W D W2 D2 : Nat} {x : PyData} (h : Shw W D x) (hW : W ≤ W2) (hD : D ≤ D2) : Shw W2 D2 x := ⟨h.sh, h.ls, Nat.le_trans h.w hW, Nat.le_trans h.d hD, h.nd⟩
theorem Shw.bool {b : Bool} : Shw 0 0 (.bool b) := ⟨rfl, rfl, Nat.le_refl _, Nat.le_refl _, rfl⟩
theorem Shw.int {i : Int} {n : Nat} (h0 : 0 < n) (hn : n ≤ 1920) (h : i.natAbs < 2 ^ n) : Shw n 0 (.int i) := by
  have hl : i.natAbs.log2 < n := by
    by_cases hz : i.natAbs = 0
    · rw [hz]
      exact h0
    · exact (Nat.log2_lt hz).mpr h
  have hl2 : i.natAbs.log2 < 1920 := Nat.lt_of_lt_of_le hl hn
  refine ⟨by simp [PyData.showable, hl2], ?_, ?_, Nat.le_refl _, rfl⟩
  · simp only [PyData.leavesShort, decide_eq_true_eq]
    exact PyProof.Rows.int_text_len_1921 hl2
  · simp only [PyData.weight]
    split <;> omega
end TL
/-! TL15: defs with defaults; three targets at once. -/
namespace TL
open PySem PySem.Spec L2 PyProof.Rows RZ
theorem fng_ofD {P : Program} {w : World} {K : PySem.W.Frag} {mg : Str → Option Value} {base : Heap} {k : Nat} {f : Addr} {x qual : Str} {st : Stmt} {fd : FuncData} {N ps : List Str} {sp : Sp}
    {dvs : List V} {kws : List (Str × V)} (F : FunD K x qual (defArgs st) (defBody st) (defScope st) dvs kws f fd) (S : FnScope N ps (defScope st)) (len : ∀ vs H Q E, sp vs H Q E → vs.length = ps.length)
    (body : ∀ (cdv : Value) (A : Around) (outer : List Env) (s : Shared) (H : Hp) (vs : List V) (Q : VK) (E : XK), Room k (A.deeper (envOfC qual (defScope st) s.heap.objs.size f cdv)) → A.guards = some [] → sp vs H Q E →
      ∃ t, PSs (cxOf (L2.CX P w) P w K mg base N qual (defScope st) f cdv A outer s H E) (defBody st) t ∧ t { nx := fun _ H' => Q .non H', rt := Q } (L2.start N vs) H) :
    FnG P w K mg base (k + 1) f fd ps sp := by
  obtain ⟨oc, od, dV, kV, doc, pm, an, cdv, ct, osl, efd, lk, cd, _, _⟩ := F.ex
  subst efd
  refine ⟨len, fun A outer s0 H args us vs Q E room gd env bd rel want => ?_⟩
  have count := len _ _ _ _ want
  have inK : K.In s0.heap := env.mod.kin.keeps fun b o z => (env.bs b o z).1
  have nolim : s0.heap.NoLimit := env.mod.nolimit.keeps fun b o z => (env.bs b o z).1
  have kinds : ∀ y ∈ ps.zip us, (defScope st).names.lookup y.1 = some .local ∨ ((defScope st).names.lookup y.1 = some .cell ∧ ((cellsFrom (s0.heap.objs.size + 1) (defScope st).names []).lookup y.1).isSome = true) := by
    rintro ⟨m, v⟩ hm
    cases S.par m (List.of_mem_zip hm).1 with
    | inl q => exact .inl q
    | inr q => exact .inr ⟨q, PySem.W.cellsFrom_some _ _ _ (.inl q)⟩
  refine codeAny_call_function room.depth (inK _ _ lk) rfl S.co S.gen rfl (PySem.W.codeRec_of inK cd) (bd _ _ _ _ ?_)
  refine wpAny_newFunctionEnv_cells S.kind kinds fun e2 he s1 ic => ?_
  subst he
  obtain ⟨t, ht, ready⟩ := body cdv A outer s0 H vs Q E (room.deeper _) gd want
  have I0 : Inv (cxOf (L2.CX P w) P w K mg base N qual (defScope st) f cdv A outer s0 H E) [] (L2.start N vs) H s1 := inv_start S room.hd env count rel ic
  refine ⟨nolim.keeps ic.toInCall.keep, codeAny_func (wpAny_mono (ht.run [] s1 (L2.start N vs) H _ I0 ready) (fun fl s2 hs => ?_) fun e s2 hs => hs)⟩
  cases fl with
  | ret u =>
    obtain ⟨v, σ', H', J, rv, q⟩ := hs
    exact ⟨v, H', J.os, J.bare, J.base, J.hok, rv, q⟩
  | next =>
    obtain ⟨σ', H', J, q⟩ := hs
    exact ⟨V.non, H', J.os, J.bare, J.base, J.hok, rfl, q⟩
  | brk => exact (hs.elim fun _ z => z.elim fun _ z => z.2).elim
  | cont => exact (hs.elim fun _ z => z.elim fun _ z => z.2).elim

theorem fng_semD {P : Program} {w : World} {K : PySem.W.Frag} {mg : Str → Option Value} {base : Heap} {k : Nat} {f : Addr} {x qual : Str} {st : Stmt} {fd : FuncData} {N ps : List Str} {b : Sv}
    {dvs : List V} {kws : List (Str × V)} (F : FunD K x qual (defArgs st) (defBody st) (defScope st) dvs kws f fd) (S : FnScope N ps (defScope st))
    (body : ∀ (cdv : Value) (A : Around) (outer : List Env) (s : Shared) (H : Hp) (E : XK), Room k (A.deeper (envOfC qual (defScope st) s.heap.objs.size f cdv)) → A.guards = some [] →
      SSs (cxOf (L2.CX P w) P w K mg base N qual (defScope st) f cdv A outer s H E) (fun cls d _ H => E cls d H) (defBody st) b) :
    FnG P w K mg base (k + 1) f fd ps (spG K mg ps.length (runD N.length b)) := by
  refine fng_ofD F S (fun vs H Q E h => h.len) fun cdv A outer s H vs Q E hr hg h => ⟨_, body cdv A outer s H E hr hg, ?_⟩
  obtain ⟨ws, μ, α, F0, r, rv, q⟩ := h
  refine ⟨initR N.length ws, μ, α, F0, r, repE_start rv, ?_⟩
  unfold arity at q
  split at q
  · unfold runD at q
    show gp K mg α F0 H (b (initR N.length ws) μ) (GS K mg _ _) _
    cases z : b (initR N.length ws) μ with
    | bad =>
      rw [z] at q
      exact q
    | err x us μ' =>
      rw [z] at q
      exact q.elim
    | ok fl μ' =>
      rw [z] at q
      intro α' F' H' e r'
      cases fl with
      | rt w1 => exact fun v hv => gp_leave q r e r' hv
      | nx ρ' => exact fun σ' _ => gp_leave (w := .d .none) q r e r' .non
      | bk ρ' => exact q.elim
      | ct ρ' => exact q.elim
      | er y us ρ' =>
        intro σ' C d fs _ h1 h2 h3
        have q : gp K mg α F0 H (match allD us with
          | some c => .err y (c.map Wv.d) (μ'.take μ.length)
          | none => .bad) (Gw K Q) E := q
        cases hc : allD us with
        | none =>
          rw [hc] at q
          exact q.elim
        | some c =>
          rw [hc] at q
          obtain ⟨r2, e2⟩ := r'.drop e r.len
          rw [allD_map hc] at h3
          exact q α F' H' C d fs e2 r2 h1 h2 h3.data
  · exact q.elim
theorem fund_mk {K : PySem.W.Frag} {x qual : Str} {st : Stmt} {f T : Addr} {oc : Value} {od an oT : Option Addr} {osl sT : Array (Option Value)} {kV doc pm cdv ct : Value} {its : List Value} {nT : Nat} {dvs : List V} (l : K.lookup f = some ⟨oc, od, .func (PySem.W.fnOf x qual (defArgs st) (defBody st) (defScope st) (.ref T) kV doc pm an cdv ct), osl⟩)
    (lT : K.lookup T = some ⟨.type "tuple", oT, .seq its.toArray nT, sT⟩) (hd : dvs ≠ []) (r : Vals dvs its) (c : PySem.W.codeIn K cdv qual = true) (k : PySem.W.keepIn K (.ref f) = true) : FunD K x qual (defArgs st) (defBody st) (defScope st) dvs [] f (PySem.W.fnOf x qual (defArgs st) (defBody st) (defScope st) (.ref T) kV doc pm an cdv ct) :=
  ⟨⟨oc, od, .ref T, kV, doc, pm, an, cdv, ct, osl, rfl, l, c, .inr ⟨hd, T, _, its, nT, rfl, lT, rfl, r⟩, .inl rfl⟩, k⟩
/-- a def with defaults, its place and its promise; ws0: the defaults as values -/
structure HasD (P : Program) (w : World) (K : PySem.W.Frag) (mg : Str → Option Value) (base : Heap) (j : Nat) (x : Str) (ps : List Str) (n : Nat) (g : GF) (ws0 : List Wv) (f : Addr) (fd : FuncData) : Prop where
  m : mg x = some (.ref f)
  kp : PySem.W.keepIn K (.ref f) = true
  bA : Binds K fd ps []
  bD : ∃ dv ds, Vals dv ds ∧ Binds K fd ps ds ∧ ∀ α F, Rws K α F dv ws0
  G : FnG P w K mg base j f fd ps (spG K mg n g)
def cFD (ws0 : List Wv) (n : Nat) (g : GF) (as : Av) : Ev := fun ρ μ => (as ρ μ).bind fun ws μ1 => if (ws ++ ws0).length = n then g (ws ++ ws0) μ1 else .bad
@[simp] theorem x_cFD {ws0 : List Wv} {n : Nat} {g : GF} {as : Av} {ρ : Rho} {μ : Mu} : cFD ws0 n g as ρ μ = (as ρ μ).bind fun ws μ1 => if (ws ++ ws0).length = n then g (ws ++ ws0) μ1 else .bad := rfl
section
variable {X : Cx} {W : WX} {x : Str} {p pos : Pos} {e : Expr} {es : List Expr} {as : Av} {j k n : Nat} {ps : List Str} {g : GF} {f : Addr} {fd : FuncData} {ws0 : List Wv}
theorem xCallA (h : HasD X.prog X.w X.K X.mg X.base j x ps n g ws0 f fd) (hj : j ≤ k) (hr : Room k X.A) (hg : X.A.guards = some []) (tk : Takes X W) (gl : Gl X x) (ha : SA X W (e :: es) as)
    (hdb : (x == ("__debug__" : Str)) = false := by decide) (he : starEach (e :: es) X.env = (false, eval e X.env) :: starEach es X.env := by rfl) (hpl : (backTo pos (starEach es X.env)).any (·.1) = false := by rfl) :
    SE X W (.Call (.Name x p) (e :: es) [] pos) (cF n g as) := by
  have z := se_call (p := p) (pos := pos) (dv := []) (ds := []) (ws0 := []) (h.G.up hj) hr hg gl h.m h.kp h.bA .nil (fun _ _ => .nil) tk ha hdb he hpl
  have e : eCall (fun ws μ => arity n g (ws ++ []) μ) as = cF n g as := by
    unfold eCall cF arity
    simp only [List.append_nil]
  rw [e] at z
  exact z
theorem xCallD (h : HasD X.prog X.w X.K X.mg X.base j x ps n g ws0 f fd) (hj : j ≤ k) (hr : Room k X.A) (hg : X.A.guards = some []) (tk : Takes X W) (gl : Gl X x) (ha : SA X W (e :: es) as)
    (hdb : (x == ("__debug__" : Str)) = false := by decide) (he : starEach (e :: es) X.env = (false, eval e X.env) :: starEach es X.env := by rfl) (hpl : (backTo pos (starEach es X.env)).any (·.1) = false := by rfl) :
    SE X W (.Call (.Name x p) (e :: es) [] pos) (cFD ws0 n g as) := by
  obtain ⟨dv, ds, hv, hb, hw⟩ := h.bD
  exact se_call (p := p) (pos := pos) (dv := dv) (ds := ds) (ws0 := ws0) (h.G.up hj) hr hg gl h.m h.kp hb hv hw tk ha hdb he hpl
/-- a block within a block -/
theorem lookup_relabel {p : Str → NameKind → Bool} : ∀ {names : List (Str × NameKind)} {x : Str}, (names.lookup x = some .cell ∨ names.lookup x = some .free) →
    ((names.map fun (n, k) => if (k == .free && p n k) then (n, NameKind.cell) else (n, k)).lookup x = some .cell ∨ (names.map fun (n, k) => if (k == .free && p n k) then (n, NameKind.cell) else (n, k)).lookup x = some .free)
  | [], x, h => by simp at h
  | (n, k) :: r, x, h => by
    have ih := lookup_relabel (p := p) (names := r) (x := x)
    simp only [List.map_cons]
    by_cases hx : (x == n) = true
    · simp only [List.lookup_cons, hx, if_true] at h
      by_cases hc : (k == .free && p n k) = true
      · rw [if_pos hc]
        left
        simp [List.lookup_cons, hx]
      · rw [if_neg hc]
        simp only [List.lookup_cons, hx]
        exact h
    · have hx : (x == n) = false := by simpa using hx
      simp only [List.lookup_cons, hx] at h
      have ih := ih h
      by_cases hc : (k == .free && p n k) = true
      · rw [if_pos hc]
        simp only [List.lookup_cons, hx]
        exact ih
      · rw [if_neg hc]
        simp only [List.lookup_cons, hx]
        exact ih
theorem blkOk_bk {scope sc2 : Scope} {own : List (Str × Nat)} {s : Shared} {H : Hp} {C : Addr} {cl : List (Str × Addr)} {fp : List Addr} (h : blkC X.N scope sc2 own = true) : BlkOk (Bk X scope s H C cl fp).N (Bk X scope s H C cl fp).env.scope sc2 own := by
  have b := blkOk_by h
  refine ⟨b.kind, b.uniq, b.ix, fun y hy e => ?_, b.own⟩
  have q := lookup_relabel (p := fun n _ => X.env.scope.kind == .function && X.env.kindOf n == some .cell) (b.free y hy e)
  simp only [← Bool.and_assoc] at q
  exact q
/-- three targets at once -/
def sPar3 (i j l : Nat) (as : Av) : Sv := fun ρ μ => liftO ρ (as ρ μ) fun ws μ1 => match ws with
  | [w1, w2, w3] => .ok (.nx (((ρ.set i (some w1)).set j (some w2)).set l (some w3))) μ1
  | _ => .bad
theorem rws3 {K : PySem.W.Frag} {α : List Addr} {F : Hp} {vs : List V} {w1 w2 w3 : Wv} (h : Rws K α F vs [w1, w2, w3]) : ∃ v1 v2 v3, vs = [v1, v2, v3] ∧ Rw K α F v1 w1 ∧ Rw K α F v2 w2 ∧ Rw K α F v3 w3 := by
  cases h with
  | cons p q =>
    cases q with
    | cons p' q' =>
      cases q' with
      | cons p'' q'' =>
        cases q''
        exact ⟨_, _, _, rfl, p, p', p''⟩
theorem xPar3 (i j l : Nat) {y z : Str} {a b c : Expr} {px py pz pt : Pos} {kt k2 : Nat} {pt2 : Pos} (hc : X.calm = true) (hN : X.N.Nodup) (ha : SA X W [a, b, c] as) (hi : X.N[i]? = some x := by rfl) (hj : X.N[j]? = some y := by rfl) (hl : X.N[l]? = some z := by rfl) (hij : i ≠ j := by decide) (hil : i ≠ l := by decide) (hjl : j ≠ l := by decide)
    (hx : X.env.scope.names.lookup x = some .local := by rfl) (hy : X.env.scope.names.lookup y = some .local := by rfl) (hz : X.env.scope.names.lookup z = some .local := by rfl)
    (hw : swappedStores [.Tuple [.Name x px, .Name y py, .Name z pz] kt pt] (.Tuple [a, b, c] k2 pt2) X.env = pure (some [x, y, z]) := by rfl) (hs : swapsWithSole [.Tuple [.Name x px, .Name y py, .Name z pz] kt pt] (.Tuple [a, b, c] k2 pt2) pos.line X.env = pure false := by rfl) :
    SS X W (.Assign [.Tuple [.Name x px, .Name y py, .Name z pz] kt pt] (.Tuple [a, b, c] k2 pt2) pos) (sPar3 i j l as) := by
  refine (ps_par3 hc hN hi hj hl hij hil hjl hx hy hz ha hw hs).imp fun D σ H ⟨ρ, μ, α, F, r, re, q⟩ => ?_
  refine ⟨ρ, μ, α, F, r, re, (gp_lift re q).mono fun ws μ1 α1 F1 H1 x1 r1 q1 vs rv => ?_⟩
  split at q1
  · obtain ⟨v1, v2, v3, rfl, d1, d2, d3⟩ := rws3 rv
    exact ⟨v1, v2, v3, rfl, q1.now r1 _ ((((re.ext x1).set i d1).set j d2).set l d3)⟩
  · exact q1.elim
@[simp] theorem x_par3 {i j l : Nat} {ρ : Rho} {μ : Mu} : sPar3 i j l as ρ μ = liftO ρ (as ρ μ) fun ws μ1 => match ws with
  | [w1, w2, w3] => .ok (.nx (((ρ.set i (some w1)).set j (some w2)).set l (some w3))) μ1
  | _ => .bad := rfl
@[simp] theorem x_par {i j : Nat} {ρ : Rho} {μ : Mu} : sPar i j as ρ μ = liftO ρ (as ρ μ) fun ws μ1 => match ws with
  | [w1, w2] => .ok (.nx ((ρ.set i (some w1)).set j (some w2))) μ1
  | _ => .bad := rfl
end
end TL
/-! TL16: chains of comparisons; tables of the module; methods of texts. -/
namespace TL
open PySem PySem.Spec L2 PyProof.Rows RZ
section
variable {X : Cx} {W : WX} {x : Str} {p pos : Pos} {e : Expr} {es : List Expr} {as : Av}
/-- a op b op' c -/
def eChain (g g' : Wv → Wv → Mu → Out Wv) (a b c : Ev) : Ev := fun ρ μ => (a ρ μ).bind fun w μ1 => (b ρ μ1).bind fun u μ2 => (calm (g w u μ2)).bind fun z μ3 => (wB z μ3).bind fun k μ4 =>
  if k = true then (c ρ μ4).bind fun v μ5 => calm (g' u v μ5) else .ok (.d (.bool false)) μ4
@[simp] theorem x_chain {g g' : Wv → Wv → Mu → Out Wv} {a b c : Ev} {ρ : Rho} {μ : Mu} : eChain g g' a b c ρ μ = (a ρ μ).bind fun w μ1 => (b ρ μ1).bind fun u μ2 => (calm (g w u μ2)).bind fun z μ3 => (wB z μ3).bind fun k μ4 =>
  if k = true then (c ρ μ4).bind fun v μ5 => calm (g' u v μ5) else .ok (.d (.bool false)) μ4 := rfl
theorem chain_read {a b c : Expr} {g g' : Wv → Wv → Mu → Out Wv} {fa fb fc : Ev} {σ : St} {H : Hp} {Q : VK} (h : tE X.K X.mg W (eChain g g' fa fb fc) σ H Q) : tChain (r2G X.K X.mg g) (r2G X.K X.mg g') (tE X.K X.mg W fa) (tE X.K X.mg W fb) (tE X.K X.mg W fc) σ H Q := by
  obtain ⟨ρ, μ, α, F, r, re, q⟩ := h
  refine ⟨ρ, μ, α, F, r, re, q.bind.mono fun w μ1 α1 F1 H1 x1 r1 q1 v rv => ?_⟩
  refine ⟨ρ, μ1, α1, F1, r1, re.ext x1, q1.bind.mono fun u μ2 α2 F2 H2 x2 r2 q2 v' rv' => ?_⟩
  refine ⟨μ2, α2, F2, w, u, r2, rv.ext x2, rv', q2.bind.none.calm.mono fun z μ3 α3 F3 H3 x3 r3 q3 v3 rv3 => ?_⟩
  obtain ⟨k, rfl, rfl, q4⟩ := wB_ok q3.bind rv3
  refine ⟨k, rfl, ?_⟩
  have q5 := q4.now r3
  cases k with
  | false => exact q5.now r3 _ (.bl _)
  | true =>
    show tE X.K X.mg W fc σ H3 _
    refine ⟨ρ, μ3, α3, F3, r3, ((re.ext x1).ext x2).ext x3, (show gp X.K X.mg α3 F3 H3 ((fc ρ μ3).bind _) _ _ from q5).bind.mono fun v4 μ5 α5 F5 H5 x5 r5 q6 v5 rv5 => ?_⟩
    exact ⟨μ5, α5, F5, u, v4, r5, (rv'.ext x3).ext x5, rv5, q6.calm⟩
theorem xChain {a b c : Expr} {op op' : CmpOp} {g g' : Wv → Wv → Mu → Out Wv} {fa fb fc : Ev} (ho : OpR X (compareOp op) (r2G X.K X.mg g)) (ho' : OpR X (compareOp op') (r2G X.K X.mg g')) (ha : SE X W a fa) (hb : SE X W b fb) (hc : SE X W c fc)
    (hm : lastMarks [op, op'] [b, c] = false := by with_unfolding_all rfl) : SE X W (.Compare a [op, op'] [b, c] pos) (eChain g g' fa fb fc) :=
  (pe_chain ho ho' ha hb hc hm).imp fun σ H Q h => chain_read (a := a) (b := b) (c := c) h
theorem xtChain {a b c : Expr} {op op' : CmpOp} {g g' : Wv → Wv → Mu → Out Wv} {fa fb fc : Ev} (ho : OpR X (compareOp op) (r2G X.K X.mg g)) (ho' : OpR X (compareOp op') (r2G X.K X.mg g')) (ha : SE X W a fa) (hb : SE X W b fb) (hc : SE X W c fc)
    (hm : lastMarks [op, op'] [b, c] = false := by with_unfolding_all rfl) : ST X W (.Compare a [op, op'] [b, c] pos) (tB' (eChain g g' fa fb fc)) := by
  refine (pt_chain ho ho' ha hb hc hm).imp fun σ H Q ⟨ρ, μ, α, F, r, re, q⟩ => ?_
  refine chain_read (a := a) (b := b) (c := c) (W := W) ⟨ρ, μ, α, F, r, re, (show gp X.K X.mg α F H ((eChain g g' fa fb fc ρ μ).bind wB) _ _ from q).bind.mono fun z μ1 α1 F1 H1 x1 r1 q1 v rv => ?_⟩
  obtain ⟨k, rfl, rfl, q2⟩ := wB_ok q1 rv
  exact ⟨k, rfl, q2.now r1⟩

/-! ### tables of the module: texts to data -/
structure ConD (K : PySem.W.Frag) (mg : Str → Option Value) (w : World) (x : Str) (tbl : List (Str × PyData)) : Prop where
  ex : ∃ a es n, mg x = some (.ref a) ∧ KDict K w a es n ∧ ∀ z, (∃ c u v, tbl.lookup z = some c ∧ PySem.W.nsIn K a z = some (some u) ∧ RelV v u ∧ ∀ F, Dq K F v c) ∨ (tbl.lookup z = none ∧ PySem.W.nsIn K a z = some none)
theorem kdict_none {K : PySem.W.Frag} {w : World} {a : Addr} {es : Array DictEntry} {n : Nat} {ks : List Str} (D : KDict K w a es n) (hk : He.dicW K a = some (He.keysIn w.params ks)) {z : Str} (h : z ∉ ks) : PySem.W.nsIn K a z = some none := by
  have hk2 : es.toList.map He.keyOf = He.keysIn w.params ks := by
    unfold He.dicW at hk
    rw [D.at_] at hk
    simp only at hk
    split at hk
    · exact Option.some.inj hk
    · cases hk
  have key : ∀ (l : List DictEntry) (ks : List Str), l.map He.keyOf = He.keysIn w.params ks → z ∉ ks → l.find? (·.key.isStr z) = none ∧ l.any (·.refKey) = false := by
    intro l
    induction l with
    | nil => intro ks _ _; exact ⟨rfl, rfl⟩
    | cons d l ih =>
      intro ks e hz
      cases ks with
      | nil => cases e
      | cons k ks =>
        have e : He.keyOf d :: l.map He.keyOf = some (k, PyData.keyHash w.params k) :: He.keysIn w.params ks := e
        injection e with e1 e2
        obtain ⟨i1, i2⟩ := ih ks e2 fun m => hz (List.mem_cons_of_mem _ m)
        have hne : k ≠ z := fun e => hz (by rw [e]; exact List.mem_cons_self)
        unfold He.keyOf at e1
        split at e1
        · rename_i y t q
          have e3 := Option.some.inj e1
          obtain ⟨e4, _⟩ := Prod.mk.inj e3
          subst e4
          have s1 : d.key.isStr z = false := by
            rw [q]
            show (y == z) = false
            simpa using hne
          have s2 : d.refKey = false := by
            unfold DictEntry.refKey
            rw [q]
          exact ⟨by rw [List.find?_cons, s1]; exact i1, by rw [List.any_cons, s2]; exact i2⟩
        · cases e1
  obtain ⟨k1, k2⟩ := key _ _ hk2 h
  unfold PySem.W.nsIn
  rw [D.at_]
  simp only
  rw [k1, k2]
  rfl
theorem conD_mk {K : PySem.W.Frag} {mg : Str → Option Value} {w : World} {a : Addr} {tbl : List (Str × PyData)} (hm : mg x = some (.ref a)) (hk : He.dicW K a = some (He.keysIn w.params (tbl.map (·.1))))
    (hv : ∀ q ∈ tbl, ∃ u v, PySem.W.nsIn K a q.1 = some (some u) ∧ RelV v u ∧ ∀ F, Dq K F v q.2) : ConD K mg w x tbl := by
  obtain ⟨es, n, D⟩ := He.dicW_ok hk
  refine ⟨a, es, n, hm, D, fun z => ?_⟩
  have lk : ∀ (t : List (Str × PyData)) (c : PyData), t.lookup z = some c → (z, c) ∈ t := by
    intro t
    induction t with
    | nil => intro c h; cases h
    | cons q t ih =>
      intro c h
      rw [List.lookup_cons] at h
      by_cases hz : (z == q.1) = true
      · rw [hz] at h
        have : z = q.1 := by simpa using hz
        cases h
        rw [this]
        exact List.mem_cons_self
      · have hz : (z == q.1) = false := by simpa using hz
        rw [hz] at h
        exact List.mem_cons_of_mem _ (ih c h)
  have ln : ∀ (t : List (Str × PyData)), t.lookup z = none → z ∉ t.map (·.1) := by
    intro t
    induction t with
    | nil => intro _ h; cases h
    | cons q t ih =>
      intro h hm
      rw [List.lookup_cons] at h
      by_cases hz : (z == q.1) = true
      · rw [hz] at h; cases h
      · have hz : (z == q.1) = false := by simpa using hz
        rw [hz] at h
        rw [List.map_cons] at hm
        rcases List.mem_cons.mp hm with e | hm
        · rw [e] at hz; simp at hz
        · exact ih h hm
  cases hl : tbl.lookup z with
  | some c =>
    obtain ⟨u, v, h1, h2, h3⟩ := hv _ (lk _ _ hl)
    exact .inl ⟨c, u, v, rfl, h1, h2, h3⟩
  | none => exact .inr ⟨rfl, kdict_none D hk (ln _ hl)⟩
theorem dicW_lk {K : PySem.W.Frag} {P : Params} {a : Addr} {es : Array DictEntry} {n : Nat} {ks : List Str} (hl : K.lookup a = some ⟨.type "dict", none, .dict es n, #[]⟩) (hk : es.toList.map He.keyOf = He.keysIn P ks) (hs : (a == sysModules) = false) : He.dicW K a = some (He.keysIn P ks) := by
  unfold He.dicW
  rw [hl]
  simp [hs, hk]
theorem conD_mk2 {K : PySem.W.Frag} {mg : Str → Option Value} {w : World} {a : Addr} {es : Array DictEntry} {n : Nat} {tbl : List (Str × PyData)} (hm : mg x = some (.ref a)) (hl : K.lookup a = some ⟨.type "dict", none, .dict es n, #[]⟩) (hk : es.toList.map He.keyOf = He.keysIn w.params (tbl.map (·.1))) (hs : (a == sysModules) = false)
    (hv : ∀ q ∈ tbl, ∃ u v, PySem.W.nsIn K a q.1 = some (some u) ∧ RelV v u ∧ ∀ F, Dq K F v q.2) : ConD K mg w x tbl := conD_mk hm (dicW_lk hl hk hs) hv
def gInD (neg : Bool) (tbl : List (Str × PyData)) (w : Wv) (μ : Mu) : Out Wv := match w with
  | .d (.str z) => .ok (.d (.bool (if neg then !(tbl.lookup z).isSome else (tbl.lookup z).isSome))) μ
  | _ => .bad
def gItD (tbl : List (Str × PyData)) (w : Wv) (μ : Mu) : Out Wv := match w with
  | .d (.str z) => match tbl.lookup z with
    | some c => .ok (.d c) μ
    | none => .bad
  | _ => .bad
@[simp] theorem x_inD {neg : Bool} {tbl : List (Str × PyData)} {z : Str} {μ : Mu} : gInD neg tbl (.d (.str z)) μ = .ok (.d (.bool (if neg then !(tbl.lookup z).isSome else (tbl.lookup z).isSome))) μ := rfl
theorem x_itD {tbl : List (Str × PyData)} {z : Str} {c : PyData} {μ : Mu} (h : tbl.lookup z = some c) : gItD tbl (.d (.str z)) μ = .ok (.d c) μ := by
  unfold gItD
  simp only [h]
theorem dq_str {K : PySem.W.Frag} {F : Hp} {v : V} {z : Str} (h : Dq K F v (.str z)) : v = .str z := by
  cases h
  rfl
theorem xInD {tbl : List (Str × PyData)} {a : Expr} {px : Pos} {fa : Ev} (h : ConD X.K X.mg X.w x tbl) (hg : Gl X x) (ha : SE X W a fa) (hd : (x == ("__debug__" : Str)) = false := by decide) (hm : behindInMarks .In (.Name x px) = false := by first | rfl | exact nomark _) :
    SE X W (.Compare a [.In] [.Name x px] pos) (e1 (gInD false tbl) fa) := by
  obtain ⟨ad, es, n, hmg, D, hz⟩ := h.ex
  refine (pe_cmpR (op_in_kd D) ha (pe_glob (v := .ref ad) hg hmg rfl hd) hm).imp fun σ H Q ⟨ρ, μ, α, F, r, re, q⟩ => ?_
  refine ⟨ρ, μ, α, F, r, re, q.bind.mono fun w μ1 α1 F1 H1 x1 r1 q1 v rv => ?_⟩
  have q2 := q1.calm (X' := fun _ _ _ => False)
  unfold gInD at q2
  split at q2
  · rename_i z
    have e := dq_str rv
    subst e
    rcases hz z with ⟨c, u, v0, h1, h2, _, _⟩ | ⟨h1, h2⟩
    · exact ⟨z, _, rfl, rfl, h2, q2.now r1 _ (by rw [h1]; exact .bl _)⟩
    · exact ⟨z, _, rfl, rfl, h2, q2.now r1 _ (by rw [h1]; exact .bl _)⟩
  · exact q2.elim
theorem xNotInD {tbl : List (Str × PyData)} {a : Expr} {px : Pos} {fa : Ev} (h : ConD X.K X.mg X.w x tbl) (hg : Gl X x) (ha : SE X W a fa) (hd : (x == ("__debug__" : Str)) = false := by decide) (hm : behindInMarks .NotIn (.Name x px) = false := by first | rfl | exact nomark _) :
    SE X W (.Compare a [.NotIn] [.Name x px] pos) (e1 (gInD true tbl) fa) := by
  obtain ⟨ad, es, n, hmg, D, hz⟩ := h.ex
  refine (pe_cmpR (op_notIn_kd D) ha (pe_glob (v := .ref ad) hg hmg rfl hd) hm).imp fun σ H Q ⟨ρ, μ, α, F, r, re, q⟩ => ?_
  refine ⟨ρ, μ, α, F, r, re, q.bind.mono fun w μ1 α1 F1 H1 x1 r1 q1 v rv => ?_⟩
  have q2 := q1.calm (X' := fun _ _ _ => False)
  unfold gInD at q2
  split at q2
  · rename_i z
    have e := dq_str rv
    subst e
    rcases hz z with ⟨c, u, v0, h1, h2, _, _⟩ | ⟨h1, h2⟩
    · exact ⟨z, _, rfl, rfl, h2, q2.now r1 _ (by rw [h1]; exact .bl _)⟩
    · exact ⟨z, _, rfl, rfl, h2, q2.now r1 _ (by rw [h1]; exact .bl _)⟩
  · exact q2.elim
theorem xtInD {tbl : List (Str × PyData)} {a : Expr} {px : Pos} {fa : Ev} (h : ConD X.K X.mg X.w x tbl) (hg : Gl X x) (ha : SE X W a fa) (hd : (x == ("__debug__" : Str)) = false := by decide) (hm : behindInMarks .In (.Name x px) = false := by first | rfl | exact nomark _) :
    ST X W (.Compare a [.In] [.Name x px] pos) (tB' (e1 (gInD false tbl) fa)) := by
  obtain ⟨ad, es, n, hmg, D, hz⟩ := h.ex
  refine (pt_cmpR (op_in_kd D) ha (pe_glob (v := .ref ad) hg hmg rfl hd) hm).imp fun σ H Q ⟨ρ, μ, α, F, r, re, q⟩ => ?_
  refine ⟨ρ, μ, α, F, r, re, q.bind.bind.mono fun w μ1 α1 F1 H1 x1 r1 q1 v rv => ?_⟩
  have q2 := q1.calm (X' := fun _ _ _ => False)
  cases w with
  | r k => exact q2.elim
  | t ds => exact q2.elim
  | d y =>
    cases y with
    | str z =>
      have e := dq_str rv
      subst e
      rw [x_inD] at q2
      have q3 := q2.now r1
      rw [x_wB] at q3
      have q4 := q3.now r1
      rcases hz z with ⟨c, u, v0, h1, h2, _, _⟩ | ⟨h1, h2⟩
      · exact ⟨z, _, rfl, rfl, h2, _, rfl, by rw [h1] at q4; exact q4⟩
      · exact ⟨z, _, rfl, rfl, h2, _, rfl, by rw [h1] at q4; exact q4⟩
    | _ => exact q2.elim
theorem xtNotInD {tbl : List (Str × PyData)} {a : Expr} {px : Pos} {fa : Ev} (h : ConD X.K X.mg X.w x tbl) (hg : Gl X x) (ha : SE X W a fa) (hd : (x == ("__debug__" : Str)) = false := by decide) (hm : behindInMarks .NotIn (.Name x px) = false := by first | rfl | exact nomark _) :
    ST X W (.Compare a [.NotIn] [.Name x px] pos) (tB' (e1 (gInD true tbl) fa)) := by
  obtain ⟨ad, es, n, hmg, D, hz⟩ := h.ex
  refine (pt_cmpR (op_notIn_kd D) ha (pe_glob (v := .ref ad) hg hmg rfl hd) hm).imp fun σ H Q ⟨ρ, μ, α, F, r, re, q⟩ => ?_
  refine ⟨ρ, μ, α, F, r, re, q.bind.bind.mono fun w μ1 α1 F1 H1 x1 r1 q1 v rv => ?_⟩
  have q2 := q1.calm (X' := fun _ _ _ => False)
  cases w with
  | r k => exact q2.elim
  | t ds => exact q2.elim
  | d y =>
    cases y with
    | str z =>
      have e := dq_str rv
      subst e
      rw [x_inD] at q2
      have q3 := q2.now r1
      rw [x_wB] at q3
      have q4 := q3.now r1
      rcases hz z with ⟨c, u, v0, h1, h2, _, _⟩ | ⟨h1, h2⟩
      · exact ⟨z, _, rfl, rfl, h2, _, rfl, by rw [h1] at q4; exact q4⟩
      · exact ⟨z, _, rfl, rfl, h2, _, rfl, by rw [h1] at q4; exact q4⟩
    | _ => exact q2.elim
theorem xItD {tbl : List (Str × PyData)} {b : Expr} {px : Pos} {fb : Ev} (h : ConD X.K X.mg X.w x tbl) (hg : Gl X x) (hb : SE X W b fb) (hd : (x == ("__debug__" : Str)) = false := by decide) (hs : PlainIx b := by intro _ _; rfl) :
    SE X W (.Subscript (.Name x px) b pos) (e1 (gItD tbl) fb) := by
  obtain ⟨ad, es, n, hmg, D, hz⟩ := h.ex
  refine (pe_ix ix_kdict (pe_glob (v := .ref ad) hg hmg rfl hd) hb hs).imp fun σ H Q ⟨ρ, μ, α, F, r, re, q⟩ => ?_
  refine ⟨ρ, μ, α, F, r, re, q.bind.mono fun w μ1 α1 F1 H1 x1 r1 q1 v rv => ?_⟩
  have q2 := q1.calm (X' := fun _ _ _ => False)
  unfold gItD at q2
  split at q2
  · rename_i z
    have e := dq_str rv
    subst e
    split at q2
    · rename_i c hc
      rcases hz z with ⟨c', u, v0, h1, h2, h3, h4⟩ | ⟨h1, h2⟩
      · rw [hc] at h1
        cases h1
        exact ⟨ad, z, v0, rfl, rfl, ⟨es, n, u, D.at_, D.lit, h2, h3⟩, q2.now r1 _ (h4 _)⟩
      · rw [hc] at h1; cases h1
    · exact q2.elim
  · exact q2.elim
def gGetD (tbl : List (Str × PyData)) (w u : Wv) (μ : Mu) : Out Wv := match w with
  | .d (.str z) => match tbl.lookup z with
    | some c => .ok (.d c) μ
    | none => .ok u μ
  | _ => .bad
theorem xGetD {tbl : List (Str × PyData)} {f : Expr} {px apos cpos : Pos} {fe ff : Ev} (h : ConD X.K X.mg X.w x tbl) (hg : Gl X x) (he : SE X W e fe) (hf : SE X W f ff) (hd : (x == ("__debug__" : Str)) = false := by decide) (m : M2 X (.Name x px) "get" apos e f cpos := by exact ⟨rfl, rfl, rfl, rfl⟩) :
    SE X W (.Call (.Attribute (.Name x px) "get" apos) [e, f] [] cpos) (e2 (gGetD tbl) fe ff) := by
  obtain ⟨ad, es, n, hmg, D, hz⟩ := h.ex
  refine ⟨fun pins s σ H Q I h => ?_⟩
  obtain ⟨ρ, μ, α, F, r, re, q⟩ := h
  refine wpAny_Call_method m.base m.few m.line PySem.F.plainAttrs_dict PySem.F.slot_dict_get PySem.F.type_dict_get (thn ((pe_glob (v := .ref ad) hg hmg rfl hd).run pins s σ H (fun v H1 => v = .ref ad ∧ H1 = H) I ⟨rfl, rfl⟩) fun u s1 ⟨x, H1, I1, rx, ex, eh⟩ => ?_)
  subst ex eh
  obtain rfl : u = Value.ref ad := rx
  refine ⟨kd_type D I1, fun b hb => ?_, ?_⟩
  · cases hb
    exact ⟨_, I1.kIn _ _ D.at_, rfl⟩
  · rw [m.trees]
    refine Calls.callWith_builtin rfl (Calls.evalArgs_plain (Calls.spliced_cons (thn (he.run pins s1 σ H1 (fun v H2 => tE X.K X.mg W ff σ H2 fun v2 H3 => ∃ μ α F w1 w2, Rep X.K α F μ H3 ∧ Rw X.K α F v w1 ∧ Rw X.K α F v2 w2 ∧ gp X.K X.mg α F H3 (gGetD tbl w1 w2 μ) (Gw X.K Q) (fun _ _ _ => False)) I1 ?_) fun iv s2 ⟨y, H2, I2, ry, q2⟩ =>
      Calls.spliced_cons (thn (hf.run pins s2 σ H2 _ I2 q2) fun fv s3 ⟨z, H3, I3, rz, q3⟩ => Calls.spliced_nil ?_))))
    · refine ⟨ρ, μ, α, F, r, re, q.bind.mono fun w μ1 α1 F1 H1 x1 r1 q1 v rv => ?_⟩
      refine ⟨ρ, μ1, α1, F1, r1, re.ext x1, q1.bind.mono fun u μ2 α2 F2 H2 x2 r2 q2 v' rv' => ?_⟩
      exact ⟨μ2, α2, F2, w, u, r2, rv.ext x2, rv', q2.calm⟩
    · obtain ⟨μ3, α3, F3, w1, w2, r3, k1, k2, q4⟩ := q3
      unfold gGetD at q4
      split at q4
      · rename_i zz
        have e := dq_str k1
        subst e
        obtain ⟨t, rfl⟩ := ry
        have hmap := PySem.W.mapOf_K (prog := X.prog) (w := X.w) I3.kIn D.at_ D.lit
        rcases hz zz with ⟨c, u0, v0, h1, h2, h3, h4⟩ | ⟨h1, h2⟩
        · rw [h1] at q4
          refine call_meetsIn PySem.F.slot_dict_get hmap.typeIs PySem.F.entry_dict_get (PySem.F.args_dict_get_3 _ _ _) (meets_dict_get_default (strKind X.prog X.w) ad (strKind_is X.prog X.w zz t) D.low fv) ⟨_, hmap, ?_⟩
          rw [PySem.W.find_K D.at_ h2]
          exact ⟨v0, H3, I3.tok _, h3, q4.now r3 _ (h4 _)⟩
        · rw [h1] at q4
          refine call_meetsIn PySem.F.slot_dict_get hmap.typeIs PySem.F.entry_dict_get (PySem.F.args_dict_get_3 _ _ _) (meets_dict_get_default (strKind X.prog X.w) ad (strKind_is X.prog X.w zz t) D.low fv) ⟨_, hmap, ?_⟩
          rw [PySem.W.find_K D.at_ h2]
          exact ⟨z, H3, I3.tok _, rz, q4.now r3 _ k2⟩
      · exact q4.elim
/-! ### methods of texts, of one text -/
def gStr1 (g : Str → Str → PyData) (w u : Wv) (μ : Mu) : Out Wv := match w, u with
  | .d (.str a), .d (.str b) => .ok (.d (g a b)) μ
  | _, _ => .bad
/-- o.m(e), where o is known to be a text -/
def eStr1 (g : Str → Str → PyData) (o a : Ev) : Ev := fun ρ μ => (o ρ μ).bind fun w μ1 => match w with
  | .d (.str x) => (a ρ μ1).bind fun u μ2 => calm (gStr1 g (.d (.str x)) u μ2)
  | _ => .bad
theorem se_str1 {id : String} {name : Str} {gv : Str → Str → V} {gd : Str → Str → PyData} {o : Expr} {apos cpos : Pos} {fo fe : Ev} (pa : PlainAttrs "str") (slot : Slot "str" name id) (hty : typeOf (.builtin id) = pure (.type "method_descriptor"))
    (hm : MtR X id (fun x xs H Q => ∃ a b, x = .str a ∧ xs = [.str b] ∧ Q (gv a b) H)) (hd : ∀ F a b, Dq X.K F (gv a b) (gd a b)) (ho : SE X W o fo) (he : SE X W e fe)
    (hbase : attributeBase o name X.env (eval o X.env) = eval o X.env := by rfl)
    (hfew : ((backTo cpos (starEach [e] X.env)).all (fun x => !x.1) && (backToKw cpos (keywordEach [] X.env)).all (fun x => x.1.isSome) && decide ([e].length + ([] : List Keyword).length + (if ([] : List Keyword).isEmpty then 0 else 1) < 30)) = true := by rfl)
    (hline : (apos.endLine == cpos.line) = true := by rfl) (hs : starEach [e] X.env = (false, eval e X.env) :: starEach [] X.env := by rfl) (hplain : (backTo cpos (starEach [] X.env)).any (·.1) = false := by rfl) :
    SE X W (.Call (.Attribute o name apos) [e] [] cpos) (eStr1 gd fo fe) := by
  refine (pe_bm pa slot hty hm ho (sa_cons he sa_nil hs) hbase hfew hline hs hplain).imp fun σ H Q ⟨ρ, μ, α, F, r, re, q⟩ => ?_
  refine ⟨ρ, μ, α, F, r, re, q.bind.mono fun w μ1 α1 F1 H1 x1 r1 q1 v rv => ?_⟩
  split at q1
  · rename_i z
    have ev := dq_str rv
    subst ev
    refine ⟨rfl, ρ, μ1, α1, F1, r1, re.ext x1, ?_⟩
    show gp X.K X.mg α1 F1 H1 ((fe ρ μ1).bind fun w μ1 => (aNil ρ μ1).bind fun ws μ2 => .ok (w :: ws) μ2) _ _
    have q2 := q1.bind
    cases hfe : fe ρ μ1 with
    | bad => rw [hfe] at q2; exact q2
    | err y ws μ' => rw [hfe] at q2; exact q2
    | ok u μ2 =>
      rw [hfe] at q2
      intro α2 F2 H2 x2 r2 us rus
      cases rus with
      | cons ru t =>
        cases t
        have q3 := (q2.at x2 r2).calm (X' := fun _ _ _ => False)
        cases u with
        | r k => exact q3.elim
        | t ds => exact q3.elim
        | d y =>
          cases y with
          | str b =>
            have eu := dq_str ru
            subst eu
            have q4 : gp X.K X.mg α2 F2 H2 (Out.ok (Wv.d (gd z b)) μ2) (Gw X.K Q) (fun _ _ _ => False) := q3
            exact ⟨z, b, rfl, rfl, q4.now r2 _ (hd _ _ _)⟩
          | _ => exact q3.elim
  · exact q1.elim
theorem xStarts {o : Expr} {apos cpos : Pos} {fo fe : Ev} (ho : SE X W o fo) (he : SE X W e fe)
    (hbase : attributeBase o "startswith" X.env (eval o X.env) = eval o X.env := by rfl)
    (hfew : ((backTo cpos (starEach [e] X.env)).all (fun x => !x.1) && (backToKw cpos (keywordEach [] X.env)).all (fun x => x.1.isSome) && decide ([e].length + ([] : List Keyword).length + (if ([] : List Keyword).isEmpty then 0 else 1) < 30)) = true := by rfl)
    (hline : (apos.endLine == cpos.line) = true := by rfl) (hs : starEach [e] X.env = (false, eval e X.env) :: starEach [] X.env := by rfl) (hplain : (backTo cpos (starEach [] X.env)).any (·.1) = false := by rfl) :
    SE X W (.Call (.Attribute o "startswith" apos) [e] [] cpos) (eStr1 (fun a b => .bool (Txt.startswith a b)) fo fe) :=
  se_str1 PySem.F.plainAttrs_str PySem.F.slot_str_startswith PySem.F.type_str_startswith mt_startswith (fun _ _ _ => .bl _) ho he hbase hfew hline hs hplain
end
end TL
/-! TL17: tuples that a display has made, known to their objects; t.index(text). -/
namespace TL
open PySem PySem.Spec L2 PyProof.Rows RZ
section
variable {X : Cx} {W : WX} {x : Str} {p pos : Pos} {e : Expr} {es : List Expr} {as : Av}
def tTupX (t : TA) : TE := fun σ H Q => t σ H fun xs H1 => xs.length ≤ sizeLine ∧ ∀ p o, H1 p = none → o.cls = .type "tuple" → o.dict = none → Q (.ref p) (upd H1 p (.frz o (.tup xs)))
theorem pe_tupX {x1} {t : TA} (h : PA X es t) : PE X (.Tuple es x1 pos) (tTupX t) := by
  refine ⟨fun pins s σ H Q I hq => ?_⟩
  refine wpAny_Tuple_spliced (thn (h.run pos pins s σ H _ I hq) fun us s1 ⟨xs, H1, I1, r, z, q⟩ => ⟨by rw [← r.length]; exact z, ?_⟩)
  have hf : H1 s1.heap.objs.size = none := I1.hok.fresh (Nat.le_refl _)
  refine ⟨.ref s1.heap.objs.size, upd H1 s1.heap.objs.size (.frz { cls := .type "tuple", data := .seq us.toArray } (.tup xs)), I1.laid (t' := s1.toks) (fun b u e => Heap.get?_push_of_some _ e) (Nat.le_refl _) ?_, rfl, q _ _ hf rfl rfl⟩
  exact ⟨Heap.get?_push_size _ rfl, z, us, r, ⟨_, Heap.get?_push_size _ rfl, rfl, _, rfl⟩⟩
def eTupX (as : Av) : Ev := fun ρ μ => (lDisp as ρ μ).bind fun c μ1 => .ok (.t c) μ1
@[simp] theorem x_tupX {as : Av} {ρ : Rho} {μ : Mu} : eTupX as ρ μ = (lDisp as ρ μ).bind fun c μ1 => .ok (.t c) μ1 := rfl
theorem xTupX {x1} (h : SA X W es as) : SE X W (.Tuple es x1 pos) (eTupX as) := by
  refine (pe_tupX h).imp fun σ H Q ⟨ρ, μ, α, F, r, re, q⟩ => ?_
  refine ⟨ρ, μ, α, F, r, re, q.bind.bind.mono fun ws μ1 α1 F1 H1 x1 r1 q1 vs rvs => ?_⟩
  cases e : allD ws with
  | none =>
    rw [e] at q1
    exact q1.elim
  | some c =>
    rw [e] at q1
    have dq := allD_ok e rvs
    by_cases hl : c.length ≤ 16777216
    · have q2 : gp X.K X.mg α1 F1 H1 ((if c.length ≤ 16777216 then Out.ok c μ1 else .bad).bind fun c μ1 => .ok (.t c) μ1) (Gw X.K Q) (fun c d H' => W c d σ H') := by
        cases z : (if c.length ≤ 16777216 then Out.ok c μ1 else .bad) with
        | ok c' μ' =>
          have : gp X.K X.mg α1 F1 H1 (if c.length ≤ 16777216 then Out.ok c μ1 else .bad) _ _ := q1
          rw [z] at this
          exact fun α' F' H' e r => gp.now (this α' F' H' e r) r
        | err x ws μ' =>
          rw [if_pos hl] at z
          cases z
        | bad =>
          rw [if_pos hl] at z
          cases z
      rw [if_pos hl] at q2
      refine ⟨by rw [dq.length]; exact le_line hl, fun p o hp hc hd => ?_⟩
      obtain ⟨r2, x2⟩ := r1.new (o := .frz o (.tup vs)) hp
      exact q2.at x2 r2 _ ⟨p, o, vs, rfl, upd_same, hc, hd, dq.mono x2.fro⟩
    · have : gp X.K X.mg α1 F1 H1 (if c.length ≤ 16777216 then Out.ok c μ1 else .bad) _ _ := q1
      rw [if_neg hl] at this
      exact this.elim
/-- such a tuple, read as data -/
def eUn (f : Ev) : Ev := fun ρ μ => (f ρ μ).bind fun w μ1 => match w with
  | .t xs => .ok (.d (.tuple xs)) μ1
  | _ => .bad
@[simp] theorem x_un {f : Ev} {ρ : Rho} {μ : Mu} : eUn f ρ μ = (f ρ μ).bind fun w μ1 => match w with
  | .t xs => .ok (.d (.tuple xs)) μ1
  | _ => .bad := rfl
theorem xUn {f : Ev} (h : SE X W e f) : SE X W e (eUn f) := by
  refine PE.imp h fun σ H Q ⟨ρ, μ, α, F, r, re, q⟩ => ?_
  refine ⟨ρ, μ, α, F, r, re, q.bind.mono fun w μ1 α1 F1 H1 x1 r1 q1 v rv => ?_⟩
  split at q1
  · obtain ⟨a, o, vs, rfl, h1, h2, h3, h4⟩ := rv
    exact q1.now r1 _ (.tup (.inl (.inr ⟨o, h1⟩)) h4)
  · exact q1.elim
def txts : List PyData → Option (List Str)
  | [] => some []
  | .str x :: r => (txts r).map (x :: ·)
  | _ => none
def ixO (z : Str) : List Str → Option Nat
  | [] => none
  | y :: r => if y = z then some 0 else (ixO z r).map (· + 1)
theorem ixO_ok {z : Str} : ∀ {ys : List Str} {j : Nat}, ixO z ys = some j → ys[j]? = some z ∧ ∀ m, m < j → ys[m]? ≠ some z
  | [], j, h => by cases h
  | y :: r, j, h => by
    unfold ixO at h
    by_cases e : y = z
    · rw [if_pos e] at h
      cases h
      exact ⟨by rw [e]; rfl, fun m hm => by omega⟩
    · rw [if_neg e] at h
      obtain ⟨i, hi, rfl⟩ := Option.map_eq_some_iff.mp h
      obtain ⟨h1, h2⟩ := ixO_ok hi
      refine ⟨by simpa using h1, fun m hm => ?_⟩
      cases m with
      | zero =>
        intro q
        exact e (by simpa using q)
      | succ m =>
        have := h2 m (by omega)
        simpa using this
theorem txts_ok {K : PySem.W.Frag} {F : Hp} : ∀ {xs : List PyData} {ys : List Str} {vs : List V}, txts xs = some ys → DqAll K F vs xs → vs = ys.map V.str
  | [], ys, vs, h, d => by
    cases h
    cases d
    rfl
  | .str x :: r, ys, vs, h, d => by
    unfold txts at h
    obtain ⟨zs, hz, rfl⟩ := Option.map_eq_some_iff.mp h
    cases d with
    | cons a b =>
      rw [dq_str a, txts_ok hz b]
      rfl
  | .none :: r, ys, vs, h, d => by cases h
  | .bool _ :: r, ys, vs, h, d => by cases h
  | .int _ :: r, ys, vs, h, d => by cases h
  | .list _ :: r, ys, vs, h, d => by cases h
  | .tuple _ :: r, ys, vs, h, d => by cases h
  | .dict _ :: r, ys, vs, h, d => by cases h
def gIdx (xs : List PyData) (u : Wv) (μ : Mu) : Out Wv := match u, txts xs with
  | .d (.str z), some ys => match ixO z ys with
    | some j => .ok (.d (.int (j : Int))) μ
    | none => .bad
  | _, _ => .bad
/-- o.index(e) -/
def eIdx (o a : Ev) : Ev := fun ρ μ => (o ρ μ).bind fun w μ1 => match w with
  | .t xs => (a ρ μ1).bind fun u μ2 => calm (gIdx xs u μ2)
  | _ => .bad
@[simp] theorem x_idx {o a : Ev} {ρ : Rho} {μ : Mu} : eIdx o a ρ μ = (o ρ μ).bind fun w μ1 => match w with
  | .t xs => (a ρ μ1).bind fun u μ2 => calm (gIdx xs u μ2)
  | _ => .bad := rfl
theorem xIdx {o : Expr} {apos cpos : Pos} {fo fe : Ev} (ho : SE X W o fo) (he : SE X W e fe)
    (hbase : attributeBase o "index" X.env (eval o X.env) = eval o X.env := by rfl)
    (hfew : ((backTo cpos (starEach [e] X.env)).all (fun x => !x.1) && (backToKw cpos (keywordEach [] X.env)).all (fun x => x.1.isSome) && decide ([e].length + ([] : List Keyword).length + (if ([] : List Keyword).isEmpty then 0 else 1) < 30)) = true := by rfl)
    (hline : (apos.endLine == cpos.line) = true := by rfl) (hs : starEach [e] X.env = (false, eval e X.env) :: starEach [] X.env := by rfl) (hplain : (backTo cpos (starEach [] X.env)).any (·.1) = false := by rfl) :
    SE X W (.Call (.Attribute o "index" apos) [e] [] cpos) (eIdx fo fe) := by
  refine ⟨fun pins s σ H Q I ⟨ρ, μ, α, F, r, re, q⟩ => ?_⟩
  refine wpAny_Call_method_late hbase hfew hline rfl (thn (ho.run pins s σ H (fun v H1 => ∃ a o vs xs μ1 α1 F1, v = .ref a ∧ F1 a = some (.frz o (.tup vs)) ∧ o.cls = .type "tuple" ∧ o.dict = none ∧ DqAll X.K F1 vs xs ∧ Rep X.K α1 F1 μ1 H1 ∧ RepE X.K α1 F1 ρ σ ∧ gp X.K X.mg α1 F1 H1 ((fe ρ μ1).bind fun u μ2 => calm (gIdx xs u μ2)) (Gw X.K Q) (fun c d H' => W c d σ H')) I ?_) fun v s1 ⟨y, H1, I1, ry, a, ob, vs, xs, μ1, α1, F1, ey, h1, h2, h3, h4, r1, re1, q1⟩ => ?_)
  · refine ⟨ρ, μ, α, F, r, re, q.bind.mono fun w μ1 α1 F1 H1 x1 r1 q1 v rv => ?_⟩
    split at q1
    · obtain ⟨a, o, vs, rfl, h1, h2, h3, h4⟩ := rv
      exact ⟨a, o, vs, _, μ1, α1, F1, rfl, h1, h2, h3, h4, r1, re.ext x1, q1⟩
    · exact q1.elim
  · subst ey
    cases ry
    obtain ⟨eg, _⟩ := I1.hok _ _ (r1.sub _ _ h1)
    refine ⟨"tuple", "tuple.index", PySem.F.plainAttrs_tuple, PySem.F.slot_tuple_index, PySem.F.type_tuple_index, ⟨ob, eg, h2⟩, fun b eb => by cases eb; exact ⟨ob, eg, h3⟩, ?_⟩
    have hA := (pa_cons he pa_nil hs).run cpos pins s1 σ H1 (fun us H2 => ∃ u, us = [u] ∧ ∃ μ2 α2 F2 w, Rep X.K α2 F2 μ2 H2 ∧ Ext α1 F1 H1 α2 F2 H2 ∧ Rw X.K α2 F2 u w ∧ gp X.K X.mg α2 F2 H2 (calm (gIdx xs w μ2)) (Gw X.K Q) (fun c d H' => W c d σ H')) I1 ⟨ρ, μ1, α1, F1, r1, re1, q1.bind.mono fun w μ2 α2 F2 H2 x2 r2 q2 v rv => ⟨v, rfl, μ2, α2, F2, w, r2, x2, rv, q2⟩⟩
    rw [hs] at hA ⊢
    refine Calls.callWith_builtin (by show (false || (backTo cpos (starEach [] X.env)).any (·.1)) = false; rw [hplain] <;> rfl) (Calls.evalArgs_plain ?_)
    refine thn hA fun us s2 ⟨vs2, H2, I2, r3, u, eu, μ2, α2, F2, w, r2, x2, rw_, q2⟩ => ?_
    subst eu
    have q3 := q2.calm (X' := fun _ _ _ => False)
    unfold gIdx at q3
    split at q3
    · rename_i z ys ez
      have e := dq_str rw_
      subst e
      split at q3
      · rename_i j ej
        have ev := txts_ok ez h4
        subst ev
        obtain ⟨k1, k2⟩ := ixO_ok ej
        exact mt_tup_index pins s2 σ H2 (.ref a) [.str z] (.ref a) us Q I2 rfl r3 ⟨a, ys, z, j, rfl, rfl, .inl (.inr ⟨ob, r2.sub _ _ (x2.fro _ _ h1)⟩), k1, k2, q3.now r2 _ (.int _)⟩
      · exact q3.elim
    · exact q3.elim
end
end TL
namespace LW
open PySem PySem.Spec L2 PyProof.Rows TL
def top (i : Nat) : Stmt := PySem.Challenge.pw_twoletters_k44_whole_exchanged_put_and_p.main.body.getD i (.Pass ⟨0, 0, 0, 0⟩)
theorem hu64 {A : Around} {k : Nat} (h : Room k A) : A.units + 64 < cLine := by
  have := h.un
  omega
theorem hu65 {A : Around} {k : Nat} (h : Room k A) : A.units + 65 < cLine := by
  have := h.un
  omega

abbrev st_is_whole : Stmt := top 8
theorem sc_is_whole : FnScope ["value"] ["value"] (defScope st_is_whole) := ⟨rfl, rfl, rfl, by decide +kernel, rfl, by decide +kernel, by decide +kernel⟩
theorem bd_is_whole {K : PySem.W.Frag} {f : Addr} {fd : FuncData} (F : Fun K "is_whole" "is_whole" st_is_whole f fd) : Binds K fd ["value"] [] := F.binds (ps := ["value"]) fun _ _ _ _ _ _ us hl => match us, hl with | [_], _ => rfl
noncomputable def b_is_whole : Sv :=
  (sRet (eAnd (e1 (gIsi "int") (eVar 0)) (eNot (e1 (gIsi "bool") (eVar 0)))))
noncomputable def f_is_whole : GF := runD 1 b_is_whole

abbrev st_are_wholes : Stmt := top 9
theorem sc_are_wholes : FnScope ["value", "many", "each"] ["value", "many"] (defScope st_are_wholes) := ⟨rfl, rfl, rfl, by decide +kernel, rfl, by decide +kernel, by decide +kernel⟩
theorem bd_are_wholes {K : PySem.W.Frag} {f : Addr} {fd : FuncData} (F : Fun K "are_wholes" "are_wholes" st_are_wholes f fd) : Binds K fd ["value", "many"] [] := F.binds (ps := ["value", "many"]) fun _ _ _ _ _ _ us hl => match us, hl with | [_, _], _ => rfl
noncomputable def b_are_wholes : Sv :=
  (sRet (eAnd (e1 (gIsi "tuple") (eVar 0)) (eAnd (e2 (gEq false) (en gLen (aCons (eVar 0) aNil)) (eVar 1)) (en gAll (aCons (eFrz (lLc (iAny (eVar 0)) (gNm 2) bYes (cF 1 f_is_whole (aCons (eVar 2) aNil)) [2])) aNil)))))
noncomputable def f_are_wholes : GF := runD 3 b_are_wholes

abbrev st_is_ratio : Stmt := top 11
theorem sc_is_ratio : FnScope ["value"] ["value"] (defScope st_is_ratio) := ⟨rfl, rfl, rfl, by decide +kernel, rfl, by decide +kernel, by decide +kernel⟩
theorem bd_is_ratio {K : PySem.W.Frag} {f : Addr} {fd : FuncData} (F : Fun K "is_ratio" "is_ratio" st_is_ratio f fd) : Binds K fd ["value"] [] := F.binds (ps := ["value"]) fun _ _ _ _ _ _ us hl => match us, hl with | [_], _ => rfl
noncomputable def b_is_ratio : Sv :=
  (sRet (eAnd (cF 2 f_are_wholes (aCons (eVar 0) (aCons (eK (.int 2)) aNil))) (eAnd (e2 (gCmp fun i j => decide (j < i)) (e2 gIx (eVar 0) (eK (.int 1))) (eK (.int 0))) (e2 (gEq false) (en gGcd (aCons (e2 gIx (eVar 0) (eK (.int 0))) (aCons (e2 gIx (eVar 0) (eK (.int 1))) aNil))) (eK (.int 1))))))
noncomputable def f_is_ratio : GF := runD 1 b_is_ratio

abbrev st_is_rowed : Stmt := top 13
theorem sc_is_rowed : FnScope ["value", "each"] ["value"] (defScope st_is_rowed) := ⟨rfl, rfl, rfl, by decide +kernel, rfl, by decide +kernel, by decide +kernel⟩
theorem bd_is_rowed {K : PySem.W.Frag} {f : Addr} {fd : FuncData} (F : Fun K "is_rowed" "is_rowed" st_is_rowed f fd) : Binds K fd ["value"] [] := F.binds (ps := ["value"]) fun _ _ _ _ _ _ us hl => match us, hl with | [_], _ => rfl
noncomputable def b_is_rowed : Sv :=
  (sSeq (sIf (bOr (bNot (tB' (e1 (gIsi "tuple") (eVar 0)))) (bNot (tB' (en gAll (aCons (eFrz (lLc (iAny (eVar 0)) (gNm 1) bYes (cF 1 f_is_whole (aCons (eVar 1) aNil)) [1])) aNil))))) (sRet (eK (.bool false))) sNext)
    (sRet (eOr (e2 (gEq false) (eVar 0) (eTup aNil)) (e2 (gEq true) (e2 gIx (eVar 0) (e1 gNeg (eK (.int 1)))) (eK (.int 0))))))
noncomputable def f_is_rowed : GF := runD 2 b_is_rowed

abbrev st_trimmed : Stmt := top 14
theorem sc_trimmed : FnScope ["some", "last"] ["some"] (defScope st_trimmed) := ⟨rfl, rfl, rfl, by decide +kernel, rfl, by decide +kernel, by decide +kernel⟩
theorem bd_trimmed {K : PySem.W.Frag} {f : Addr} {fd : FuncData} (F : Fun K "trimmed" "trimmed" st_trimmed f fd) : Binds K fd ["some"] [] := F.binds (ps := ["some"]) fun _ _ _ _ _ _ us hl => match us, hl with | [_], _ => rfl
noncomputable def b_trimmed : Sv :=
  (sSeq (sAsg (en gLen (aCons (eVar 0) aNil)) (gNm 1))
    (sSeq (sWhile (bAnd (tB' (e2 (gCmp fun i j => decide (j < i)) (eVar 1) (eK (.int 0)))) (tB' (e2 (gEq false) (e2 gIx (eVar 0) (e2 gSub (eVar 1) (eK (.int 1)))) (eK (.int 0))))) (sAsg (e2 gSub (eVar 1) (eK (.int 1))) (gNm 1)))
    (sRet (en gTuple (aCons (eSl (eVar 0) none (some (eVar 1))) aNil)))))
noncomputable def f_trimmed : GF := runD 2 b_trimmed

abbrev st_power_of : Stmt := top 15
theorem sc_power_of : FnScope ["number", "many", "found", "_"] ["number", "many"] (defScope st_power_of) := ⟨rfl, rfl, rfl, by decide +kernel, rfl, by decide +kernel, by decide +kernel⟩
theorem bd_power_of {K : PySem.W.Frag} {f : Addr} {fd : FuncData} (F : Fun K "power_of" "power_of" st_power_of f fd) : Binds K fd ["number", "many"] [] := F.binds (ps := ["number", "many"]) fun _ _ _ _ _ _ us hl => match us, hl with | [_, _], _ => rfl
noncomputable def b_power_of : Sv :=
  (sSeq (sAsg (eK (.int 1)) (gNm 2))
    (sSeq (sFor (iR1 (aCons (eVar 1) aNil)) (gNm 3) (sAsg (e2 gTimes (eVar 2) (eVar 0)) (gNm 2)))
    (sRet (eVar 2))))
noncomputable def f_power_of : GF := runD 4 b_power_of

abbrev st_check_fraction : Stmt := top 18
theorem sc_check_fraction : FnScope ["value"] ["value"] (defScope st_check_fraction) := ⟨rfl, rfl, rfl, by decide +kernel, rfl, by decide +kernel, by decide +kernel⟩
theorem bd_check_fraction {K : PySem.W.Frag} {f : Addr} {fd : FuncData} (F : Fun K "check_fraction" "check_fraction" st_check_fraction f fd) : Binds K fd ["value"] [] := F.binds (ps := ["value"]) fun _ _ _ _ _ _ us hl => match us, hl with | [_], _ => rfl
noncomputable def b_check_fraction : Sv :=
  (sIf (bNot (tB' (cF 1 f_is_ratio (aCons (eVar 0) aNil)))) sNever sNext)
noncomputable def f_check_fraction : GF := runD 1 b_check_fraction

abbrev st_is_polyed : Stmt := top 20
theorem sc_is_polyed : FnScope ["value", "each"] ["value"] (defScope st_is_polyed) := ⟨rfl, rfl, rfl, by decide +kernel, rfl, by decide +kernel, by decide +kernel⟩
theorem bd_is_polyed {K : PySem.W.Frag} {f : Addr} {fd : FuncData} (F : Fun K "is_polyed" "is_polyed" st_is_polyed f fd) : Binds K fd ["value"] [] := F.binds (ps := ["value"]) fun _ _ _ _ _ _ us hl => match us, hl with | [_], _ => rfl
noncomputable def b_is_polyed : Sv :=
  (sSeq (sIf (bOr (bNot (tB' (e1 (gIsi "tuple") (eVar 0)))) (bNot (tB' (en gAll (aCons (eFrz (lLc (iAny (eVar 0)) (gNm 1) bYes (cF 1 f_is_rowed (aCons (eVar 1) aNil)) [1])) aNil))))) (sRet (eK (.bool false))) sNext)
    (sRet (eOr (e2 (gEq false) (eVar 0) (eTup aNil)) (e2 (gEq true) (e2 gIx (eVar 0) (e1 gNeg (eK (.int 1)))) (eTup aNil)))))
noncomputable def f_is_polyed : GF := runD 2 b_is_polyed

abbrev st_cut : Stmt := top 21
theorem sc_cut : FnScope ["rows", "last"] ["rows"] (defScope st_cut) := ⟨rfl, rfl, rfl, by decide +kernel, rfl, by decide +kernel, by decide +kernel⟩
theorem bd_cut {K : PySem.W.Frag} {f : Addr} {fd : FuncData} (F : Fun K "cut" "cut" st_cut f fd) : Binds K fd ["rows"] [] := F.binds (ps := ["rows"]) fun _ _ _ _ _ _ us hl => match us, hl with | [_], _ => rfl
noncomputable def b_cut : Sv :=
  (sSeq (sAsg (en gLen (aCons (eVar 0) aNil)) (gNm 1))
    (sSeq (sWhile (bAnd (tB' (e2 (gCmp fun i j => decide (j < i)) (eVar 1) (eK (.int 0)))) (tB' (e2 (gEq false) (e2 gIx (eVar 0) (e2 gSub (eVar 1) (eK (.int 1)))) (eTup aNil)))) (sAsg (e2 gSub (eVar 1) (eK (.int 1))) (gNm 1)))
    (sRet (en gTuple (aCons (eSl (eVar 0) none (some (eVar 1))) aNil)))))
noncomputable def f_cut : GF := runD 2 b_cut

abbrev st_exchanged_by : Stmt := top 22
theorem sc_exchanged_by : FnScope ["poly", "size", "at", "row"] ["poly"] (defScope st_exchanged_by) := ⟨rfl, rfl, rfl, by decide +kernel, rfl, by decide +kernel, by decide +kernel⟩
theorem bd_exchanged_by {K : PySem.W.Frag} {f : Addr} {fd : FuncData} (F : Fun K "exchanged_by" "exchanged_by" st_exchanged_by f fd) : Binds K fd ["poly"] [] := F.binds (ps := ["poly"]) fun _ _ _ _ _ _ us hl => match us, hl with | [_], _ => rfl
noncomputable def b_exchanged_by : Sv :=
  (sSeq (sAsg (en gMax (aCons (e2 gPlus (eFrz (lDisp (aCons (eK (.int 0)) aNil))) (eFrz (lLc (iAny (eVar 0)) (gNm 3) bYes (en gLen (aCons (eVar 3) aNil)) [3]))) aNil)) (gNm 1))
    (sRet (cF 1 f_cut (aCons (eFrz (lLc (iR1 (aCons (eVar 1) aNil)) (gNm 2) bYes (cF 1 f_trimmed (aCons (eFrz (lLc (iAny (eVar 0)) (gNm 3) bYes (eIf (tB' (e2 (gCmp fun i j => decide (i < j)) (eVar 2) (en gLen (aCons (eVar 3) aNil)))) (e2 gIx (eVar 3) (eVar 2)) (eK (.int 0))) [3])) aNil)) [2])) aNil))))
noncomputable def f_exchanged_by : GF := runD 4 b_exchanged_by

abbrev st_is_letter : Stmt := top 30
theorem sc_is_letter : FnScope ["value"] ["value"] (defScope st_is_letter) := ⟨rfl, rfl, rfl, by decide +kernel, rfl, by decide +kernel, by decide +kernel⟩
theorem bd_is_letter {K : PySem.W.Frag} {f : Addr} {fd : FuncData} (F : Fun K "is_letter" "is_letter" st_is_letter f fd) : Binds K fd ["value"] [] := F.binds (ps := ["value"]) fun _ _ _ _ _ _ us hl => match us, hl with | [_], _ => rfl
noncomputable def b_is_letter : Sv :=
  (sRet (eAnd (e1 (gIsi "str") (eVar 0)) (e2 (gIn false) (eVar 0) (eK (.tuple [(.str "x"), (.str "y")])))))
noncomputable def f_is_letter : GF := runD 1 b_is_letter

abbrev st_is_low_poly : Stmt := top 31
theorem sc_is_low_poly : FnScope ["value", "row"] ["value"] (defScope st_is_low_poly) := ⟨rfl, rfl, rfl, by decide +kernel, rfl, by decide +kernel, by decide +kernel⟩
theorem bd_is_low_poly {K : PySem.W.Frag} {f : Addr} {fd : FuncData} (F : Fun K "is_low_poly" "is_low_poly" st_is_low_poly f fd) : Binds K fd ["value"] [] := F.binds (ps := ["value"]) fun _ _ _ _ _ _ us hl => match us, hl with | [_], _ => rfl
noncomputable def b_is_low_poly : Sv :=
  (sSeq (sIf (bOr (bNot (tB' (cF 1 f_is_polyed (aCons (eVar 0) aNil)))) (tB' (e2 (gCmp fun i j => decide (j < i)) (en gLen (aCons (eVar 0) aNil)) (e2 gPlus (eK (.int 4)) (eK (.int 1)))))) (sRet (eK (.bool false))) sNext)
    (sRet (en gAll (aCons (eFrz (lLc (iAny (eVar 0)) (gNm 1) bYes (e2 (gCmp fun i j => decide (i ≤ j)) (en gLen (aCons (eVar 1) aNil)) (e2 gPlus (eK (.int 4)) (eK (.int 1)))) [1])) aNil))))
noncomputable def f_is_low_poly : GF := runD 2 b_is_low_poly

abbrev st_is_sayinged : Stmt := top 32
theorem sc_is_sayinged : FnScope ["value", "deep", "word", "at"] ["value", "deep"] (defScope st_is_sayinged) := ⟨rfl, rfl, rfl, by decide +kernel, rfl, by decide +kernel, by decide +kernel⟩
theorem bd_is_sayinged {K : PySem.W.Frag} {f : Addr} {fd : FuncData} (F : Fun K "is_sayinged" "is_sayinged" st_is_sayinged f fd) : Binds K fd ["value", "deep"] [] := F.binds (ps := ["value", "deep"]) fun _ _ _ _ _ _ us hl => match us, hl with | [_, _], _ => rfl
noncomputable def b_is_sayinged (rec : GF) : Sv :=
  (sSeq (sIf (bOr (tB' (e2 (gEq false) (eVar 1) (eK (.int 0)))) (bOr (bNot (tB' (e1 (gIsi "tuple") (eVar 0)))) (bOr (tB' (e2 (gEq false) (eVar 0) (eTup aNil))) (bNot (tB' (e1 (gIsi "str") (e2 gIx (eVar 0) (eK (.int 0))))))))) (sRet (eK (.bool false))) sNext)
    (sSeq (sAsg (e2 gIx (eVar 0) (eK (.int 0))) (gNm 2))
    (sSeq (sIf (tB' (e2 (gIn false) (eVar 2) (eTup (aCons (eK (.str "true")) (aCons (eK (.str "false")) aNil))))) (sRet (e2 (gEq false) (en gLen (aCons (eVar 0) aNil)) (eK (.int 1)))) sNext)
    (sSeq (sIf (tB' (e2 (gIn false) (eVar 2) (eK (.tuple [(.str "below"), (.str "at"), (.str "above"), (.str "not below"), (.str "not at"), (.str "not above")])))) (sRet (eAnd (e2 (gEq false) (en gLen (aCons (eVar 0) aNil)) (eK (.int 2))) (cF 1 f_is_low_poly (aCons (e2 gIx (eVar 0) (eK (.int 1))) aNil)))) sNext)
    (sSeq (sIf (bOr (tB' (e1 (gInD true [("not", (.tuple [(.int 1)])), ("both", (.tuple [(.int 1), (.int 2)])), ("either", (.tuple [(.int 1), (.int 2)])), ("all", (.tuple [(.int 2)])), ("some", (.tuple [(.int 2)]))]) (eVar 2))) (tB' (e2 (gEq true) (en gLen (aCons (eVar 0) aNil)) (e2 gPlus (e2 gIx (e1 (gItD [("not", (.tuple [(.int 1)])), ("both", (.tuple [(.int 1), (.int 2)])), ("either", (.tuple [(.int 1), (.int 2)])), ("all", (.tuple [(.int 2)])), ("some", (.tuple [(.int 2)]))]) (eVar 2)) (e1 gNeg (eK (.int 1)))) (eK (.int 1)))))) (sRet (eK (.bool false))) sNext)
    (sSeq (sIf (bAnd (tB' (e2 (gIn false) (eVar 2) (eTup (aCons (eK (.str "all")) (aCons (eK (.str "some")) aNil))))) (bNot (tB' (cF 1 f_is_letter (aCons (e2 gIx (eVar 0) (eK (.int 1))) aNil))))) (sRet (eK (.bool false))) sNext)
    (sRet (en gAll (aCons (eFrz (lLc (iAny (e1 (gItD [("not", (.tuple [(.int 1)])), ("both", (.tuple [(.int 1), (.int 2)])), ("either", (.tuple [(.int 1), (.int 2)])), ("all", (.tuple [(.int 2)])), ("some", (.tuple [(.int 2)]))]) (eVar 2))) (gNm 3) bYes (cF 2 rec (aCons (e2 gIx (eVar 0) (eVar 3)) (aCons (e2 gSub (eVar 1) (eK (.int 1))) aNil))) [3])) aNil)))))))))
noncomputable def f_is_sayinged : Nat → GF
  | 0 => fun _ _ => .bad
  | n + 1 => runD 4 (b_is_sayinged (f_is_sayinged n))

abbrev st_parts_of : Stmt := top 33
theorem sc_parts_of : FnScope ["saying", "at"] ["saying"] (defScope st_parts_of) := ⟨rfl, rfl, rfl, by decide +kernel, rfl, by decide +kernel, by decide +kernel⟩
theorem bd_parts_of {K : PySem.W.Frag} {f : Addr} {fd : FuncData} (F : Fun K "parts_of" "parts_of" st_parts_of f fd) : Binds K fd ["saying"] [] := F.binds (ps := ["saying"]) fun _ _ _ _ _ _ us hl => match us, hl with | [_], _ => rfl
noncomputable def b_parts_of : Sv :=
  (sRet (eFrz (lLc (iAny (e2 (gGetD [("not", (.tuple [(.int 1)])), ("both", (.tuple [(.int 1), (.int 2)])), ("either", (.tuple [(.int 1), (.int 2)])), ("all", (.tuple [(.int 2)])), ("some", (.tuple [(.int 2)]))]) (e2 gIx (eVar 0) (eK (.int 0))) (eTup aNil))) (gNm 1) bYes (e2 gIx (eVar 0) (eVar 1)) [1])))
noncomputable def f_parts_of : GF := runD 2 b_parts_of

abbrev st_with_parts : Stmt := top 34
theorem sc_with_parts : FnScope ["saying", "parts"] ["saying", "parts"] (defScope st_with_parts) := ⟨rfl, rfl, rfl, by decide +kernel, rfl, by decide +kernel, by decide +kernel⟩
theorem bd_with_parts {K : PySem.W.Frag} {f : Addr} {fd : FuncData} (F : Fun K "with_parts" "with_parts" st_with_parts f fd) : Binds K fd ["saying", "parts"] [] := F.binds (ps := ["saying", "parts"]) fun _ _ _ _ _ _ us hl => match us, hl with | [_, _], _ => rfl
noncomputable def b_with_parts : Sv :=
  (sRet (e2 gPlus (eSl (eVar 0) none (some (e2 gIx (e1 (gItD [("not", (.tuple [(.int 1)])), ("both", (.tuple [(.int 1), (.int 2)])), ("either", (.tuple [(.int 1), (.int 2)])), ("all", (.tuple [(.int 2)])), ("some", (.tuple [(.int 2)]))]) (e2 gIx (eVar 0) (eK (.int 0)))) (eK (.int 0))))) (en gTuple (aCons (eVar 1) aNil))))
noncomputable def f_with_parts : GF := runD 2 b_with_parts

abbrev st_depth_by : Stmt := top 35
theorem sc_depth_by : FnScope ["saying", "found", "part"] ["saying"] (defScope st_depth_by) := ⟨rfl, rfl, rfl, by decide +kernel, rfl, by decide +kernel, by decide +kernel⟩
theorem bd_depth_by {K : PySem.W.Frag} {f : Addr} {fd : FuncData} (F : Fun K "depth_by" "depth_by" st_depth_by f fd) : Binds K fd ["saying"] [] := F.binds (ps := ["saying"]) fun _ _ _ _ _ _ us hl => match us, hl with | [_], _ => rfl
noncomputable def b_depth_by (rec : GF) : Sv :=
  (sSeq (sAsg (eK (.int 0)) (gNm 1))
    (sSeq (sFor (iAny (cF 1 f_parts_of (aCons (eVar 0) aNil))) (gNm 2) (sAsg (en gMax (aCons (eVar 1) (aCons (cF 1 rec (aCons (eVar 2) aNil)) aNil))) (gNm 1)))
    (sRet (e2 gPlus (eK (.int 1)) (eVar 1)))))
noncomputable def f_depth_by : Nat → GF
  | 0 => fun _ _ => .bad
  | n + 1 => runD 3 (b_depth_by (f_depth_by n))

abbrev st_polys_by : Stmt := top 36
theorem sc_polys_by : FnScope ["saying", "found", "part", "poly"] ["saying"] (defScope st_polys_by) := ⟨rfl, rfl, rfl, by decide +kernel, rfl, by decide +kernel, by decide +kernel⟩
theorem bd_polys_by {K : PySem.W.Frag} {f : Addr} {fd : FuncData} (F : Fun K "polys_by" "polys_by" st_polys_by f fd) : Binds K fd ["saying"] [] := F.binds (ps := ["saying"]) fun _ _ _ _ _ _ us hl => match us, hl with | [_], _ => rfl
noncomputable def b_polys_by (rec : GF) : Sv :=
  (sSeq (sIf (tB' (e2 (gIn false) (e2 gIx (eVar 0) (eK (.int 0))) (eK (.tuple [(.str "below"), (.str "at"), (.str "above"), (.str "not below"), (.str "not at"), (.str "not above")])))) (sRet (eTup (aCons (e2 gIx (eVar 0) (eK (.int 1))) aNil))) sNext)
    (sSeq (sAsg (eTup aNil) (gNm 1))
    (sSeq (sFor (iAny (cF 1 f_parts_of (aCons (eVar 0) aNil))) (gNm 2) (sAsg (e2 gPlus (eVar 1) (en gTuple (aCons (eFrz (lLc (iAny (cF 1 rec (aCons (eVar 2) aNil))) (gNm 3) (tB' (e2 (gIn true) (eVar 3) (eVar 1))) (eVar 3) [3])) aNil))) (gNm 1)))
    (sRet (eVar 1)))))
noncomputable def f_polys_by : Nat → GF
  | 0 => fun _ _ => .bad
  | n + 1 => runD 4 (b_polys_by (f_polys_by n))

abbrev st_other_letter : Stmt := top 37
theorem sc_other_letter : FnScope ["letter"] ["letter"] (defScope st_other_letter) := ⟨rfl, rfl, rfl, by decide +kernel, rfl, by decide +kernel, by decide +kernel⟩
theorem bd_other_letter {K : PySem.W.Frag} {f : Addr} {fd : FuncData} (F : Fun K "other_letter" "other_letter" st_other_letter f fd) : Binds K fd ["letter"] [] := F.binds (ps := ["letter"]) fun _ _ _ _ _ _ us hl => match us, hl with | [_], _ => rfl
noncomputable def b_other_letter : Sv :=
  (sRet (eIf (tB' (e2 (gEq false) (eVar 0) (eK (.str "x")))) (eK (.str "y")) (eK (.str "x"))))
noncomputable def f_other_letter : GF := runD 1 b_other_letter

abbrev st_exchanged_saying : Stmt := top 38
theorem sc_exchanged_saying : FnScope ["saying", "found", "part"] ["saying"] (defScope st_exchanged_saying) := ⟨rfl, rfl, rfl, by decide +kernel, rfl, by decide +kernel, by decide +kernel⟩
theorem bd_exchanged_saying {K : PySem.W.Frag} {f : Addr} {fd : FuncData} (F : Fun K "exchanged_saying" "exchanged_saying" st_exchanged_saying f fd) : Binds K fd ["saying"] [] := F.binds (ps := ["saying"]) fun _ _ _ _ _ _ us hl => match us, hl with | [_], _ => rfl
noncomputable def b_exchanged_saying (rec : GF) : Sv :=
  (sSeq (sIf (tB' (e2 (gIn false) (e2 gIx (eVar 0) (eK (.int 0))) (eK (.tuple [(.str "below"), (.str "at"), (.str "above"), (.str "not below"), (.str "not at"), (.str "not above")])))) (sRet (eTup (aCons (e2 gIx (eVar 0) (eK (.int 0))) (aCons (cF 1 f_exchanged_by (aCons (e2 gIx (eVar 0) (eK (.int 1))) aNil)) aNil)))) sNext)
    (sSeq (sIf (tB' (e1 (gInD true [("not", (.tuple [(.int 1)])), ("both", (.tuple [(.int 1), (.int 2)])), ("either", (.tuple [(.int 1), (.int 2)])), ("all", (.tuple [(.int 2)])), ("some", (.tuple [(.int 2)]))]) (e2 gIx (eVar 0) (eK (.int 0))))) (sRet (eVar 0)) sNext)
    (sSeq (sAsg (cF 2 f_with_parts (aCons (eVar 0) (aCons (eFrz (lLc (iAny (cF 1 f_parts_of (aCons (eVar 0) aNil))) (gNm 2) bYes (cF 1 rec (aCons (eVar 2) aNil)) [2])) aNil))) (gNm 1))
    (sRet (eIf (tB' (e2 (gIn false) (e2 gIx (eVar 0) (eK (.int 0))) (eTup (aCons (eK (.str "all")) (aCons (eK (.str "some")) aNil))))) (eTup (aCons (e2 gIx (eVar 0) (eK (.int 0))) (aCons (cF 1 f_other_letter (aCons (e2 gIx (eVar 0) (eK (.int 1))) aNil)) (aCons (e2 gIx (eVar 1) (eK (.int 2))) aNil)))) (eVar 1))))))
noncomputable def f_exchanged_saying : Nat → GF
  | 0 => fun _ _ => .bad
  | n + 1 => runD 3 (b_exchanged_saying (f_exchanged_saying n))

abbrev st_row_put : Stmt := top 39
theorem sc_row_put : FnScope ["row", "fraction", "degree", "top", "low", "at", "each"] ["row", "fraction", "degree"] (defScope st_row_put) := ⟨rfl, rfl, rfl, by decide +kernel, rfl, by decide +kernel, by decide +kernel⟩
theorem bd_row_put {K : PySem.W.Frag} {f : Addr} {fd : FuncData} (F : Fun K "row_put" "row_put" st_row_put f fd) : Binds K fd ["row", "fraction", "degree"] [] := F.binds (ps := ["row", "fraction", "degree"]) fun _ _ _ _ _ _ us hl => match us, hl with | [_, _, _], _ => rfl
noncomputable def b_row_put : Sv :=
  (sSeq (sAsg (eVar 1) (gTp [(gNm 3), (gNm 4)]))
    (sRet (en gSum (aCons (eFrz (lLc (iEnumT (aCons (eVar 0) aNil)) (gTp [(gNm 5), (gNm 6)]) bYes (e2 gTimes (e2 gTimes (eVar 6) (cF 2 f_power_of (aCons (eVar 3) (aCons (eVar 5) aNil)))) (cF 2 f_power_of (aCons (eVar 4) (aCons (e2 gSub (eVar 2) (eVar 5)) aNil)))) [5, 6])) aNil))))
noncomputable def f_row_put : GF := runD 7 b_row_put

abbrev st_letter_poly : Stmt := top 41
theorem sc_letter_poly : FnScope ["row", "letter", "each"] ["row", "letter"] (defScope st_letter_poly) := ⟨rfl, rfl, rfl, by decide +kernel, rfl, by decide +kernel, by decide +kernel⟩
theorem bd_letter_poly {K : PySem.W.Frag} {f : Addr} {fd : FuncData} (F : Fun K "letter_poly" "letter_poly" st_letter_poly f fd) : Binds K fd ["row", "letter"] [] := F.binds (ps := ["row", "letter"]) fun _ _ _ _ _ _ us hl => match us, hl with | [_, _], _ => rfl
noncomputable def b_letter_poly : Sv :=
  (sSeq (sIf (tB' (e2 (gEq false) (eVar 1) (eK (.str "x")))) (sRet (eIf (tB' (e2 (gEq true) (eVar 0) (eTup aNil))) (eTup (aCons (eVar 0) aNil)) (eTup aNil))) sNext)
    (sRet (en gTuple (aCons (eFrz (lLc (iAny (eVar 0)) (gNm 2) bYes (eIf (tB' (e2 (gEq true) (eVar 2) (eK (.int 0)))) (eTup (aCons (eVar 2) aNil)) (eTup aNil)) [2])) aNil))))
noncomputable def f_letter_poly : GF := runD 3 b_letter_poly

abbrev st_poly_put : Stmt := top 40
theorem sc_poly_put : FnScope ["poly", "letter", "fraction", "degree", "row"] ["poly", "letter", "fraction"] (defScope st_poly_put) := ⟨rfl, rfl, rfl, by decide +kernel, rfl, by decide +kernel, by decide +kernel⟩
theorem bd_poly_put {K : PySem.W.Frag} {f : Addr} {fd : FuncData} (F : Fun K "poly_put" "poly_put" st_poly_put f fd) : Binds K fd ["poly", "letter", "fraction"] [] := F.binds (ps := ["poly", "letter", "fraction"]) fun _ _ _ _ _ _ us hl => match us, hl with | [_, _, _], _ => rfl
noncomputable def b_poly_put (rec : GF) : Sv :=
  (sSeq (sIf (tB' (e2 (gEq false) (eVar 1) (eK (.str "y")))) (sRet (cF 1 f_exchanged_by (aCons (cF 3 rec (aCons (cF 1 f_exchanged_by (aCons (eVar 0) aNil)) (aCons (eK (.str "x")) (aCons (eVar 2) aNil)))) aNil))) sNext)
    (sSeq (sIf (tB' (e2 (gEq false) (eVar 0) (eTup aNil))) (sRet (eVar 0)) sNext)
    (sSeq (sAsg (e2 gSub (en gMax (aCons (eFrz (lLc (iAny (eVar 0)) (gNm 4) bYes (en gLen (aCons (eVar 4) aNil)) [4])) aNil)) (eK (.int 1))) (gNm 3))
    (sRet (cF 2 f_letter_poly (aCons (cF 1 f_trimmed (aCons (eFrz (lLc (iAny (eVar 0)) (gNm 4) bYes (cF 3 f_row_put (aCons (eVar 4) (aCons (eVar 2) (aCons (eVar 3) aNil)))) [4])) aNil)) (aCons (eK (.str "y")) aNil)))))))
noncomputable def f_poly_put : Nat → GF
  | 0 => fun _ _ => .bad
  | n + 1 => runD 5 (b_poly_put (f_poly_put n))

abbrev st_put_by : Stmt := top 42
theorem sc_put_by : FnScope ["saying", "letter", "fraction", "part"] ["saying", "letter", "fraction"] (defScope st_put_by) := ⟨rfl, rfl, rfl, by decide +kernel, rfl, by decide +kernel, by decide +kernel⟩
theorem bd_put_by {K : PySem.W.Frag} {f : Addr} {fd : FuncData} (F : Fun K "put_by" "put_by" st_put_by f fd) : Binds K fd ["saying", "letter", "fraction"] [] := F.binds (ps := ["saying", "letter", "fraction"]) fun _ _ _ _ _ _ us hl => match us, hl with | [_, _, _], _ => rfl
noncomputable def b_put_by (rec : GF) : Sv :=
  (sSeq (sIf (tB' (e2 (gIn false) (e2 gIx (eVar 0) (eK (.int 0))) (eK (.tuple [(.str "below"), (.str "at"), (.str "above"), (.str "not below"), (.str "not at"), (.str "not above")])))) (sRet (eTup (aCons (e2 gIx (eVar 0) (eK (.int 0))) (aCons (cF 3 (f_poly_put 3) (aCons (e2 gIx (eVar 0) (eK (.int 1))) (aCons (eVar 1) (aCons (eVar 2) aNil)))) aNil)))) sNext)
    (sSeq (sIf (bOr (tB' (e1 (gInD true [("not", (.tuple [(.int 1)])), ("both", (.tuple [(.int 1), (.int 2)])), ("either", (.tuple [(.int 1), (.int 2)])), ("all", (.tuple [(.int 2)])), ("some", (.tuple [(.int 2)]))]) (e2 gIx (eVar 0) (eK (.int 0))))) (bAnd (tB' (e2 (gIn false) (e2 gIx (eVar 0) (eK (.int 0))) (eTup (aCons (eK (.str "all")) (aCons (eK (.str "some")) aNil))))) (tB' (e2 (gEq false) (e2 gIx (eVar 0) (eK (.int 1))) (eVar 1))))) (sRet (eVar 0)) sNext)
    (sRet (cF 2 f_with_parts (aCons (eVar 0) (aCons (eFrz (lLc (iAny (cF 1 f_parts_of (aCons (eVar 0) aNil))) (gNm 3) bYes (cF 3 rec (aCons (eVar 3) (aCons (eVar 1) (aCons (eVar 2) aNil)))) [3])) aNil))))))
noncomputable def f_put_by : Nat → GF
  | 0 => fun _ _ => .bad
  | n + 1 => runD 4 (b_put_by (f_put_by n))

abbrev st_opposite_relation : Stmt := top 43
theorem sc_opposite_relation : FnScope ["relation"] ["relation"] (defScope st_opposite_relation) := ⟨rfl, rfl, rfl, by decide +kernel, rfl, by decide +kernel, by decide +kernel⟩
theorem bd_opposite_relation {K : PySem.W.Frag} {f : Addr} {fd : FuncData} (F : Fun K "opposite_relation" "opposite_relation" st_opposite_relation f fd) : Binds K fd ["relation"] [] := F.binds (ps := ["relation"]) fun _ _ _ _ _ _ us hl => match us, hl with | [_], _ => rfl
noncomputable def b_opposite_relation : Sv :=
  (sRet (eIf (tB' (eStr1 (fun a b => .bool (Txt.startswith a b)) (eVar 0) (eK (.str "not ")))) (eSl (eVar 0) (some (eK (.int 4))) none) (e2 gPlus (eK (.str "not ")) (eVar 0))))
noncomputable def f_opposite_relation : GF := runD 1 b_opposite_relation

abbrev st_pushed_by : Stmt := top 44
theorem sc_pushed_by : FnScope ["saying", "is_turned", "word", "head", "part"] ["saying", "is_turned"] (defScope st_pushed_by) := ⟨rfl, rfl, rfl, by decide +kernel, rfl, by decide +kernel, by decide +kernel⟩
theorem bd_pushed_by {K : PySem.W.Frag} {f : Addr} {fd : FuncData} (F : Fun K "pushed_by" "pushed_by" st_pushed_by f fd) : Binds K fd ["saying", "is_turned"] [] := F.binds (ps := ["saying", "is_turned"]) fun _ _ _ _ _ _ us hl => match us, hl with | [_, _], _ => rfl
noncomputable def b_pushed_by (rec : GF) : Sv :=
  (sSeq (sAsg (e2 gIx (eVar 0) (eK (.int 0))) (gNm 2))
    (sSeq (sIf (tB' (e2 (gIn false) (eVar 2) (eK (.tuple [(.str "below"), (.str "at"), (.str "above"), (.str "not below"), (.str "not at"), (.str "not above")])))) (sRet (eTup (aCons (eIf (tB' (eVar 1)) (cF 1 f_opposite_relation (aCons (eVar 2) aNil)) (eVar 2)) (aCons (e2 gIx (eVar 0) (eK (.int 1))) aNil)))) sNext)
    (sSeq (sIf (tB' (e2 (gEq false) (eVar 2) (eK (.str "not")))) (sRet (cF 2 rec (aCons (e2 gIx (eVar 0) (eK (.int 1))) (aCons (eNot (eVar 1)) aNil)))) sNext)
    (sSeq (sAsg (eIf (tB' (eVar 1)) (e1 (gItD [("both", (.str "either")), ("either", (.str "both")), ("all", (.str "some")), ("some", (.str "all")), ("true", (.str "false")), ("false", (.str "true"))]) (eVar 2)) (eVar 2)) (gNm 3))
    (sSeq (sIf (tB' (e1 (gInD true [("not", (.tuple [(.int 1)])), ("both", (.tuple [(.int 1), (.int 2)])), ("either", (.tuple [(.int 1), (.int 2)])), ("all", (.tuple [(.int 2)])), ("some", (.tuple [(.int 2)]))]) (eVar 2))) (sRet (eTup (aCons (eVar 3) aNil))) sNext)
    (sRet (e2 gPlus (eTup (aCons (eVar 3) aNil)) (eSl (cF 2 f_with_parts (aCons (eVar 0) (aCons (eFrz (lLc (iAny (cF 1 f_parts_of (aCons (eVar 0) aNil))) (gNm 4) bYes (cF 2 rec (aCons (eVar 4) (aCons (eVar 1) aNil))) [4])) aNil))) (some (eK (.int 1))) none))))))))
noncomputable def f_pushed_by : Nat → GF
  | 0 => fun _ _ => .bad
  | n + 1 => runD 5 (b_pushed_by (f_pushed_by n))

abbrev st_check_many : Stmt := top 46
theorem sc_check_many : FnScope ["saying", "many"] ["saying"] (defScope st_check_many) := ⟨rfl, rfl, rfl, by decide +kernel, rfl, by decide +kernel, by decide +kernel⟩
theorem bd_check_many {K : PySem.W.Frag} {f : Addr} {fd : FuncData} (F : Fun K "check_many" "check_many" st_check_many f fd) : Binds K fd ["saying"] [] := F.binds (ps := ["saying"]) fun _ _ _ _ _ _ us hl => match us, hl with | [_], _ => rfl
noncomputable def b_check_many : Sv :=
  (sSeq (sAsg (en gLen (aCons (cF 1 (f_polys_by 24) (aCons (eVar 0) aNil)) aNil)) (gNm 1))
    (sIf (tB' (e2 (gCmp fun i j => decide (j < i)) (eVar 1) (eK (.int 8)))) sNever sNext))
noncomputable def f_check_many : GF := runD 2 b_check_many

abbrev st_check_saying : Stmt := top 47
theorem sc_check_saying : FnScope ["value"] ["value"] (defScope st_check_saying) := ⟨rfl, rfl, rfl, by decide +kernel, rfl, by decide +kernel, by decide +kernel⟩
theorem bd_check_saying {K : PySem.W.Frag} {f : Addr} {fd : FuncData} (F : Fun K "check_saying" "check_saying" st_check_saying f fd) : Binds K fd ["value"] [] := F.binds (ps := ["value"]) fun _ _ _ _ _ _ us hl => match us, hl with | [_], _ => rfl
noncomputable def b_check_saying : Sv :=
  (sSeq (sIf (bNot (tB' (cF 2 (f_is_sayinged 12) (aCons (eVar 0) (aCons (eK (.int 10)) aNil))))) sNever sNext)
    (sExpr (cF 1 f_check_many (aCons (eVar 0) aNil))))
noncomputable def f_check_saying : GF := runD 1 b_check_saying

abbrev st_check_letter : Stmt := top 48
theorem sc_check_letter : FnScope ["value"] ["value"] (defScope st_check_letter) := ⟨rfl, rfl, rfl, by decide +kernel, rfl, by decide +kernel, by decide +kernel⟩
theorem bd_check_letter {K : PySem.W.Frag} {f : Addr} {fd : FuncData} (F : Fun K "check_letter" "check_letter" st_check_letter f fd) : Binds K fd ["value"] [] := F.binds (ps := ["value"]) fun _ _ _ _ _ _ us hl => match us, hl with | [_], _ => rfl
noncomputable def b_check_letter : Sv :=
  (sIf (bNot (tB' (cF 1 f_is_letter (aCons (eVar 0) aNil)))) sNever sNext)
noncomputable def f_check_letter : GF := runD 1 b_check_letter

abbrev st_depth_of : Stmt := top 50
theorem sc_depth_of : FnScope ["saying"] ["saying"] (defScope st_depth_of) := ⟨rfl, rfl, rfl, by decide +kernel, rfl, by decide +kernel, by decide +kernel⟩
theorem bd_depth_of {K : PySem.W.Frag} {f : Addr} {fd : FuncData} (F : Fun K "depth_of" "depth_of" st_depth_of f fd) : Binds K fd ["saying"] [] := F.binds (ps := ["saying"]) fun _ _ _ _ _ _ us hl => match us, hl with | [_], _ => rfl
noncomputable def b_depth_of : Sv :=
  (sSeq (sExpr (cF 1 f_check_saying (aCons (eVar 0) aNil)))
    (sRet (cF 1 (f_depth_by 24) (aCons (eVar 0) aNil))))
noncomputable def f_depth_of : GF := runD 1 b_depth_of

abbrev st_exchanged : Stmt := top 51
theorem sc_exchanged : FnScope ["saying"] ["saying"] (defScope st_exchanged) := ⟨rfl, rfl, rfl, by decide +kernel, rfl, by decide +kernel, by decide +kernel⟩
theorem bd_exchanged {K : PySem.W.Frag} {f : Addr} {fd : FuncData} (F : Fun K "exchanged" "exchanged" st_exchanged f fd) : Binds K fd ["saying"] [] := F.binds (ps := ["saying"]) fun _ _ _ _ _ _ us hl => match us, hl with | [_], _ => rfl
noncomputable def b_exchanged : Sv :=
  (sSeq (sExpr (cF 1 f_check_saying (aCons (eVar 0) aNil)))
    (sRet (cF 1 (f_exchanged_saying 24) (aCons (eVar 0) aNil))))
noncomputable def f_exchanged : GF := runD 1 b_exchanged

abbrev st_put_for : Stmt := top 52
theorem sc_put_for : FnScope ["saying", "letter", "fraction"] ["saying", "letter", "fraction"] (defScope st_put_for) := ⟨rfl, rfl, rfl, by decide +kernel, rfl, by decide +kernel, by decide +kernel⟩
theorem bd_put_for {K : PySem.W.Frag} {f : Addr} {fd : FuncData} (F : Fun K "put_for" "put_for" st_put_for f fd) : Binds K fd ["saying", "letter", "fraction"] [] := F.binds (ps := ["saying", "letter", "fraction"]) fun _ _ _ _ _ _ us hl => match us, hl with | [_, _, _], _ => rfl
noncomputable def b_put_for : Sv :=
  (sSeq (sExpr (cF 1 f_check_saying (aCons (eVar 0) aNil)))
    (sSeq (sExpr (cF 1 f_check_letter (aCons (eVar 1) aNil)))
    (sSeq (sExpr (cF 1 f_check_fraction (aCons (eVar 2) aNil)))
    (sRet (cF 3 (f_put_by 24) (aCons (eVar 0) (aCons (eVar 1) (aCons (eVar 2) aNil))))))))
noncomputable def f_put_for : GF := runD 3 b_put_for

abbrev st_pushed : Stmt := top 53
theorem sc_pushed : FnScope ["saying"] ["saying"] (defScope st_pushed) := ⟨rfl, rfl, rfl, by decide +kernel, rfl, by decide +kernel, by decide +kernel⟩
theorem bd_pushed {K : PySem.W.Frag} {f : Addr} {fd : FuncData} (F : Fun K "pushed" "pushed" st_pushed f fd) : Binds K fd ["saying"] [] := F.binds (ps := ["saying"]) fun _ _ _ _ _ _ us hl => match us, hl with | [_], _ => rfl
noncomputable def b_pushed : Sv :=
  (sSeq (sExpr (cF 1 f_check_saying (aCons (eVar 0) aNil)))
    (sRet (cF 2 (f_pushed_by 24) (aCons (eVar 0) (aCons (eK (.bool false)) aNil)))))
noncomputable def f_pushed : GF := runD 1 b_pushed

abbrev st_law_well : Stmt := top 55
theorem sc_law_well : FnScope ["_law_script", "_law_at", "_law_mixed", "_law_cell", "_law_own"] ["_law_script", "_law_at"] (defScope st_law_well) := ⟨rfl, rfl, rfl, by decide +kernel, rfl, by decide +kernel, by decide +kernel⟩
theorem bd_law_well {K : PySem.W.Frag} {f : Addr} {fd : FuncData} (F : Fun K "_law_well" "_law_well" st_law_well f fd) : Binds K fd ["_law_script", "_law_at"] [] := F.binds (ps := ["_law_script", "_law_at"]) fun _ _ _ _ _ _ us hl => match us, hl with | [_, _], _ => rfl
noncomputable def b_law_well : Sv :=
  (sSeq (sAsg (e2 gPlus (eK (.int 1138813)) (e2 gTimes (eK (.int 6447)) (eVar 1))) (gNm 2))
    (sSeq (sFor (iAny (eSl (eVar 0) none (some (eK (.int 9))))) (gNm 3) (sAsg (e2 gMod (en gInt (aCons (e2 gPlus (e2 gPlus (e2 gTimes (eVar 2) (eK (.int 47903))) (e2 gMod (en gInt (aCons (eVar 3) aNil)) (eK (.int 2147483587)))) (eK (.int 5))) aNil)) (eK (.int 2147483563))) (gNm 2)))
    (sSeq (sAsg (eIf (tB' (e2 (gCmp fun i j => decide (i < j)) (eVar 1) (en gLen (aCons (eVar 0) aNil)))) (en gInt (aCons (e2 gIx (eVar 0) (eVar 1)) aNil)) (eK (.int 0))) (gNm 4))
    (sSeq (sAsg (e2 gMod (en gInt (aCons (e2 gPlus (e2 gPlus (e2 gTimes (eVar 2) (eK (.int 43))) (e2 gTimes (e2 gMod (en gInt (aCons (eVar 4) aNil)) (eK (.int 2147483587))) (eK (.int 20187)))) (eK (.int 7))) aNil)) (eK (.int 2147483563))) (gNm 2))
    (sRet (eNew (lDisp (aCons (eIf (bOr (tB' (e2 (gCmp fun i j => decide (i < j)) (eVar 4) (eK (.int 0)))) (tB' (e2 (gCmp fun i j => decide (j ≤ i)) (eVar 4) (e2 gPow (eK (.int 10)) (eK (.int 14)))))) (en gAbs (aCons (eVar 4) aNil)) (eK (.int 0))) (aCons (eVar 2) (aCons (eK (.int 0)) aNil))))))))))
noncomputable def f_law_well : GF := runD 5 b_law_well

abbrev st_law_draw : Stmt := top 56
theorem sc_law_draw : FnScope ["_law_well_here", "_law_many", "_law_seed", "_law_figure"] ["_law_well_here", "_law_many"] (defScope st_law_draw) := ⟨rfl, rfl, rfl, by decide +kernel, rfl, by decide +kernel, by decide +kernel⟩
theorem bd_law_draw {K : PySem.W.Frag} {f : Addr} {fd : FuncData} (F : Fun K "_law_draw" "_law_draw" st_law_draw f fd) : Binds K fd ["_law_well_here", "_law_many"] [] := F.binds (ps := ["_law_well_here", "_law_many"]) fun _ _ _ _ _ _ us hl => match us, hl with | [_, _], _ => rfl
noncomputable def b_law_draw : Sv :=
  (sSeq (sIf (tB' (e2 (gCmp fun i j => decide (j < i)) (e2 gIx (eVar 0) (eK (.int 0))) (eK (.int 0)))) (sSeq (sAsg (en gDivmod (aCons (e2 gIx (eVar 0) (eK (.int 0))) (aCons (eVar 1) aNil))) (gTp [(gSb (eVar 0) (eK (.int 0))), (gNm 3)]))
    (sRet (eVar 3))) sNext)
    (sSeq (sAsg (e2 gPlus (e2 gIx (eVar 0) (eK (.int 2))) (eK (.int 1))) (gSb (eVar 0) (eK (.int 2))))
    (sSeq (sAsg (e2 gMod (en gInt (aCons (e2 gPlus (e2 gIx (eVar 0) (eK (.int 1))) (e2 gTimes (eK (.int 60277)) (e2 gIx (eVar 0) (eK (.int 2))))) aNil)) (eK (.int 2147483563))) (gNm 2))
    (sSeq (sAsg (e2 gMod (en gInt (aCons (e2 gPlus (e2 gTimes (eVar 2) (e2 gPlus (e2 gMod (en gInt (aCons (eVar 2) aNil)) (eK (.int 5003))) (eK (.int 40009)))) (e2 gTimes (eK (.int 41)) (e2 gIx (eVar 0) (eK (.int 2))))) aNil)) (eK (.int 2147483563))) (gSb (eVar 0) (eK (.int 1))))
    (sRet (e2 gMod (en gInt (aCons (e2 gDiv (e2 gIx (eVar 0) (eK (.int 1))) (eK (.int 641))) aNil)) (eVar 1)))))))
noncomputable def f_law_draw : GF := runD 4 b_law_draw

abbrev st_law_pick : Stmt := top 57
theorem sc_law_pick : FnScope ["_law_well_here", "_law_some"] ["_law_well_here", "_law_some"] (defScope st_law_pick) := ⟨rfl, rfl, rfl, by decide +kernel, rfl, by decide +kernel, by decide +kernel⟩
theorem bd_law_pick {K : PySem.W.Frag} {f : Addr} {fd : FuncData} (F : Fun K "_law_pick" "_law_pick" st_law_pick f fd) : Binds K fd ["_law_well_here", "_law_some"] [] := F.binds (ps := ["_law_well_here", "_law_some"]) fun _ _ _ _ _ _ us hl => match us, hl with | [_, _], _ => rfl
noncomputable def b_law_pick : Sv :=
  (sRet (e2 gIx (eVar 1) (cF 2 f_law_draw (aCons (eVar 0) (aCons (en gLen (aCons (eVar 1) aNil)) aNil)))))
noncomputable def f_law_pick : GF := runD 2 b_law_pick

abbrev st_law_share : Stmt := top 58
theorem sc_law_share : FnScope ["_law_one", "_law_two", "_law_far", "_law_rest"] ["_law_one", "_law_two"] (defScope st_law_share) := ⟨rfl, rfl, rfl, by decide +kernel, rfl, by decide +kernel, by decide +kernel⟩
theorem bd_law_share {K : PySem.W.Frag} {f : Addr} {fd : FuncData} (F : Fun K "_law_share" "_law_share" st_law_share f fd) : Binds K fd ["_law_one", "_law_two"] [] := F.binds (ps := ["_law_one", "_law_two"]) fun _ _ _ _ _ _ us hl => match us, hl with | [_, _], _ => rfl
noncomputable def b_law_share : Sv :=
  (sSeq (sPar 2 3 (aCons (en gAbs (aCons (eVar 0) aNil)) (aCons (en gAbs (aCons (eVar 1) aNil)) aNil)))
    (sSeq (sWhile (tB' (e2 (gEq true) (eVar 3) (eK (.int 0)))) (sPar 2 3 (aCons (eVar 3) (aCons (e2 gMod (en gInt (aCons (eVar 2) aNil)) (eVar 3)) aNil))))
    (sRet (eVar 2))))
noncomputable def f_law_share : GF := runD 4 b_law_share

abbrev st_law_lean : Stmt := top 59
theorem sc_law_lean : FnScope ["_law_top", "_law_low", "_law_by"] ["_law_top", "_law_low"] (defScope st_law_lean) := ⟨rfl, rfl, rfl, by decide +kernel, rfl, by decide +kernel, by decide +kernel⟩
theorem bd_law_lean {K : PySem.W.Frag} {f : Addr} {fd : FuncData} (F : Fun K "_law_lean" "_law_lean" st_law_lean f fd) : Binds K fd ["_law_top", "_law_low"] [] := F.binds (ps := ["_law_top", "_law_low"]) fun _ _ _ _ _ _ us hl => match us, hl with | [_, _], _ => rfl
noncomputable def b_law_lean : Sv :=
  (sSeq (sAsg (eIf (tB' (e2 (gCmp fun i j => decide (j < i)) (eVar 1) (eK (.int 0)))) (cF 2 f_law_share (aCons (eVar 0) (aCons (eVar 1) aNil))) (e2 gSub (eK (.int 0)) (cF 2 f_law_share (aCons (eVar 0) (aCons (eVar 1) aNil))))) (gNm 2))
    (sRet (eTup (aCons (e2 gDiv (eVar 0) (eVar 2)) (aCons (e2 gDiv (eVar 1) (eVar 2)) aNil)))))
noncomputable def f_law_lean : GF := runD 3 b_law_lean

abbrev st_law_row : Stmt := top 60
theorem sc_law_row : FnScope ["_law_some", "_law_spot"] ["_law_some"] (defScope st_law_row) := ⟨rfl, rfl, rfl, by decide +kernel, rfl, by decide +kernel, by decide +kernel⟩
theorem bd_law_row {K : PySem.W.Frag} {f : Addr} {fd : FuncData} (F : Fun K "_law_row" "_law_row" st_law_row f fd) : Binds K fd ["_law_some"] [] := F.binds (ps := ["_law_some"]) fun _ _ _ _ _ _ us hl => match us, hl with | [_], _ => rfl
noncomputable def b_law_row : Sv :=
  (sSeq (sAsg (en gLen (aCons (eVar 0) aNil)) (gNm 1))
    (sSeq (sWhile (bAnd (tB' (e2 (gCmp fun i j => decide (j < i)) (eVar 1) (eK (.int 0)))) (tB' (e2 (gEq false) (e2 gIx (eVar 0) (e2 gSub (eVar 1) (eK (.int 1)))) (eK (.int 0))))) (sAsg (e2 gSub (eVar 1) (eK (.int 1))) (gNm 1)))
    (sRet (en gTuple (aCons (eSl (eVar 0) none (some (eVar 1))) aNil)))))
noncomputable def f_law_row : GF := runD 2 b_law_row

abbrev st_law_number : Stmt := top 61
theorem sc_law_number : FnScope ["_law_well_here", "_law_kind"] ["_law_well_here"] (defScope st_law_number) := ⟨rfl, rfl, rfl, by decide +kernel, rfl, by decide +kernel, by decide +kernel⟩
theorem bd_law_number {K : PySem.W.Frag} {f : Addr} {fd : FuncData} (F : Fun K "_law_number" "_law_number" st_law_number f fd) : Binds K fd ["_law_well_here"] [] := F.binds (ps := ["_law_well_here"]) fun _ _ _ _ _ _ us hl => match us, hl with | [_], _ => rfl
noncomputable def b_law_number : Sv :=
  (sSeq (sAsg (cF 2 f_law_draw (aCons (eVar 0) (aCons (eK (.int 12)) aNil))) (gNm 1))
    (sSeq (sIf (tB' (e2 (gCmp fun i j => decide (i < j)) (eVar 1) (eK (.int 10)))) (sRet (e2 gIx (eTup (aCons (eK (.int 0)) (aCons (eK (.int 1)) (aCons (e1 gNeg (eK (.int 1))) (aCons (eK (.int 0)) (aCons (eK (.int 2)) (aCons (eK (.int 3)) (aCons (eK (.int 0)) (aCons (e1 gNeg (eK (.int 2))) (aCons (eK (.int 5)) (aCons (eK (.int 1)) aNil))))))))))) (eVar 1))) sNext)
    (sRet (eIf (tB' (e2 (gEq false) (eVar 1) (eK (.int 10)))) (e2 gSub (cF 2 f_law_draw (aCons (eVar 0) (aCons (eK (.int 2000003)) aNil))) (eK (.int 1000001))) (e2 gSub (e2 gPow (eK (.int 10)) (eK (.int 20))) (cF 2 f_law_draw (aCons (eVar 0) (aCons (eK (.int 5)) aNil))))))))
noncomputable def f_law_number : GF := runD 2 b_law_number

abbrev st_law_poly : Stmt := top 62
theorem sc_law_poly : FnScope ["_law_well_here", "_law_lap", "_law_kind", "_law_found", "_law_figures", "_law_turn"] ["_law_well_here"] (defScope st_law_poly) := ⟨rfl, rfl, rfl, by decide +kernel, rfl, by decide +kernel, by decide +kernel⟩
theorem bd_law_poly {K : PySem.W.Frag} {f : Addr} {fd : FuncData} (F : Fun K "_law_poly" "_law_poly" st_law_poly f fd) : Binds K fd ["_law_well_here"] [] := F.binds (ps := ["_law_well_here"]) fun _ _ _ _ _ _ us hl => match us, hl with | [_], _ => rfl
noncomputable def b_law_poly : Sv :=
  (sSeq (sPar 2 3 (aCons (cF 2 f_law_draw (aCons (eVar 0) (aCons (eK (.int 10)) aNil))) (aCons (eNew (lDisp aNil)) aNil)))
    (sSeq (sFor (iR1 (aCons (e2 gPlus (eK (.int 1)) (cF 2 f_law_draw (aCons (eVar 0) (aCons (eIf (tB' (e2 (gEq false) (eVar 2) (eK (.int 1)))) (eK (.int 5)) (eK (.int 3))) aNil)))) aNil)) (gNm 1) (sSeq (sAsg (eNew (lDisp aNil)) (gNm 4))
    (sSeq (sFor (iR1 (aCons (cF 2 f_law_draw (aCons (eVar 0) (aCons (eIf (tB' (e2 (gEq false) (eVar 2) (eK (.int 2)))) (eK (.int 6)) (eK (.int 4))) aNil))) aNil)) (gNm 5) (sExpr (eMeth1 gApp (eVar 4) (aCons (cF 1 f_law_number (aCons (eVar 0) aNil)) aNil))))
    (sExpr (eMeth1 gApp (eVar 3) (aCons (cF 1 f_law_row (aCons (eVar 4) aNil)) aNil))))))
    (sSeq (sWhile (bAnd (tB' (e2 (gEq true) (eVar 3) (eFrz (lDisp aNil)))) (tB' (e2 (gEq false) (e2 gIx (eVar 3) (e1 gNeg (eK (.int 1)))) (eTup aNil)))) (sExpr (e1 gPop (eVar 3))))
    (sRet (en gTuple (aCons (eVar 3) aNil))))))
noncomputable def f_law_poly : GF := runD 6 b_law_poly

abbrev st_law_leaf : Stmt := top 63
theorem sc_law_leaf : FnScope ["_law_well_here", "_law_some", "_law_word"] ["_law_well_here", "_law_some"] (defScope st_law_leaf) := ⟨rfl, rfl, rfl, by decide +kernel, rfl, by decide +kernel, by decide +kernel⟩
theorem bd_law_leaf {K : PySem.W.Frag} {f : Addr} {fd : FuncData} (F : Fun K "_law_leaf" "_law_leaf" st_law_leaf f fd) : Binds K fd ["_law_well_here", "_law_some"] [] := F.binds (ps := ["_law_well_here", "_law_some"]) fun _ _ _ _ _ _ us hl => match us, hl with | [_, _], _ => rfl
noncomputable def b_law_leaf : Sv :=
  (sSeq (sIf (tB' (e2 (gEq false) (cF 2 f_law_draw (aCons (eVar 0) (aCons (eK (.int 15)) aNil))) (eK (.int 0)))) (sRet (eTup (aCons (cF 2 f_law_pick (aCons (eVar 0) (aCons (eTup (aCons (eK (.str "true")) (aCons (eK (.str "false")) aNil))) aNil))) aNil))) sNext)
    (sSeq (sAsg (cF 2 f_law_pick (aCons (eVar 0) (aCons (eTup (aCons (eK (.str "below")) (aCons (eK (.str "at")) (aCons (eK (.str "above")) (aCons (eK (.str "not below")) (aCons (eK (.str "not at")) (aCons (eK (.str "not above")) aNil))))))) aNil))) (gNm 2))
    (sRet (eTup (aCons (eVar 2) (aCons (cF 2 f_law_pick (aCons (eVar 0) (aCons (eVar 1) aNil))) aNil))))))
noncomputable def f_law_leaf : GF := runD 3 b_law_leaf

abbrev st_law_made : Stmt := top 64
theorem sc_law_made : FnScope ["_law_well_here", "_law_some", "_law_deep", "_law_word", "_law_last", "_law_kind", "_law_first"] ["_law_well_here", "_law_some", "_law_deep"] (defScope st_law_made) := ⟨rfl, rfl, rfl, by decide +kernel, rfl, by decide +kernel, by decide +kernel⟩
theorem bd_law_made {K : PySem.W.Frag} {f : Addr} {fd : FuncData} (F : Fun K "_law_made" "_law_made" st_law_made f fd) : Binds K fd ["_law_well_here", "_law_some", "_law_deep"] [] := F.binds (ps := ["_law_well_here", "_law_some", "_law_deep"]) fun _ _ _ _ _ _ us hl => match us, hl with | [_, _, _], _ => rfl
noncomputable def b_law_made (rec : GF) : Sv :=
  (sSeq (sIf (tB' (e2 (gCmp fun i j => decide (i < j)) (eVar 2) (eK (.int 2)))) (sRet (cF 2 f_law_leaf (aCons (eVar 0) (aCons (eVar 1) aNil)))) sNext)
    (sSeq (sPar 5 6 (aCons (cF 2 f_law_draw (aCons (eVar 0) (aCons (eK (.int 10)) aNil))) (aCons (cF 3 rec (aCons (eVar 0) (aCons (eVar 1) (aCons (e2 gSub (eVar 2) (eK (.int 1))) aNil)))) aNil)))
    (sSeq (sIf (tB' (e2 (gCmp fun i j => decide (i < j)) (eVar 5) (eK (.int 3)))) (sRet (eTup (aCons (eK (.str "not")) (aCons (eVar 6) aNil)))) sNext)
    (sSeq (sIf (tB' (e2 (gCmp fun i j => decide (i < j)) (eVar 5) (eK (.int 6)))) (sRet (eTup (aCons (cF 2 f_law_pick (aCons (eVar 0) (aCons (eTup (aCons (eK (.str "all")) (aCons (eK (.str "some")) aNil))) aNil))) (aCons (cF 2 f_law_pick (aCons (eVar 0) (aCons (eTup (aCons (eK (.str "x")) (aCons (eK (.str "y")) aNil))) aNil))) (aCons (eVar 6) aNil))))) sNext)
    (sSeq (sAsg (cF 2 f_law_pick (aCons (eVar 0) (aCons (eTup (aCons (eK (.str "both")) (aCons (eK (.str "either")) aNil))) aNil))) (gNm 3))
    (sSeq (sAsg (cF 3 rec (aCons (eVar 0) (aCons (eVar 1) (aCons (en gMin (aCons (e2 gSub (eVar 2) (eK (.int 1))) (aCons (e2 gPlus (eK (.int 1)) (cF 2 f_law_draw (aCons (eVar 0) (aCons (eK (.int 2)) aNil)))) aNil))) aNil)))) (gNm 4))
    (sRet (eIf (tB' (e2 (gEq false) (cF 2 f_law_draw (aCons (eVar 0) (aCons (eK (.int 2)) aNil))) (eK (.int 0)))) (eTup (aCons (eVar 3) (aCons (eVar 6) (aCons (eVar 4) aNil)))) (eTup (aCons (eVar 3) (aCons (eVar 4) (aCons (eVar 6) aNil))))))))))))
noncomputable def f_law_made : Nat → GF
  | 0 => fun _ _ => .bad
  | n + 1 => runD 7 (b_law_made (f_law_made n))

abbrev st_law_turned : Stmt := top 65
theorem sc_law_turned : FnScope ["_law_poly_here", "_law_found", "_law_at", "_law_row_here"] ["_law_poly_here"] (defScope st_law_turned) := ⟨rfl, rfl, rfl, by decide +kernel, rfl, by decide +kernel, by decide +kernel⟩
theorem bd_law_turned {K : PySem.W.Frag} {f : Addr} {fd : FuncData} (F : Fun K "_law_turned" "_law_turned" st_law_turned f fd) : Binds K fd ["_law_poly_here"] [] := F.binds (ps := ["_law_poly_here"]) fun _ _ _ _ _ _ us hl => match us, hl with | [_], _ => rfl
noncomputable def b_law_turned : Sv :=
  (sSeq (sAsg (eNew (lDisp aNil)) (gNm 1))
    (sSeq (sFor (iR1 (aCons (en gMax (aCons (e2 gPlus (eFrz (lLc (iAny (eVar 0)) (gNm 3) bYes (en gLen (aCons (eVar 3) aNil)) [3])) (eFrz (lDisp (aCons (eK (.int 0)) aNil)))) aNil)) aNil)) (gNm 2) (sExpr (eMeth1 gApp (eVar 1) (aCons (cF 1 f_law_row (aCons (eFrz (lLc (iAny (eVar 0)) (gNm 3) bYes (eIf (tB' (e2 (gCmp fun i j => decide (i < j)) (eVar 2) (en gLen (aCons (eVar 3) aNil)))) (e2 gIx (eVar 3) (eVar 2)) (eK (.int 0))) [3])) aNil)) aNil))))
    (sRet (en gTuple (aCons (eVar 1) aNil)))))
noncomputable def f_law_turned : GF := runD 4 b_law_turned

abbrev st_law_swapped : Stmt := top 66
theorem sc_law_swapped : FnScope ["_law_said", "_law_each"] ["_law_said"] (defScope st_law_swapped) := ⟨rfl, rfl, rfl, by decide +kernel, rfl, by decide +kernel, by decide +kernel⟩
theorem bd_law_swapped {K : PySem.W.Frag} {f : Addr} {fd : FuncData} (F : Fun K "_law_swapped" "_law_swapped" st_law_swapped f fd) : Binds K fd ["_law_said"] [] := F.binds (ps := ["_law_said"]) fun _ _ _ _ _ _ us hl => match us, hl with | [_], _ => rfl
noncomputable def b_law_swapped (rec : GF) : Sv :=
  (sSeq (sIf (tB' (e2 (gEq false) (en gLen (aCons (eVar 0) aNil)) (eK (.int 1)))) (sRet (eVar 0)) sNext)
    (sSeq (sIf (tB' (e2 (gIn false) (e2 gIx (eVar 0) (eK (.int 0))) (eTup (aCons (eK (.str "not")) (aCons (eK (.str "both")) (aCons (eK (.str "either")) aNil)))))) (sRet (e2 gPlus (eTup (aCons (e2 gIx (eVar 0) (eK (.int 0))) aNil)) (en gTuple (aCons (eFrz (lLc (iAny (eSl (eVar 0) (some (eK (.int 1))) none)) (gNm 1) bYes (cF 1 rec (aCons (eVar 1) aNil)) [1])) aNil)))) sNext)
    (sSeq (sIf (tB' (e2 (gEq false) (en gLen (aCons (eVar 0) aNil)) (eK (.int 3)))) (sRet (eTup (aCons (e2 gIx (eVar 0) (eK (.int 0))) (aCons (eIf (tB' (e2 (gEq false) (e2 gIx (eVar 0) (eK (.int 1))) (eK (.str "x")))) (eK (.str "y")) (eK (.str "x"))) (aCons (cF 1 rec (aCons (e2 gIx (eVar 0) (eK (.int 2))) aNil)) aNil))))) sNext)
    (sRet (eTup (aCons (e2 gIx (eVar 0) (eK (.int 0))) (aCons (cF 1 f_law_turned (aCons (e2 gIx (eVar 0) (eK (.int 1))) aNil)) aNil)))))))
noncomputable def f_law_swapped : Nat → GF
  | 0 => fun _ _ => .bad
  | n + 1 => runD 2 (b_law_swapped (f_law_swapped n))

abbrev st_law_scaled : Stmt := top 67
theorem sc_law_scaled : FnScope ["_law_row_here", "_law_spot", "_law_each", "_law_found", "_law_by"] ["_law_row_here", "_law_spot"] (defScope st_law_scaled) := ⟨rfl, rfl, rfl, by decide +kernel, rfl, by decide +kernel, by decide +kernel⟩
theorem bd_law_scaled {K : PySem.W.Frag} {f : Addr} {fd : FuncData} (F : Fun K "_law_scaled" "_law_scaled" st_law_scaled f fd) : Binds K fd ["_law_row_here", "_law_spot"] [] := F.binds (ps := ["_law_row_here", "_law_spot"]) fun _ _ _ _ _ _ us hl => match us, hl with | [_, _], _ => rfl
noncomputable def b_law_scaled : Sv :=
  (sSeq (sAsg (eTup (aCons (eK (.int 0)) (aCons (eK (.int 1)) aNil))) (gTp [(gNm 3), (gNm 4)]))
    (sSeq (sFor (iAny (e1 gRev (eVar 0))) (gNm 2) (sPar 3 4 (aCons (e2 gPlus (e2 gTimes (eVar 3) (e2 gIx (eVar 1) (eK (.int 0)))) (e2 gTimes (eVar 2) (eVar 4))) (aCons (e2 gTimes (eVar 4) (e2 gIx (eVar 1) (eK (.int 1)))) aNil))))
    (sRet (eVar 3))))
noncomputable def f_law_scaled : GF := runD 5 b_law_scaled

abbrev st_law_put : Stmt := top 68
theorem sc_law_put : FnScope ["_law_poly_here", "_law_letter", "_law_spot", "_law_at", "_law_row_here", "_law_found", "_law_most"] ["_law_poly_here", "_law_letter", "_law_spot"] (defScope st_law_put) := ⟨rfl, rfl, rfl, by decide +kernel, rfl, by decide +kernel, by decide +kernel⟩
theorem bd_law_put {K : PySem.W.Frag} {f : Addr} {fd : FuncData} (F : Fun K "_law_put" "_law_put" st_law_put f fd) : Binds K fd ["_law_poly_here", "_law_letter", "_law_spot"] [] := F.binds (ps := ["_law_poly_here", "_law_letter", "_law_spot"]) fun _ _ _ _ _ _ us hl => match us, hl with | [_, _, _], _ => rfl
noncomputable def b_law_put : Sv :=
  (sSeq (sIf (tB' (e2 (gEq false) (eVar 0) (eTup aNil))) (sRet (eTup aNil)) sNext)
    (sSeq (sPar 5 6 (aCons (eNew (lDisp aNil)) (aCons (en gMax (aCons (eFrz (lLc (iAny (eVar 0)) (gNm 4) bYes (en gLen (aCons (eVar 4) aNil)) [4])) aNil)) aNil)))
    (sSeq (sIf (tB' (e2 (gEq false) (eVar 1) (eK (.str "x")))) (sSeq (sFor (iAny (eVar 0)) (gNm 4) (sExpr (eMeth1 gApp (eVar 5) (aCons (cF 1 f_law_row (aCons (eFrz (lDisp (aCons (cF 2 f_law_scaled (aCons (e2 gPlus (eFrz (lList (aCons (eVar 4) aNil))) (eFrz (lRep (eFrz (lDisp (aCons (eK (.int 0)) aNil))) (e2 gSub (eVar 6) (en gLen (aCons (eVar 4) aNil)))))) (aCons (eVar 2) aNil))) aNil))) aNil)) aNil))))
    (sSeq (sWhile (bAnd (tB' (e2 (gEq true) (eVar 5) (eFrz (lDisp aNil)))) (tB' (e2 (gEq false) (e2 gIx (eVar 5) (e1 gNeg (eK (.int 1)))) (eTup aNil)))) (sExpr (e1 gPop (eVar 5))))
    (sRet (en gTuple (aCons (eVar 5) aNil))))) sNext)
    (sSeq (sFor (iR1 (aCons (eVar 6) aNil)) (gNm 3) (sExpr (eMeth1 gApp (eVar 5) (aCons (cF 2 f_law_scaled (aCons (eFrz (lLc (iAny (eVar 0)) (gNm 4) bYes (eIf (tB' (e2 (gCmp fun i j => decide (i < j)) (eVar 3) (en gLen (aCons (eVar 4) aNil)))) (e2 gIx (eVar 4) (eVar 3)) (eK (.int 0))) [4])) (aCons (eVar 2) aNil))) aNil))))
    (sSeq (sAsg (cF 1 f_law_row (aCons (eVar 5) aNil)) (gNm 4))
    (sRet (eIf (tB' (e2 (gEq true) (eVar 4) (eTup aNil))) (eTup (aCons (eVar 4) aNil)) (eTup aNil))))))))
noncomputable def f_law_put : GF := runD 7 b_law_put

abbrev st_law_filled : Stmt := top 69
theorem sc_law_filled : FnScope ["_law_said", "_law_letter", "_law_spot", "_law_each"] ["_law_said", "_law_letter", "_law_spot"] (defScope st_law_filled) := ⟨rfl, rfl, rfl, by decide +kernel, rfl, by decide +kernel, by decide +kernel⟩
theorem bd_law_filled {K : PySem.W.Frag} {f : Addr} {fd : FuncData} (F : Fun K "_law_filled" "_law_filled" st_law_filled f fd) : Binds K fd ["_law_said", "_law_letter", "_law_spot"] [] := F.binds (ps := ["_law_said", "_law_letter", "_law_spot"]) fun _ _ _ _ _ _ us hl => match us, hl with | [_, _, _], _ => rfl
noncomputable def b_law_filled (rec : GF) : Sv :=
  (sSeq (sIf (tB' (e2 (gEq false) (en gLen (aCons (eVar 0) aNil)) (eK (.int 1)))) (sRet (eVar 0)) sNext)
    (sSeq (sIf (tB' (e2 (gIn false) (e2 gIx (eVar 0) (eK (.int 0))) (eTup (aCons (eK (.str "not")) (aCons (eK (.str "both")) (aCons (eK (.str "either")) aNil)))))) (sRet (e2 gPlus (eTup (aCons (e2 gIx (eVar 0) (eK (.int 0))) aNil)) (en gTuple (aCons (eFrz (lLc (iAny (eSl (eVar 0) (some (eK (.int 1))) none)) (gNm 3) bYes (cF 3 rec (aCons (eVar 3) (aCons (eVar 1) (aCons (eVar 2) aNil)))) [3])) aNil)))) sNext)
    (sSeq (sIf (tB' (e2 (gIn false) (e2 gIx (eVar 0) (eK (.int 0))) (eTup (aCons (eK (.str "all")) (aCons (eK (.str "some")) aNil))))) (sRet (eIf (tB' (e2 (gEq false) (e2 gIx (eVar 0) (eK (.int 1))) (eVar 1))) (eVar 0) (e2 gPlus (eSl (eVar 0) none (some (eK (.int 2)))) (eTup (aCons (cF 3 rec (aCons (e2 gIx (eVar 0) (eK (.int 2))) (aCons (eVar 1) (aCons (eVar 2) aNil)))) aNil))))) sNext)
    (sRet (eTup (aCons (e2 gIx (eVar 0) (eK (.int 0))) (aCons (cF 3 f_law_put (aCons (e2 gIx (eVar 0) (eK (.int 1))) (aCons (eVar 1) (aCons (eVar 2) aNil)))) aNil)))))))
noncomputable def f_law_filled : Nat → GF
  | 0 => fun _ _ => .bad
  | n + 1 => runD 4 (b_law_filled (f_law_filled n))

abbrev st_law_led : Stmt := top 70
theorem sc_law_led : FnScope ["_law_said", "_law_is_not", "_law_word", "_law_words"] ["_law_said", "_law_is_not"] (defScope st_law_led) := ⟨rfl, rfl, rfl, by decide +kernel, rfl, by decide +kernel, by decide +kernel⟩
theorem bd_law_led {K : PySem.W.Frag} {f : Addr} {fd : FuncData} (F : Fun K "_law_led" "_law_led" st_law_led f fd) : Binds K fd ["_law_said", "_law_is_not"] [] := F.binds (ps := ["_law_said", "_law_is_not"]) fun _ _ _ _ _ _ us hl => match us, hl with | [_, _], _ => rfl
noncomputable def b_law_led (rec : GF) : Sv :=
  (sSeq (sAsg (e2 gIx (eVar 0) (eK (.int 0))) (gNm 2))
    (sSeq (sIf (tB' (e2 (gEq false) (eVar 2) (eK (.str "not")))) (sRet (cF 2 rec (aCons (e2 gIx (eVar 0) (eK (.int 1))) (aCons (eNot (eVar 1)) aNil)))) sNext)
    (sSeq (sIf (tB' (eVar 1)) (sSeq (sAsg (eTupX (aCons (eK (.str "true")) (aCons (eK (.str "false")) (aCons (eK (.str "both")) (aCons (eK (.str "either")) (aCons (eK (.str "all")) (aCons (eK (.str "some")) aNil))))))) (gNm 3))
    (sIf (tB' (e2 (gIn false) (eVar 2) (eUn (eVar 3)))) (sAsg (e2 gIx (eUn (eVar 3)) (e2 gPlus (eIdx (eVar 3) (eVar 2)) (eIf (tB' (e2 (gIn false) (eVar 2) (eTup (aCons (eK (.str "true")) (aCons (eK (.str "both")) (aCons (eK (.str "all")) aNil)))))) (eK (.int 1)) (e1 gNeg (eK (.int 1)))))) (gNm 2)) (sAsg (eIf (tB' (e2 (gEq false) (eSl (eVar 2) none (some (eK (.int 4)))) (eK (.str "not ")))) (eSl (eVar 2) (some (eK (.int 4))) none) (e2 gPlus (eK (.str "not ")) (eVar 2))) (gNm 2)))) sNext)
    (sSeq (sIf (tB' (e2 (gIn false) (eVar 2) (eTup (aCons (eK (.str "both")) (aCons (eK (.str "either")) aNil))))) (sRet (eTup (aCons (eVar 2) (aCons (cF 2 rec (aCons (e2 gIx (eVar 0) (eK (.int 1))) (aCons (eVar 1) aNil))) (aCons (cF 2 rec (aCons (e2 gIx (eVar 0) (eK (.int 2))) (aCons (eVar 1) aNil))) aNil))))) sNext)
    (sSeq (sIf (tB' (e2 (gIn false) (eVar 2) (eTup (aCons (eK (.str "all")) (aCons (eK (.str "some")) aNil))))) (sRet (eTup (aCons (eVar 2) (aCons (e2 gIx (eVar 0) (eK (.int 1))) (aCons (cF 2 rec (aCons (e2 gIx (eVar 0) (eK (.int 2))) (aCons (eVar 1) aNil))) aNil))))) sNext)
    (sRet (e2 gPlus (eTup (aCons (eVar 2) aNil)) (eSl (eVar 0) (some (eK (.int 1))) none))))))))
noncomputable def f_law_led : Nat → GF
  | 0 => fun _ _ => .bad
  | n + 1 => runD 4 (b_law_led (f_law_led n))

abbrev st_law_right : Stmt := top 71
theorem sc_law_right : FnScope ["_law_well_here", "_law_some", "_law_lap", "_law_far", "_law_top", "_law_back", "_law_plain", "_law_said", "_law_letter", "_law_spot", "_law_shown"] ["_law_well_here"] (defScope st_law_right) := ⟨rfl, rfl, rfl, by decide +kernel, rfl, by decide +kernel, by decide +kernel⟩
theorem bd_law_right {K : PySem.W.Frag} {f : Addr} {fd : FuncData} (F : Fun K "_law_right" "_law_right" st_law_right f fd) : Binds K fd ["_law_well_here"] [] := F.binds (ps := ["_law_well_here"]) fun _ _ _ _ _ _ us hl => match us, hl with | [_], _ => rfl
noncomputable def b_law_right : Sv :=
  (sSeq (sAsg (eNew (lDisp aNil)) (gNm 1))
    (sSeq (sFor (iR1 (aCons (cF 2 f_law_pick (aCons (eVar 0) (aCons (eTup (aCons (eK (.int 2)) (aCons (eK (.int 1)) (aCons (eK (.int 3)) (aCons (eK (.int 8)) aNil))))) aNil))) aNil)) (gNm 2) (sExpr (eMeth1 gApp (eVar 1) (aCons (cF 1 f_law_poly (aCons (eVar 0) aNil)) aNil))))
    (sSeq (sPar 7 8 (aCons (cF 3 (f_law_made 14) (aCons (eVar 0) (aCons (eVar 1) (aCons (cF 2 f_law_pick (aCons (eVar 0) (aCons (eTup (aCons (eK (.int 3)) (aCons (eK (.int 1)) (aCons (eK (.int 4)) (aCons (eK (.int 6)) (aCons (eK (.int 2)) (aCons (eK (.int 10)) (aCons (eK (.int 5)) (aCons (eK (.int 8)) aNil))))))))) aNil))) aNil)))) (aCons (cF 2 f_law_pick (aCons (eVar 0) (aCons (eTup (aCons (eK (.str "x")) (aCons (eK (.str "y")) aNil))) aNil))) aNil)))
    (sSeq (sAsg (cF 2 f_law_draw (aCons (eVar 0) (aCons (eK (.int 8)) aNil))) (gNm 3))
    (sSeq (sAsg (eIf (tB' (e2 (gCmp fun i j => decide (j < i)) (eVar 3) (eK (.int 0)))) (e2 gSub (cF 2 f_law_draw (aCons (eVar 0) (aCons (eK (.int 9)) aNil))) (eK (.int 4))) (e2 gSub (cF 2 f_law_draw (aCons (eVar 0) (aCons (eK (.int 4000003)) aNil))) (eK (.int 2000001)))) (gNm 4))
    (sSeq (sPar 9 10 (aCons (cF 2 f_law_lean (aCons (eVar 4) (aCons (e2 gPlus (eK (.int 1)) (cF 2 f_law_draw (aCons (eVar 0) (aCons (eIf (tB' (e2 (gCmp fun i j => decide (i < j)) (eVar 3) (eK (.int 7)))) (eK (.int 3)) (eK (.int 1000003))) aNil)))) aNil))) (aCons (en gRepr (aCons (eVar 7) aNil)) aNil)))
    (sSeq (sAsg (cF 1 f_exchanged (aCons (eVar 7) aNil)) (gNm 5))
    (sSeq (sIf (bOr (tB' (e2 (gEq true) (en gRepr (aCons (eVar 5) aNil)) (en gRepr (aCons (cF 1 (f_law_swapped 24) (aCons (eVar 7) aNil)) aNil)))) (tB' (e2 (gEq true) (en gRepr (aCons (cF 1 f_exchanged (aCons (eVar 5) aNil)) aNil)) (eVar 10)))) (sRet (eK (.bool false))) sNext)
    (sSeq (sIf (tB' (e2 (gEq true) (en gRepr (aCons (cF 3 f_put_for (aCons (eVar 7) (aCons (eVar 8) (aCons (eVar 9) aNil)))) aNil)) (en gRepr (aCons (cF 3 (f_law_filled 24) (aCons (eVar 7) (aCons (eVar 8) (aCons (eVar 9) aNil)))) aNil)))) (sRet (eK (.bool false))) sNext)
    (sSeq (sAsg (cF 1 f_pushed (aCons (eVar 7) aNil)) (gNm 6))
    (sSeq (sIf (bOr (tB' (e2 (gEq true) (en gRepr (aCons (eVar 6) aNil)) (en gRepr (aCons (cF 2 (f_law_led 24) (aCons (eVar 7) (aCons (eK (.bool false)) aNil))) aNil)))) (tB' (e2 (gCmp fun i j => decide (j < i)) (cF 1 f_depth_of (aCons (eVar 6) aNil)) (cF 1 f_depth_of (aCons (eVar 7) aNil))))) (sRet (eK (.bool false))) sNext)
    (sRet (eAnd (e2 (gEq false) (en gRepr (aCons (eVar 7) aNil)) (eVar 10)) (eOr (e2 (gEq false) (cF 1 f_depth_of (aCons (eVar 7) aNil)) (eK (.int 10))) (e2 (gEq false) (en gRepr (aCons (cF 1 f_pushed (aCons (eTup (aCons (eK (.str "not")) (aCons (eVar 7) aNil))) aNil)) aNil)) (en gRepr (aCons (cF 2 (f_law_led 24) (aCons (eVar 7) (aCons (eK (.bool true)) aNil))) aNil)))))))))))))))))
noncomputable def f_law_right : GF := runD 11 b_law_right

abbrev st_law : Stmt := top 72
theorem sc_law : FnScope ["_law_script", "_law_at"] ["_law_script"] (defScope st_law) := ⟨rfl, rfl, rfl, by decide +kernel, rfl, by decide +kernel, by decide +kernel⟩
theorem bd_law {K : PySem.W.Frag} {f : Addr} {fd : FuncData} (F : Fun K "law" "law" st_law f fd) : Binds K fd ["_law_script"] [] := F.binds (ps := ["_law_script"]) fun _ _ _ _ _ _ us hl => match us, hl with | [_], _ => rfl
noncomputable def b_law : Sv :=
  (sRet (en gAll (aCons (eFrz (lLc (iR1 (aCons (en gMax (aCons (eK (.int 1)) (aCons (en gMin (aCons (en gLen (aCons (eVar 0) aNil)) (aCons (eK (.int 3)) aNil))) aNil))) aNil)) (gNm 1) bYes (cF 1 f_law_right (aCons (cF 2 f_law_well (aCons (eVar 0) (aCons (eVar 1) aNil))) aNil)) [1])) aNil)))
noncomputable def f_law : GF := runD 2 b_law

structure LE (w : World) (K : PySem.W.Frag) (mg : Str → Option Value) : Prop where
  d_is_whole : ∃ f fd, mg "is_whole" = some (.ref f) ∧ Fun K "is_whole" "is_whole" st_is_whole f fd
  d_are_wholes : ∃ f fd, mg "are_wholes" = some (.ref f) ∧ Fun K "are_wholes" "are_wholes" st_are_wholes f fd
  d_is_ratio : ∃ f fd, mg "is_ratio" = some (.ref f) ∧ Fun K "is_ratio" "is_ratio" st_is_ratio f fd
  d_is_rowed : ∃ f fd, mg "is_rowed" = some (.ref f) ∧ Fun K "is_rowed" "is_rowed" st_is_rowed f fd
  d_trimmed : ∃ f fd, mg "trimmed" = some (.ref f) ∧ Fun K "trimmed" "trimmed" st_trimmed f fd
  d_power_of : ∃ f fd, mg "power_of" = some (.ref f) ∧ Fun K "power_of" "power_of" st_power_of f fd
  d_check_fraction : ∃ f fd, mg "check_fraction" = some (.ref f) ∧ Fun K "check_fraction" "check_fraction" st_check_fraction f fd
  d_is_polyed : ∃ f fd, mg "is_polyed" = some (.ref f) ∧ Fun K "is_polyed" "is_polyed" st_is_polyed f fd
  d_cut : ∃ f fd, mg "cut" = some (.ref f) ∧ Fun K "cut" "cut" st_cut f fd
  d_exchanged_by : ∃ f fd, mg "exchanged_by" = some (.ref f) ∧ Fun K "exchanged_by" "exchanged_by" st_exchanged_by f fd
  d_is_letter : ∃ f fd, mg "is_letter" = some (.ref f) ∧ Fun K "is_letter" "is_letter" st_is_letter f fd
  d_is_low_poly : ∃ f fd, mg "is_low_poly" = some (.ref f) ∧ Fun K "is_low_poly" "is_low_poly" st_is_low_poly f fd
  d_is_sayinged : ∃ f fd, mg "is_sayinged" = some (.ref f) ∧ Fun K "is_sayinged" "is_sayinged" st_is_sayinged f fd
  d_parts_of : ∃ f fd, mg "parts_of" = some (.ref f) ∧ Fun K "parts_of" "parts_of" st_parts_of f fd
  d_with_parts : ∃ f fd, mg "with_parts" = some (.ref f) ∧ Fun K "with_parts" "with_parts" st_with_parts f fd
  d_depth_by : ∃ f fd, mg "depth_by" = some (.ref f) ∧ Fun K "depth_by" "depth_by" st_depth_by f fd
  d_polys_by : ∃ f fd, mg "polys_by" = some (.ref f) ∧ Fun K "polys_by" "polys_by" st_polys_by f fd
  d_other_letter : ∃ f fd, mg "other_letter" = some (.ref f) ∧ Fun K "other_letter" "other_letter" st_other_letter f fd
  d_exchanged_saying : ∃ f fd, mg "exchanged_saying" = some (.ref f) ∧ Fun K "exchanged_saying" "exchanged_saying" st_exchanged_saying f fd
  d_row_put : ∃ f fd, mg "row_put" = some (.ref f) ∧ Fun K "row_put" "row_put" st_row_put f fd
  d_letter_poly : ∃ f fd, mg "letter_poly" = some (.ref f) ∧ Fun K "letter_poly" "letter_poly" st_letter_poly f fd
  d_poly_put : ∃ f fd, mg "poly_put" = some (.ref f) ∧ Fun K "poly_put" "poly_put" st_poly_put f fd
  d_put_by : ∃ f fd, mg "put_by" = some (.ref f) ∧ Fun K "put_by" "put_by" st_put_by f fd
  d_opposite_relation : ∃ f fd, mg "opposite_relation" = some (.ref f) ∧ Fun K "opposite_relation" "opposite_relation" st_opposite_relation f fd
  d_pushed_by : ∃ f fd, mg "pushed_by" = some (.ref f) ∧ Fun K "pushed_by" "pushed_by" st_pushed_by f fd
  d_check_many : ∃ f fd, mg "check_many" = some (.ref f) ∧ Fun K "check_many" "check_many" st_check_many f fd
  d_check_saying : ∃ f fd, mg "check_saying" = some (.ref f) ∧ Fun K "check_saying" "check_saying" st_check_saying f fd
  d_check_letter : ∃ f fd, mg "check_letter" = some (.ref f) ∧ Fun K "check_letter" "check_letter" st_check_letter f fd
  d_depth_of : ∃ f fd, mg "depth_of" = some (.ref f) ∧ Fun K "depth_of" "depth_of" st_depth_of f fd
  d_exchanged : ∃ f fd, mg "exchanged" = some (.ref f) ∧ Fun K "exchanged" "exchanged" st_exchanged f fd
  d_put_for : ∃ f fd, mg "put_for" = some (.ref f) ∧ Fun K "put_for" "put_for" st_put_for f fd
  d_pushed : ∃ f fd, mg "pushed" = some (.ref f) ∧ Fun K "pushed" "pushed" st_pushed f fd
  d_law_well : ∃ f fd, mg "_law_well" = some (.ref f) ∧ Fun K "_law_well" "_law_well" st_law_well f fd
  d_law_draw : ∃ f fd, mg "_law_draw" = some (.ref f) ∧ Fun K "_law_draw" "_law_draw" st_law_draw f fd
  d_law_pick : ∃ f fd, mg "_law_pick" = some (.ref f) ∧ Fun K "_law_pick" "_law_pick" st_law_pick f fd
  d_law_share : ∃ f fd, mg "_law_share" = some (.ref f) ∧ Fun K "_law_share" "_law_share" st_law_share f fd
  d_law_lean : ∃ f fd, mg "_law_lean" = some (.ref f) ∧ Fun K "_law_lean" "_law_lean" st_law_lean f fd
  d_law_row : ∃ f fd, mg "_law_row" = some (.ref f) ∧ Fun K "_law_row" "_law_row" st_law_row f fd
  d_law_number : ∃ f fd, mg "_law_number" = some (.ref f) ∧ Fun K "_law_number" "_law_number" st_law_number f fd
  d_law_poly : ∃ f fd, mg "_law_poly" = some (.ref f) ∧ Fun K "_law_poly" "_law_poly" st_law_poly f fd
  d_law_leaf : ∃ f fd, mg "_law_leaf" = some (.ref f) ∧ Fun K "_law_leaf" "_law_leaf" st_law_leaf f fd
  d_law_made : ∃ f fd, mg "_law_made" = some (.ref f) ∧ Fun K "_law_made" "_law_made" st_law_made f fd
  d_law_turned : ∃ f fd, mg "_law_turned" = some (.ref f) ∧ Fun K "_law_turned" "_law_turned" st_law_turned f fd
  d_law_swapped : ∃ f fd, mg "_law_swapped" = some (.ref f) ∧ Fun K "_law_swapped" "_law_swapped" st_law_swapped f fd
  d_law_scaled : ∃ f fd, mg "_law_scaled" = some (.ref f) ∧ Fun K "_law_scaled" "_law_scaled" st_law_scaled f fd
  d_law_put : ∃ f fd, mg "_law_put" = some (.ref f) ∧ Fun K "_law_put" "_law_put" st_law_put f fd
  d_law_filled : ∃ f fd, mg "_law_filled" = some (.ref f) ∧ Fun K "_law_filled" "_law_filled" st_law_filled f fd
  d_law_led : ∃ f fd, mg "_law_led" = some (.ref f) ∧ Fun K "_law_led" "_law_led" st_law_led f fd
  d_law_right : ∃ f fd, mg "_law_right" = some (.ref f) ∧ Fun K "_law_right" "_law_right" st_law_right f fd
  d_law : ∃ f fd, mg "law" = some (.ref f) ∧ Fun K "law" "law" st_law f fd
  z_abs : mg "abs" = none
  z_all : mg "all" = none
  z_bool : mg "bool" = none
  z_divmod : mg "divmod" = none
  z_enumerate : mg "enumerate" = none
  z_int : mg "int" = none
  z_isinstance : mg "isinstance" = none
  z_len : mg "len" = none
  z_list : mg "list" = none
  z_max : mg "max" = none
  z_min : mg "min" = none
  z_range : mg "range" = none
  z_repr : mg "repr" = none
  z_str : mg "str" = none
  z_sum : mg "sum" = none
  z_tuple : mg "tuple" = none
  m_gcd : mg "gcd" = some (.builtin "math.gcd")
  c_LETTERS : Con K mg "LETTERS" (.tuple [(.str "x"), (.str "y")])
  c_MOST_DEEP : Con K mg "MOST_DEEP" (.int 10)
  c_MOST_DEGREE : Con K mg "MOST_DEGREE" (.int 4)
  c_MOST_POLYS : Con K mg "MOST_POLYS" (.int 8)
  c_RELATIONS : Con K mg "RELATIONS" (.tuple [(.str "below"), (.str "at"), (.str "above"), (.str "not below"), (.str "not at"), (.str "not above")])
  t_OPPOSITES : ConD K mg w "OPPOSITES" [("both", (.str "either")), ("either", (.str "both")), ("all", (.str "some")), ("some", (.str "all")), ("true", (.str "false")), ("false", (.str "true"))]
  t_PARTS_AT : ConD K mg w "PARTS_AT" [("not", (.tuple [(.int 1)])), ("both", (.tuple [(.int 1), (.int 2)])), ("either", (.tuple [(.int 1), (.int 2)])), ("all", (.tuple [(.int 2)])), ("some", (.tuple [(.int 2)]))]

section
variable {P : Program} {w : World} {K : PySem.W.Frag} {mg : Str → Option Value} {base : Heap}

theorem ok_is_whole (L : LE w K mg) : ∃ f fd, Has P w K mg base 1 "is_whole" st_is_whole ["value"] 1 f_is_whole f fd := by
  obtain ⟨f, fd, m, F⟩ := L.d_is_whole
  refine ⟨f, fd, m, F, bd_is_whole F, ?_⟩
  refine fng_sem (k := 0) F sc_is_whole fun cdv A outer s H E hr hg => ?_
  exact (ss_one (ss_ret (se_and (xIsi bt_int L.z_isinstance L.z_int (by rfl) (by rfl) (xV 0)) (se_one (se_not (xIsi bt_bool L.z_isinstance L.z_bool (by rfl) (by rfl) (xV 0)))))))

theorem ok_are_wholes (L : LE w K mg) : ∃ f fd, Has P w K mg base 2 "are_wholes" st_are_wholes ["value", "many"] 2 f_are_wholes f fd := by
  obtain ⟨_, _, h_is_whole⟩ := ok_is_whole (P := P) (w := w) (base := base) L
  obtain ⟨f, fd, m, F⟩ := L.d_are_wholes
  refine ⟨f, fd, m, F, bd_are_wholes F, ?_⟩
  refine fng_sem (k := 1) F sc_are_wholes fun cdv A outer s H E hr hg => ?_
  exact (ss_one (ss_ret (se_and (xIsi bt_tuple L.z_isinstance L.z_tuple (by rfl) (by rfl) (xV 0)) (se_and (xCmp (op_gEq (hu64 hr)) (xBi cr_gLen bt_len L.z_len (by rfl) (xA (xV 0) sa_nil)) (xV 1)) (se_one (xBi (cr_gAll rfl) bt_all L.z_all (by rfl) (xA (se_frz (xLc [("each", 2)] rfl sc_are_wholes.nd (si_any (xV 0)) (fun _ _ _ _ _ => (xwNm 2 sc_are_wholes.nd)) (fun _ _ _ _ _ => sts_nil) (fun _ _ _ _ _ => (xCall h_is_whole (by decide) hr hg takes0 (by rfl) (xA (xV 2) sa_nil))) (ok := by exact blkOk_by (show blkC ["value", "many", "each"] (defScope st_are_wholes) _ [("each", 2)] = true from by decide +kernel)))) sa_nil)))))))

theorem ok_is_ratio (L : LE w K mg) : ∃ f fd, Has P w K mg base 3 "is_ratio" st_is_ratio ["value"] 1 f_is_ratio f fd := by
  obtain ⟨_, _, h_are_wholes⟩ := ok_are_wholes (P := P) (w := w) (base := base) L
  obtain ⟨f, fd, m, F⟩ := L.d_is_ratio
  refine ⟨f, fd, m, F, bd_is_ratio F, ?_⟩
  refine fng_sem (k := 2) F sc_is_ratio fun cdv A outer s H E hr hg => ?_
  exact (ss_one (ss_ret (se_and (xCall h_are_wholes (by decide) hr hg (takes_of rfl rfl rfl rfl) (by rfl) (xA (xV 0) (xA se_int sa_nil))) (se_and (xCmp op_gGt (xIx (xV 0) se_int) se_int) (se_one (xCmp (op_gEq (hu64 hr)) (xBif cr_gGcd L.m_gcd (by rfl) (xA (xIx (xV 0) se_int) (xA (xIx (xV 0) se_int) sa_nil))) se_int))))))

theorem ok_is_rowed (L : LE w K mg) : ∃ f fd, Has P w K mg base 2 "is_rowed" st_is_rowed ["value"] 1 f_is_rowed f fd := by
  obtain ⟨_, _, h_is_whole⟩ := ok_is_whole (P := P) (w := w) (base := base) L
  obtain ⟨f, fd, m, F⟩ := L.d_is_rowed
  refine ⟨f, fd, m, F, bd_is_rowed F, ?_⟩
  refine fng_sem (k := 1) F sc_is_rowed fun cdv A outer s H E hr hg => ?_
  exact (ss_cons (ss_if (sw_or (st_not (xtVal (xIsi bt_tuple L.z_isinstance L.z_tuple (by rfl) (by rfl) (xV 0)))) (sw_or1 (st_not (xtVal (xBi (cr_gAll rfl) bt_all L.z_all (by rfl) (xA (se_frz (xLc [("each", 1)] rfl sc_is_rowed.nd (si_any (xV 0)) (fun _ _ _ _ _ => (xwNm 1 sc_is_rowed.nd)) (fun _ _ _ _ _ => sts_nil) (fun _ _ _ _ _ => (xCall h_is_whole (by decide) hr hg takes0 (by rfl) (xA (xV 1) sa_nil))) (ok := by exact blkOk_by (show blkC ["value", "each"] (defScope st_is_rowed) _ [("each", 1)] = true from by decide +kernel)))) sa_nil)))))).pt (ss_one (ss_ret se_bl)) ss_nil)
      (ss_one (ss_ret (se_or (xCmp (op_gEq (hu64 hr)) (xV 0) (se_tup sa_nil)) (se_one (xCmp (op_gNe (hu64 hr)) (xIx (xV 0) (se_un un_gNeg se_int)) se_int))))))

theorem ok_trimmed (L : LE w K mg) : ∃ f fd, Has P w K mg base 1 "trimmed" st_trimmed ["some"] 1 f_trimmed f fd := by
  obtain ⟨f, fd, m, F⟩ := L.d_trimmed
  refine ⟨f, fd, m, F, bd_trimmed F, ?_⟩
  refine fng_sem (k := 0) F sc_trimmed fun cdv A outer s H E hr hg => ?_
  exact (ss_cons (xSet 1 sc_trimmed.nd (xBi cr_gLen bt_len L.z_len (by rfl) (xA (xV 0) sa_nil)))
      (ss_cons (ss_whileN (passes_of rfl) (sw_and (xtCmp op_gGt (xV 1) se_int) (sw_and1 (xtCmp (op_gEq (hu64 hr)) (xIx (xV 0) (se_op op_gSub (xV 1) se_int)) se_int))).pt (ss_one (xSet 1 sc_trimmed.nd (se_op op_gSub (xV 1) se_int))))
      (ss_one (ss_ret (xTy cr_gTuple bt_tuple L.z_tuple (by rfl) (xA (se_sl (xV 0) so_none (so_some (xV 1))) sa_nil))))))

theorem ok_power_of (L : LE w K mg) : ∃ f fd, Has P w K mg base 1 "power_of" st_power_of ["number", "many"] 2 f_power_of f fd := by
  obtain ⟨f, fd, m, F⟩ := L.d_power_of
  refine ⟨f, fd, m, F, bd_power_of F, ?_⟩
  refine fng_sem (k := 0) F sc_power_of fun cdv A outer s H E hr hg => ?_
  exact (ss_cons (xSet 2 sc_power_of.nd se_int)
      (ss_cons (xFor (passes_of rfl) rfl (xR1 L.z_range (by rfl) (xA (xV 1) sa_nil)) (xNm 3 sc_power_of.nd) (ss_one (xSet 2 sc_power_of.nd (se_op op_gTimes (xV 2) (xV 0)))))
      (ss_one (ss_ret (xV 2)))))

theorem ok_check_fraction (L : LE w K mg) : ∃ f fd, Has P w K mg base 4 "check_fraction" st_check_fraction ["value"] 1 f_check_fraction f fd := by
  obtain ⟨_, _, h_is_ratio⟩ := ok_is_ratio (P := P) (w := w) (base := base) L
  obtain ⟨f, fd, m, F⟩ := L.d_check_fraction
  refine ⟨f, fd, m, F, bd_check_fraction F, ?_⟩
  refine fng_sem (k := 3) F sc_check_fraction fun cdv A outer s H E hr hg => ?_
  exact (ss_one (ss_if (st_not (xtVal (xCall h_is_ratio (by decide) hr hg (takes_of rfl rfl rfl rfl) (by rfl) (xA (xV 0) sa_nil)))) (ss_one ss_nev) ss_nil))

theorem ok_is_polyed (L : LE w K mg) : ∃ f fd, Has P w K mg base 3 "is_polyed" st_is_polyed ["value"] 1 f_is_polyed f fd := by
  obtain ⟨_, _, h_is_rowed⟩ := ok_is_rowed (P := P) (w := w) (base := base) L
  obtain ⟨f, fd, m, F⟩ := L.d_is_polyed
  refine ⟨f, fd, m, F, bd_is_polyed F, ?_⟩
  refine fng_sem (k := 2) F sc_is_polyed fun cdv A outer s H E hr hg => ?_
  exact (ss_cons (ss_if (sw_or (st_not (xtVal (xIsi bt_tuple L.z_isinstance L.z_tuple (by rfl) (by rfl) (xV 0)))) (sw_or1 (st_not (xtVal (xBi (cr_gAll rfl) bt_all L.z_all (by rfl) (xA (se_frz (xLc [("each", 1)] rfl sc_is_polyed.nd (si_any (xV 0)) (fun _ _ _ _ _ => (xwNm 1 sc_is_polyed.nd)) (fun _ _ _ _ _ => sts_nil) (fun _ _ _ _ _ => (xCall h_is_rowed (by decide) hr hg takes0 (by rfl) (xA (xV 1) sa_nil))) (ok := by exact blkOk_by (show blkC ["value", "each"] (defScope st_is_polyed) _ [("each", 1)] = true from by decide +kernel)))) sa_nil)))))).pt (ss_one (ss_ret se_bl)) ss_nil)
      (ss_one (ss_ret (se_or (xCmp (op_gEq (hu64 hr)) (xV 0) (se_tup sa_nil)) (se_one (xCmp (op_gNe (hu64 hr)) (xIx (xV 0) (se_un un_gNeg se_int)) (se_tup sa_nil)))))))

theorem ok_cut (L : LE w K mg) : ∃ f fd, Has P w K mg base 1 "cut" st_cut ["rows"] 1 f_cut f fd := by
  obtain ⟨f, fd, m, F⟩ := L.d_cut
  refine ⟨f, fd, m, F, bd_cut F, ?_⟩
  refine fng_sem (k := 0) F sc_cut fun cdv A outer s H E hr hg => ?_
  exact (ss_cons (xSet 1 sc_cut.nd (xBi cr_gLen bt_len L.z_len (by rfl) (xA (xV 0) sa_nil)))
      (ss_cons (ss_whileN (passes_of rfl) (sw_and (xtCmp op_gGt (xV 1) se_int) (sw_and1 (xtCmp (op_gEq (hu64 hr)) (xIx (xV 0) (se_op op_gSub (xV 1) se_int)) (se_tup sa_nil)))).pt (ss_one (xSet 1 sc_cut.nd (se_op op_gSub (xV 1) se_int))))
      (ss_one (ss_ret (xTy cr_gTuple bt_tuple L.z_tuple (by rfl) (xA (se_sl (xV 0) so_none (so_some (xV 1))) sa_nil))))))

theorem ok_exchanged_by (L : LE w K mg) : ∃ f fd, Has P w K mg base 2 "exchanged_by" st_exchanged_by ["poly"] 1 f_exchanged_by f fd := by
  obtain ⟨_, _, h_trimmed⟩ := ok_trimmed (P := P) (w := w) (base := base) L
  obtain ⟨_, _, h_cut⟩ := ok_cut (P := P) (w := w) (base := base) L
  obtain ⟨f, fd, m, F⟩ := L.d_exchanged_by
  refine ⟨f, fd, m, F, bd_exchanged_by F, ?_⟩
  refine fng_sem (k := 1) F sc_exchanged_by fun cdv A outer s H E hr hg => ?_
  exact (ss_cons (xSet 1 sc_exchanged_by.nd (xBi (cr_gMax rfl) bt_max L.z_max (by rfl) (xA (se_op op_gPlus (se_frz (sl_disp (xA se_int sa_nil))) (se_frz (xLc [("row", 3)] rfl sc_exchanged_by.nd (si_any (xV 0)) (fun _ _ _ _ _ => (xwNm 3 sc_exchanged_by.nd)) (fun _ _ _ _ _ => sts_nil) (fun _ _ _ _ _ => (xBi cr_gLen bt_len L.z_len (by rfl) (xA (xV 3) sa_nil))) (ok := by exact blkOk_by (show blkC ["poly", "size", "at", "row"] (defScope st_exchanged_by) _ [("row", 3)] = true from by decide +kernel))))) sa_nil)))
      (ss_one (ss_ret (xCall h_cut (by decide) hr hg (takes_of rfl rfl rfl rfl) (by rfl) (xA (se_frz (xLc [("at", 2)] rfl sc_exchanged_by.nd (xR1 L.z_range (by rfl) (xA (xV 1) sa_nil)) (fun _ _ _ _ _ => (xwNm 2 sc_exchanged_by.nd)) (fun _ _ _ _ _ => sts_nil) (fun _ _ _ _ _ => (xCall h_trimmed (by decide) hr hg takes0 (by rfl) (xA (se_frz (xLc [("row", 3)] rfl sc_exchanged_by.nd (si_any (xV 0)) (fun _ _ _ _ _ => (xwNm 3 sc_exchanged_by.nd)) (fun _ _ _ _ _ => sts_nil) (fun _ _ _ _ _ => (se_if (xtCmp op_gLt (xV 2) (xBi cr_gLen bt_len L.z_len (by rfl) (xA (xV 3) sa_nil))) (xIx (xV 3) (xV 2)) se_int)) (ok := by exact blkOk_bk (by show blkC ["poly", "size", "at", "row"] _ _ [("row", 3)] = true; decide +kernel)))) sa_nil))) (ok := by exact blkOk_by (show blkC ["poly", "size", "at", "row"] (defScope st_exchanged_by) _ [("at", 2)] = true from by decide +kernel)))) sa_nil)))))

theorem ok_is_letter (L : LE w K mg) : ∃ f fd, Has P w K mg base 1 "is_letter" st_is_letter ["value"] 1 f_is_letter f fd := by
  obtain ⟨f, fd, m, F⟩ := L.d_is_letter
  refine ⟨f, fd, m, F, bd_is_letter F, ?_⟩
  refine fng_sem (k := 0) F sc_is_letter fun cdv A outer s H E hr hg => ?_
  exact (ss_one (ss_ret (se_and (xIsi bt_str L.z_isinstance L.z_str (by rfl) (by rfl) (xV 0)) (se_one (xCmp (op_gIn (hu65 hr)) (xV 0) (xCon L.c_LETTERS (by rfl)))))))

theorem ok_is_low_poly (L : LE w K mg) : ∃ f fd, Has P w K mg base 4 "is_low_poly" st_is_low_poly ["value"] 1 f_is_low_poly f fd := by
  obtain ⟨_, _, h_is_polyed⟩ := ok_is_polyed (P := P) (w := w) (base := base) L
  obtain ⟨f, fd, m, F⟩ := L.d_is_low_poly
  refine ⟨f, fd, m, F, bd_is_low_poly F, ?_⟩
  refine fng_sem (k := 3) F sc_is_low_poly fun cdv A outer s H E hr hg => ?_
  exact (ss_cons (ss_if (sw_or (st_not (xtVal (xCall h_is_polyed (by decide) hr hg (takes_of rfl rfl rfl rfl) (by rfl) (xA (xV 0) sa_nil)))) (sw_or1 (xtCmp op_gGt (xBi cr_gLen bt_len L.z_len (by rfl) (xA (xV 0) sa_nil)) (se_op op_gPlus (xCon L.c_MOST_DEGREE (by rfl)) se_int)))).pt (ss_one (ss_ret se_bl)) ss_nil)
      (ss_one (ss_ret (xBi (cr_gAll rfl) bt_all L.z_all (by rfl) (xA (se_frz (xLc [("row", 1)] rfl sc_is_low_poly.nd (si_any (xV 0)) (fun _ _ _ _ _ => (xwNm 1 sc_is_low_poly.nd)) (fun _ _ _ _ _ => sts_nil) (fun _ _ _ _ _ => (xCmp op_gLe (xBi cr_gLen bt_len L.z_len (by rfl) (xA (xV 1) sa_nil)) (se_op op_gPlus (xCon L.c_MOST_DEGREE (by rfl)) se_int))) (ok := by exact blkOk_by (show blkC ["value", "row"] (defScope st_is_low_poly) _ [("row", 1)] = true from by decide +kernel)))) sa_nil)))))

theorem ok_is_sayinged (n : Nat) (L : LE w K mg) : ∃ f fd, Has P w K mg base (4 + n) "is_sayinged" st_is_sayinged ["value", "deep"] 2 (f_is_sayinged n) f fd := by
  obtain ⟨_, _, h_is_letter⟩ := ok_is_letter (P := P) (w := w) (base := base) L
  obtain ⟨_, _, h_is_low_poly⟩ := ok_is_low_poly (P := P) (w := w) (base := base) L
  obtain ⟨f, fd, m, F⟩ := L.d_is_sayinged
  refine ⟨f, fd, m, F, bd_is_sayinged F, ?_⟩
  induction n with
  | zero => exact fng_bad rfl
  | succ n ih =>
    have hrec : Has P w K mg base (4 + n) "is_sayinged" st_is_sayinged ["value", "deep"] 2 (f_is_sayinged n) f fd := ⟨m, F, bd_is_sayinged F, ih⟩
    have hle : 4 + n ≤ 4 + n := Nat.le_refl _
    refine fng_sem (k := 4 + n) F sc_is_sayinged fun cdv A outer s H E hr hg => ?_
    exact (ss_cons (ss_if (sw_or (xtCmp (op_gEq (hu64 hr)) (xV 1) se_int) (sw_or (st_not (xtVal (xIsi bt_tuple L.z_isinstance L.z_tuple (by rfl) (by rfl) (xV 0)))) (sw_or (xtCmp (op_gEq (hu64 hr)) (xV 0) (se_tup sa_nil)) (sw_or1 (st_not (xtVal (xIsi bt_str L.z_isinstance L.z_str (by rfl) (by rfl) (xIx (xV 0) se_int)))))))).pt (ss_one (ss_ret se_bl)) ss_nil)
      (ss_cons (xSet 2 sc_is_sayinged.nd (xIx (xV 0) se_int))
      (ss_cons (ss_if (xtCmp (op_gIn (hu65 hr)) (xV 2) (se_tup (xA se_str (xA se_str sa_nil)))) (ss_one (ss_ret (xCmp (op_gEq (hu64 hr)) (xBi cr_gLen bt_len L.z_len (by rfl) (xA (xV 0) sa_nil)) se_int))) ss_nil)
      (ss_cons (ss_if (xtCmp (op_gIn (hu65 hr)) (xV 2) (xCon L.c_RELATIONS (by rfl))) (ss_one (ss_ret (se_and (xCmp (op_gEq (hu64 hr)) (xBi cr_gLen bt_len L.z_len (by rfl) (xA (xV 0) sa_nil)) se_int) (se_one (xCall h_is_low_poly (Nat.le_trans (by decide : 4 ≤ 4) (Nat.le_add_right _ _)) hr hg (takes_of rfl rfl rfl rfl) (by rfl) (xA (xIx (xV 0) se_int) sa_nil)))))) ss_nil)
      (ss_cons (ss_if (sw_or (xtNotInD L.t_PARTS_AT (by rfl) (xV 2)) (sw_or1 (xtCmp (op_gNe (hu64 hr)) (xBi cr_gLen bt_len L.z_len (by rfl) (xA (xV 0) sa_nil)) (se_op op_gPlus (xIx (xItD L.t_PARTS_AT (by rfl) (xV 2)) (se_un un_gNeg se_int)) se_int)))).pt (ss_one (ss_ret se_bl)) ss_nil)
      (ss_cons (ss_if (sw_and (xtCmp (op_gIn (hu65 hr)) (xV 2) (se_tup (xA se_str (xA se_str sa_nil)))) (sw_and1 (st_not (xtVal (xCall h_is_letter (Nat.le_trans (by decide : 1 ≤ 4) (Nat.le_add_right _ _)) hr hg (takes_of rfl rfl rfl rfl) (by rfl) (xA (xIx (xV 0) se_int) sa_nil)))))).pt (ss_one (ss_ret se_bl)) ss_nil)
      (ss_one (ss_ret (xBi (cr_gAll rfl) bt_all L.z_all (by rfl) (xA (se_frz (xLc [("at", 3)] rfl sc_is_sayinged.nd (si_any (xItD L.t_PARTS_AT (by rfl) (xV 2))) (fun _ _ _ _ _ => (xwNm 3 sc_is_sayinged.nd)) (fun _ _ _ _ _ => sts_nil) (fun _ _ _ _ _ => (xCall hrec hle hr hg takes0 (by rfl) (xA (xIx (xV 0) (xV 3)) (xA (se_op op_gSub (xV 1) se_int) sa_nil)))) (ok := by exact blkOk_by (show blkC ["value", "deep", "word", "at"] (defScope st_is_sayinged) _ [("at", 3)] = true from by decide +kernel)))) sa_nil))))))))))

theorem ok_parts_of (L : LE w K mg) : ∃ f fd, Has P w K mg base 1 "parts_of" st_parts_of ["saying"] 1 f_parts_of f fd := by
  obtain ⟨f, fd, m, F⟩ := L.d_parts_of
  refine ⟨f, fd, m, F, bd_parts_of F, ?_⟩
  refine fng_sem (k := 0) F sc_parts_of fun cdv A outer s H E hr hg => ?_
  exact (ss_one (ss_ret (se_frz (xLc [("at", 1)] rfl sc_parts_of.nd (si_any (xGetD L.t_PARTS_AT (by rfl) (xIx (xV 0) se_int) (se_tup sa_nil))) (fun _ _ _ _ _ => (xwNm 1 sc_parts_of.nd)) (fun _ _ _ _ _ => sts_nil) (fun _ _ _ _ _ => (xIx (xV 0) (xV 1))) (ok := by exact blkOk_by (show blkC ["saying", "at"] (defScope st_parts_of) _ [("at", 1)] = true from by decide +kernel))))))

theorem ok_with_parts (L : LE w K mg) : ∃ f fd, Has P w K mg base 1 "with_parts" st_with_parts ["saying", "parts"] 2 f_with_parts f fd := by
  obtain ⟨f, fd, m, F⟩ := L.d_with_parts
  refine ⟨f, fd, m, F, bd_with_parts F, ?_⟩
  refine fng_sem (k := 0) F sc_with_parts fun cdv A outer s H E hr hg => ?_
  exact (ss_one (ss_ret (se_op op_gPlus (se_sl (xV 0) so_none (so_some (xIx (xItD L.t_PARTS_AT (by rfl) (xIx (xV 0) se_int)) se_int))) (xTy cr_gTuple bt_tuple L.z_tuple (by rfl) (xA (xV 1) sa_nil)))))

theorem ok_depth_by (n : Nat) (L : LE w K mg) : ∃ f fd, Has P w K mg base (1 + n) "depth_by" st_depth_by ["saying"] 1 (f_depth_by n) f fd := by
  obtain ⟨_, _, h_parts_of⟩ := ok_parts_of (P := P) (w := w) (base := base) L
  obtain ⟨f, fd, m, F⟩ := L.d_depth_by
  refine ⟨f, fd, m, F, bd_depth_by F, ?_⟩
  induction n with
  | zero => exact fng_bad rfl
  | succ n ih =>
    have hrec : Has P w K mg base (1 + n) "depth_by" st_depth_by ["saying"] 1 (f_depth_by n) f fd := ⟨m, F, bd_depth_by F, ih⟩
    have hle : 1 + n ≤ 1 + n := Nat.le_refl _
    refine fng_sem (k := 1 + n) F sc_depth_by fun cdv A outer s H E hr hg => ?_
    exact (ss_cons (xSet 1 sc_depth_by.nd se_int)
      (ss_cons (xFor (passes_of rfl) rfl (si_any (xCall h_parts_of (Nat.le_trans (by decide : 1 ≤ 1) (Nat.le_add_right _ _)) hr hg (takes_of rfl rfl rfl rfl) (by rfl) (xA (xV 0) sa_nil))) (xNm 2 sc_depth_by.nd) (ss_one (xSet 1 sc_depth_by.nd (xBi (cr_gMax rfl) bt_max L.z_max (by rfl) (xA (xV 1) (xA (xCall hrec hle hr hg (takes_of rfl rfl rfl rfl) (by rfl) (xA (xV 2) sa_nil)) sa_nil))))))
      (ss_one (ss_ret (se_op op_gPlus se_int (xV 1))))))

theorem ok_polys_by (n : Nat) (L : LE w K mg) : ∃ f fd, Has P w K mg base (1 + n) "polys_by" st_polys_by ["saying"] 1 (f_polys_by n) f fd := by
  obtain ⟨_, _, h_parts_of⟩ := ok_parts_of (P := P) (w := w) (base := base) L
  obtain ⟨f, fd, m, F⟩ := L.d_polys_by
  refine ⟨f, fd, m, F, bd_polys_by F, ?_⟩
  induction n with
  | zero => exact fng_bad rfl
  | succ n ih =>
    have hrec : Has P w K mg base (1 + n) "polys_by" st_polys_by ["saying"] 1 (f_polys_by n) f fd := ⟨m, F, bd_polys_by F, ih⟩
    have hle : 1 + n ≤ 1 + n := Nat.le_refl _
    refine fng_sem (k := 1 + n) F sc_polys_by fun cdv A outer s H E hr hg => ?_
    exact (ss_cons (ss_if (xtCmp (op_gIn (hu65 hr)) (xIx (xV 0) se_int) (xCon L.c_RELATIONS (by rfl))) (ss_one (ss_ret (se_tup (xA (xIx (xV 0) se_int) sa_nil)))) ss_nil)
      (ss_cons (xSet 1 sc_polys_by.nd (se_tup sa_nil))
      (ss_cons (xFor (passes_of rfl) rfl (si_any (xCall h_parts_of (Nat.le_trans (by decide : 1 ≤ 1) (Nat.le_add_right _ _)) hr hg (takes_of rfl rfl rfl rfl) (by rfl) (xA (xV 0) sa_nil))) (xNm 2 sc_polys_by.nd) (ss_one (xSet 1 sc_polys_by.nd (se_op op_gPlus (xV 1) (xTy cr_gTuple bt_tuple L.z_tuple (by rfl) (xA (se_frz (xLc [("poly", 3)] rfl sc_polys_by.nd (si_any (xCall hrec hle hr hg (takes_of rfl rfl rfl rfl) (by rfl) (xA (xV 2) sa_nil))) (fun _ _ _ _ _ => (xwNm 3 sc_polys_by.nd)) (fun _ _ _ _ _ => (sts_one (xtCmp (op_gNotIn (hu65 hr)) (xV 3) (xV 1)))) (fun _ _ _ _ _ => (xV 3)) (ok := by exact blkOk_by (show blkC ["saying", "found", "part", "poly"] (defScope st_polys_by) _ [("poly", 3)] = true from by decide +kernel)))) sa_nil))))))
      (ss_one (ss_ret (xV 1))))))

theorem ok_other_letter (L : LE w K mg) : ∃ f fd, Has P w K mg base 1 "other_letter" st_other_letter ["letter"] 1 f_other_letter f fd := by
  obtain ⟨f, fd, m, F⟩ := L.d_other_letter
  refine ⟨f, fd, m, F, bd_other_letter F, ?_⟩
  refine fng_sem (k := 0) F sc_other_letter fun cdv A outer s H E hr hg => ?_
  exact (ss_one (ss_ret (se_if (xtCmp (op_gEq (hu64 hr)) (xV 0) se_str) se_str se_str)))

theorem ok_exchanged_saying (n : Nat) (L : LE w K mg) : ∃ f fd, Has P w K mg base (2 + n) "exchanged_saying" st_exchanged_saying ["saying"] 1 (f_exchanged_saying n) f fd := by
  obtain ⟨_, _, h_exchanged_by⟩ := ok_exchanged_by (P := P) (w := w) (base := base) L
  obtain ⟨_, _, h_parts_of⟩ := ok_parts_of (P := P) (w := w) (base := base) L
  obtain ⟨_, _, h_with_parts⟩ := ok_with_parts (P := P) (w := w) (base := base) L
  obtain ⟨_, _, h_other_letter⟩ := ok_other_letter (P := P) (w := w) (base := base) L
  obtain ⟨f, fd, m, F⟩ := L.d_exchanged_saying
  refine ⟨f, fd, m, F, bd_exchanged_saying F, ?_⟩
  induction n with
  | zero => exact fng_bad rfl
  | succ n ih =>
    have hrec : Has P w K mg base (2 + n) "exchanged_saying" st_exchanged_saying ["saying"] 1 (f_exchanged_saying n) f fd := ⟨m, F, bd_exchanged_saying F, ih⟩
    have hle : 2 + n ≤ 2 + n := Nat.le_refl _
    refine fng_sem (k := 2 + n) F sc_exchanged_saying fun cdv A outer s H E hr hg => ?_
    exact (ss_cons (ss_if (xtCmp (op_gIn (hu65 hr)) (xIx (xV 0) se_int) (xCon L.c_RELATIONS (by rfl))) (ss_one (ss_ret (se_tup (xA (xIx (xV 0) se_int) (xA (xCall h_exchanged_by (Nat.le_trans (by decide : 2 ≤ 2) (Nat.le_add_right _ _)) hr hg (takes_of rfl rfl rfl rfl) (by rfl) (xA (xIx (xV 0) se_int) sa_nil)) sa_nil))))) ss_nil)
      (ss_cons (ss_if (xtNotInD L.t_PARTS_AT (by rfl) (xIx (xV 0) se_int)) (ss_one (ss_ret (xV 0))) ss_nil)
      (ss_cons (xSet 1 sc_exchanged_saying.nd (xCall h_with_parts (Nat.le_trans (by decide : 1 ≤ 2) (Nat.le_add_right _ _)) hr hg (takes_of rfl rfl rfl rfl) (by rfl) (xA (xV 0) (xA (se_frz (xLc [("part", 2)] rfl sc_exchanged_saying.nd (si_any (xCall h_parts_of (Nat.le_trans (by decide : 1 ≤ 2) (Nat.le_add_right _ _)) hr hg (takes_of rfl rfl rfl rfl) (by rfl) (xA (xV 0) sa_nil))) (fun _ _ _ _ _ => (xwNm 2 sc_exchanged_saying.nd)) (fun _ _ _ _ _ => sts_nil) (fun _ _ _ _ _ => (xCall hrec hle hr hg takes0 (by rfl) (xA (xV 2) sa_nil))) (ok := by exact blkOk_by (show blkC ["saying", "found", "part"] (defScope st_exchanged_saying) _ [("part", 2)] = true from by decide +kernel)))) sa_nil))))
      (ss_one (ss_ret (se_if (xtCmp (op_gIn (hu65 hr)) (xIx (xV 0) se_int) (se_tup (xA se_str (xA se_str sa_nil)))) (se_tup (xA (xIx (xV 0) se_int) (xA (xCall h_other_letter (Nat.le_trans (by decide : 1 ≤ 2) (Nat.le_add_right _ _)) hr hg (takes_of rfl rfl rfl rfl) (by rfl) (xA (xIx (xV 0) se_int) sa_nil)) (xA (xIx (xV 1) se_int) sa_nil)))) (xV 1)))))))

theorem ok_row_put (L : LE w K mg) : ∃ f fd, Has P w K mg base 2 "row_put" st_row_put ["row", "fraction", "degree"] 3 f_row_put f fd := by
  obtain ⟨_, _, h_power_of⟩ := ok_power_of (P := P) (w := w) (base := base) L
  obtain ⟨f, fd, m, F⟩ := L.d_row_put
  refine ⟨f, fd, m, F, bd_row_put F, ?_⟩
  refine fng_sem (k := 1) F sc_row_put fun cdv A outer s H E hr hg => ?_
  exact (ss_cons (xAsg (xV 1) (xGT rfl (xG (xNm 3 sc_row_put.nd) (xG (xNm 4 sc_row_put.nd) sgs_nil))))
      (ss_one (ss_ret (xBi (cr_gSum rfl) bt_sum L.z_sum (by rfl) (xA (se_frz (xLc [("at", 5), ("each", 6)] rfl sc_row_put.nd (xEnumT L.z_enumerate (by rfl) (xA (xV 0) sa_nil)) (fun _ _ _ _ _ => (xwGT rfl (xwG (xwNm 5 sc_row_put.nd) (xwG (xwNm 6 sc_row_put.nd) sgsw_nil)))) (fun _ _ _ _ _ => sts_nil) (fun _ _ _ _ _ => (se_op op_gTimes (se_op op_gTimes (xV 6) (xCall h_power_of (by decide) hr hg takes0 (by rfl) (xA (xV 3) (xA (xV 5) sa_nil)))) (xCall h_power_of (by decide) hr hg takes0 (by rfl) (xA (xV 4) (xA (se_op op_gSub (xV 2) (xV 5)) sa_nil))))) (ok := by exact blkOk_by (show blkC ["row", "fraction", "degree", "top", "low", "at", "each"] (defScope st_row_put) _ [("at", 5), ("each", 6)] = true from by decide +kernel)))) sa_nil)))))

theorem ok_letter_poly (L : LE w K mg) : ∃ f fd, Has P w K mg base 1 "letter_poly" st_letter_poly ["row", "letter"] 2 f_letter_poly f fd := by
  obtain ⟨f, fd, m, F⟩ := L.d_letter_poly
  refine ⟨f, fd, m, F, bd_letter_poly F, ?_⟩
  refine fng_sem (k := 0) F sc_letter_poly fun cdv A outer s H E hr hg => ?_
  exact (ss_cons (ss_if (xtCmp (op_gEq (hu64 hr)) (xV 1) se_str) (ss_one (ss_ret (se_if (xtCmp (op_gNe (hu64 hr)) (xV 0) (se_tup sa_nil)) (se_tup (xA (xV 0) sa_nil)) (se_tup sa_nil)))) ss_nil)
      (ss_one (ss_ret (xTy cr_gTuple bt_tuple L.z_tuple (by rfl) (xA (se_frz (xLc [("each", 2)] rfl sc_letter_poly.nd (si_any (xV 0)) (fun _ _ _ _ _ => (xwNm 2 sc_letter_poly.nd)) (fun _ _ _ _ _ => sts_nil) (fun _ _ _ _ _ => (se_if (xtCmp (op_gNe (hu64 hr)) (xV 2) se_int) (se_tup (xA (xV 2) sa_nil)) (se_tup sa_nil))) (ok := by exact blkOk_by (show blkC ["row", "letter", "each"] (defScope st_letter_poly) _ [("each", 2)] = true from by decide +kernel)))) sa_nil)))))

theorem ok_poly_put (n : Nat) (L : LE w K mg) : ∃ f fd, Has P w K mg base (2 + n) "poly_put" st_poly_put ["poly", "letter", "fraction"] 3 (f_poly_put n) f fd := by
  obtain ⟨_, _, h_trimmed⟩ := ok_trimmed (P := P) (w := w) (base := base) L
  obtain ⟨_, _, h_exchanged_by⟩ := ok_exchanged_by (P := P) (w := w) (base := base) L
  obtain ⟨_, _, h_row_put⟩ := ok_row_put (P := P) (w := w) (base := base) L
  obtain ⟨_, _, h_letter_poly⟩ := ok_letter_poly (P := P) (w := w) (base := base) L
  obtain ⟨f, fd, m, F⟩ := L.d_poly_put
  refine ⟨f, fd, m, F, bd_poly_put F, ?_⟩
  induction n with
  | zero => exact fng_bad rfl
  | succ n ih =>
    have hrec : Has P w K mg base (2 + n) "poly_put" st_poly_put ["poly", "letter", "fraction"] 3 (f_poly_put n) f fd := ⟨m, F, bd_poly_put F, ih⟩
    have hle : 2 + n ≤ 2 + n := Nat.le_refl _
    refine fng_sem (k := 2 + n) F sc_poly_put fun cdv A outer s H E hr hg => ?_
    exact (ss_cons (ss_if (xtCmp (op_gEq (hu64 hr)) (xV 1) se_str) (ss_one (ss_ret (xCall h_exchanged_by (Nat.le_trans (by decide : 2 ≤ 2) (Nat.le_add_right _ _)) hr hg (takes_of rfl rfl rfl rfl) (by rfl) (xA (xCall hrec hle hr hg (takes_of rfl rfl rfl rfl) (by rfl) (xA (xCall h_exchanged_by (Nat.le_trans (by decide : 2 ≤ 2) (Nat.le_add_right _ _)) hr hg (takes_of rfl rfl rfl rfl) (by rfl) (xA (xV 0) sa_nil)) (xA se_str (xA (xV 2) sa_nil)))) sa_nil)))) ss_nil)
      (ss_cons (ss_if (xtCmp (op_gEq (hu64 hr)) (xV 0) (se_tup sa_nil)) (ss_one (ss_ret (xV 0))) ss_nil)
      (ss_cons (xSet 3 sc_poly_put.nd (se_op op_gSub (xBi (cr_gMax rfl) bt_max L.z_max (by rfl) (xA (se_frz (xLc [("row", 4)] rfl sc_poly_put.nd (si_any (xV 0)) (fun _ _ _ _ _ => (xwNm 4 sc_poly_put.nd)) (fun _ _ _ _ _ => sts_nil) (fun _ _ _ _ _ => (xBi cr_gLen bt_len L.z_len (by rfl) (xA (xV 4) sa_nil))) (ok := by exact blkOk_by (show blkC ["poly", "letter", "fraction", "degree", "row"] (defScope st_poly_put) _ [("row", 4)] = true from by decide +kernel)))) sa_nil)) se_int))
      (ss_one (ss_ret (xCall h_letter_poly (Nat.le_trans (by decide : 1 ≤ 2) (Nat.le_add_right _ _)) hr hg (takes_of rfl rfl rfl rfl) (by rfl) (xA (xCall h_trimmed (Nat.le_trans (by decide : 1 ≤ 2) (Nat.le_add_right _ _)) hr hg (takes_of rfl rfl rfl rfl) (by rfl) (xA (se_frz (xLc [("row", 4)] rfl sc_poly_put.nd (si_any (xV 0)) (fun _ _ _ _ _ => (xwNm 4 sc_poly_put.nd)) (fun _ _ _ _ _ => sts_nil) (fun _ _ _ _ _ => (xCall h_row_put (Nat.le_trans (by decide : 2 ≤ 2) (Nat.le_add_right _ _)) hr hg takes0 (by rfl) (xA (xV 4) (xA (xV 2) (xA (xV 3) sa_nil))))) (ok := by exact blkOk_by (show blkC ["poly", "letter", "fraction", "degree", "row"] (defScope st_poly_put) _ [("row", 4)] = true from by decide +kernel)))) sa_nil)) (xA se_str sa_nil))))))))

theorem ok_put_by (n : Nat) (L : LE w K mg) : ∃ f fd, Has P w K mg base (5 + n) "put_by" st_put_by ["saying", "letter", "fraction"] 3 (f_put_by n) f fd := by
  obtain ⟨_, _, h_parts_of⟩ := ok_parts_of (P := P) (w := w) (base := base) L
  obtain ⟨_, _, h_with_parts⟩ := ok_with_parts (P := P) (w := w) (base := base) L
  obtain ⟨_, _, h_poly_put⟩ := ok_poly_put 3 (P := P) (w := w) (base := base) L
  obtain ⟨f, fd, m, F⟩ := L.d_put_by
  refine ⟨f, fd, m, F, bd_put_by F, ?_⟩
  induction n with
  | zero => exact fng_bad rfl
  | succ n ih =>
    have hrec : Has P w K mg base (5 + n) "put_by" st_put_by ["saying", "letter", "fraction"] 3 (f_put_by n) f fd := ⟨m, F, bd_put_by F, ih⟩
    have hle : 5 + n ≤ 5 + n := Nat.le_refl _
    refine fng_sem (k := 5 + n) F sc_put_by fun cdv A outer s H E hr hg => ?_
    exact (ss_cons (ss_if (xtCmp (op_gIn (hu65 hr)) (xIx (xV 0) se_int) (xCon L.c_RELATIONS (by rfl))) (ss_one (ss_ret (se_tup (xA (xIx (xV 0) se_int) (xA (xCall h_poly_put (Nat.le_trans (by decide : 5 ≤ 5) (Nat.le_add_right _ _)) hr hg (takes_of rfl rfl rfl rfl) (by rfl) (xA (xIx (xV 0) se_int) (xA (xV 1) (xA (xV 2) sa_nil)))) sa_nil))))) ss_nil)
      (ss_cons (ss_if (sw_or (xtNotInD L.t_PARTS_AT (by rfl) (xIx (xV 0) se_int)) (sw_or1 (sw_and (xtCmp (op_gIn (hu65 hr)) (xIx (xV 0) se_int) (se_tup (xA se_str (xA se_str sa_nil)))) (sw_and1 (xtCmp (op_gEq (hu64 hr)) (xIx (xV 0) se_int) (xV 1)))).pt)).pt (ss_one (ss_ret (xV 0))) ss_nil)
      (ss_one (ss_ret (xCall h_with_parts (Nat.le_trans (by decide : 1 ≤ 5) (Nat.le_add_right _ _)) hr hg (takes_of rfl rfl rfl rfl) (by rfl) (xA (xV 0) (xA (se_frz (xLc [("part", 3)] rfl sc_put_by.nd (si_any (xCall h_parts_of (Nat.le_trans (by decide : 1 ≤ 5) (Nat.le_add_right _ _)) hr hg (takes_of rfl rfl rfl rfl) (by rfl) (xA (xV 0) sa_nil))) (fun _ _ _ _ _ => (xwNm 3 sc_put_by.nd)) (fun _ _ _ _ _ => sts_nil) (fun _ _ _ _ _ => (xCall hrec hle hr hg takes0 (by rfl) (xA (xV 3) (xA (xV 1) (xA (xV 2) sa_nil))))) (ok := by exact blkOk_by (show blkC ["saying", "letter", "fraction", "part"] (defScope st_put_by) _ [("part", 3)] = true from by decide +kernel)))) sa_nil)))))))

theorem ok_opposite_relation (L : LE w K mg) : ∃ f fd, Has P w K mg base 1 "opposite_relation" st_opposite_relation ["relation"] 1 f_opposite_relation f fd := by
  obtain ⟨f, fd, m, F⟩ := L.d_opposite_relation
  refine ⟨f, fd, m, F, bd_opposite_relation F, ?_⟩
  refine fng_sem (k := 0) F sc_opposite_relation fun cdv A outer s H E hr hg => ?_
  exact (ss_one (ss_ret (se_if (xtVal (xStarts (xV 0) se_str)) (se_sl (xV 0) (so_some se_int) so_none) (se_op op_gPlus se_str (xV 0)))))

theorem ok_pushed_by (n : Nat) (L : LE w K mg) : ∃ f fd, Has P w K mg base (1 + n) "pushed_by" st_pushed_by ["saying", "is_turned"] 2 (f_pushed_by n) f fd := by
  obtain ⟨_, _, h_parts_of⟩ := ok_parts_of (P := P) (w := w) (base := base) L
  obtain ⟨_, _, h_with_parts⟩ := ok_with_parts (P := P) (w := w) (base := base) L
  obtain ⟨_, _, h_opposite_relation⟩ := ok_opposite_relation (P := P) (w := w) (base := base) L
  obtain ⟨f, fd, m, F⟩ := L.d_pushed_by
  refine ⟨f, fd, m, F, bd_pushed_by F, ?_⟩
  induction n with
  | zero => exact fng_bad rfl
  | succ n ih =>
    have hrec : Has P w K mg base (1 + n) "pushed_by" st_pushed_by ["saying", "is_turned"] 2 (f_pushed_by n) f fd := ⟨m, F, bd_pushed_by F, ih⟩
    have hle : 1 + n ≤ 1 + n := Nat.le_refl _
    refine fng_sem (k := 1 + n) F sc_pushed_by fun cdv A outer s H E hr hg => ?_
    exact (ss_cons (xSet 2 sc_pushed_by.nd (xIx (xV 0) se_int))
      (ss_cons (ss_if (xtCmp (op_gIn (hu65 hr)) (xV 2) (xCon L.c_RELATIONS (by rfl))) (ss_one (ss_ret (se_tup (xA (se_if (xtVal (xV 1)) (xCall h_opposite_relation (Nat.le_trans (by decide : 1 ≤ 1) (Nat.le_add_right _ _)) hr hg (takes_of rfl rfl rfl rfl) (by rfl) (xA (xV 2) sa_nil)) (xV 2)) (xA (xIx (xV 0) se_int) sa_nil))))) ss_nil)
      (ss_cons (ss_if (xtCmp (op_gEq (hu64 hr)) (xV 2) se_str) (ss_one (ss_ret (xCall hrec hle hr hg (takes_of rfl rfl rfl rfl) (by rfl) (xA (xIx (xV 0) se_int) (xA (se_not (xV 1)) sa_nil))))) ss_nil)
      (ss_cons (xSet 3 sc_pushed_by.nd (se_if (xtVal (xV 1)) (xItD L.t_OPPOSITES (by rfl) (xV 2)) (xV 2)))
      (ss_cons (ss_if (xtNotInD L.t_PARTS_AT (by rfl) (xV 2)) (ss_one (ss_ret (se_tup (xA (xV 3) sa_nil)))) ss_nil)
      (ss_one (ss_ret (se_op op_gPlus (se_tup (xA (xV 3) sa_nil)) (se_sl (xCall h_with_parts (Nat.le_trans (by decide : 1 ≤ 1) (Nat.le_add_right _ _)) hr hg (takes_of rfl rfl rfl rfl) (by rfl) (xA (xV 0) (xA (se_frz (xLc [("part", 4)] rfl sc_pushed_by.nd (si_any (xCall h_parts_of (Nat.le_trans (by decide : 1 ≤ 1) (Nat.le_add_right _ _)) hr hg (takes_of rfl rfl rfl rfl) (by rfl) (xA (xV 0) sa_nil))) (fun _ _ _ _ _ => (xwNm 4 sc_pushed_by.nd)) (fun _ _ _ _ _ => sts_nil) (fun _ _ _ _ _ => (xCall hrec hle hr hg takes0 (by rfl) (xA (xV 4) (xA (xV 1) sa_nil)))) (ok := by exact blkOk_by (show blkC ["saying", "is_turned", "word", "head", "part"] (defScope st_pushed_by) _ [("part", 4)] = true from by decide +kernel)))) sa_nil))) (so_some se_int) so_none)))))))))

theorem ok_check_many (L : LE w K mg) : ∃ f fd, Has P w K mg base 26 "check_many" st_check_many ["saying"] 1 f_check_many f fd := by
  obtain ⟨_, _, h_polys_by⟩ := ok_polys_by 24 (P := P) (w := w) (base := base) L
  obtain ⟨f, fd, m, F⟩ := L.d_check_many
  refine ⟨f, fd, m, F, bd_check_many F, ?_⟩
  refine fng_sem (k := 25) F sc_check_many fun cdv A outer s H E hr hg => ?_
  exact (ss_cons (xSet 1 sc_check_many.nd (xBi cr_gLen bt_len L.z_len (by rfl) (xA (xCall h_polys_by (by decide) hr hg (takes_of rfl rfl rfl rfl) (by rfl) (xA (xV 0) sa_nil)) sa_nil)))
      (ss_one (ss_if (xtCmp op_gGt (xV 1) (xCon L.c_MOST_POLYS (by rfl))) (ss_one ss_nev) ss_nil)))

theorem ok_check_saying (L : LE w K mg) : ∃ f fd, Has P w K mg base 27 "check_saying" st_check_saying ["value"] 1 f_check_saying f fd := by
  obtain ⟨_, _, h_is_sayinged⟩ := ok_is_sayinged 12 (P := P) (w := w) (base := base) L
  obtain ⟨_, _, h_check_many⟩ := ok_check_many (P := P) (w := w) (base := base) L
  obtain ⟨f, fd, m, F⟩ := L.d_check_saying
  refine ⟨f, fd, m, F, bd_check_saying F, ?_⟩
  refine fng_sem (k := 26) F sc_check_saying fun cdv A outer s H E hr hg => ?_
  exact (ss_cons (ss_if (st_not (xtVal (xCall h_is_sayinged (by decide) hr hg (takes_of rfl rfl rfl rfl) (by rfl) (xA (xV 0) (xA (xCon L.c_MOST_DEEP (by rfl)) sa_nil))))) (ss_one ss_nev) ss_nil)
      (ss_one (xExpr (xCall h_check_many (by decide) hr hg (takes_of rfl rfl rfl rfl) (by rfl) (xA (xV 0) sa_nil)))))

theorem ok_check_letter (L : LE w K mg) : ∃ f fd, Has P w K mg base 2 "check_letter" st_check_letter ["value"] 1 f_check_letter f fd := by
  obtain ⟨_, _, h_is_letter⟩ := ok_is_letter (P := P) (w := w) (base := base) L
  obtain ⟨f, fd, m, F⟩ := L.d_check_letter
  refine ⟨f, fd, m, F, bd_check_letter F, ?_⟩
  refine fng_sem (k := 1) F sc_check_letter fun cdv A outer s H E hr hg => ?_
  exact (ss_one (ss_if (st_not (xtVal (xCall h_is_letter (by decide) hr hg (takes_of rfl rfl rfl rfl) (by rfl) (xA (xV 0) sa_nil)))) (ss_one ss_nev) ss_nil))

theorem ok_depth_of (L : LE w K mg) : ∃ f fd, Has P w K mg base 28 "depth_of" st_depth_of ["saying"] 1 f_depth_of f fd := by
  obtain ⟨_, _, h_depth_by⟩ := ok_depth_by 24 (P := P) (w := w) (base := base) L
  obtain ⟨_, _, h_check_saying⟩ := ok_check_saying (P := P) (w := w) (base := base) L
  obtain ⟨f, fd, m, F⟩ := L.d_depth_of
  refine ⟨f, fd, m, F, bd_depth_of F, ?_⟩
  refine fng_sem (k := 27) F sc_depth_of fun cdv A outer s H E hr hg => ?_
  exact (ss_cons (xExpr (xCall h_check_saying (by decide) hr hg (takes_of rfl rfl rfl rfl) (by rfl) (xA (xV 0) sa_nil)))
      (ss_one (ss_ret (xCall h_depth_by (by decide) hr hg (takes_of rfl rfl rfl rfl) (by rfl) (xA (xV 0) sa_nil)))))

theorem ok_exchanged (L : LE w K mg) : ∃ f fd, Has P w K mg base 28 "exchanged" st_exchanged ["saying"] 1 f_exchanged f fd := by
  obtain ⟨_, _, h_exchanged_saying⟩ := ok_exchanged_saying 24 (P := P) (w := w) (base := base) L
  obtain ⟨_, _, h_check_saying⟩ := ok_check_saying (P := P) (w := w) (base := base) L
  obtain ⟨f, fd, m, F⟩ := L.d_exchanged
  refine ⟨f, fd, m, F, bd_exchanged F, ?_⟩
  refine fng_sem (k := 27) F sc_exchanged fun cdv A outer s H E hr hg => ?_
  exact (ss_cons (xExpr (xCall h_check_saying (by decide) hr hg (takes_of rfl rfl rfl rfl) (by rfl) (xA (xV 0) sa_nil)))
      (ss_one (ss_ret (xCall h_exchanged_saying (by decide) hr hg (takes_of rfl rfl rfl rfl) (by rfl) (xA (xV 0) sa_nil)))))

theorem ok_put_for (L : LE w K mg) : ∃ f fd, Has P w K mg base 30 "put_for" st_put_for ["saying", "letter", "fraction"] 3 f_put_for f fd := by
  obtain ⟨_, _, h_check_fraction⟩ := ok_check_fraction (P := P) (w := w) (base := base) L
  obtain ⟨_, _, h_put_by⟩ := ok_put_by 24 (P := P) (w := w) (base := base) L
  obtain ⟨_, _, h_check_saying⟩ := ok_check_saying (P := P) (w := w) (base := base) L
  obtain ⟨_, _, h_check_letter⟩ := ok_check_letter (P := P) (w := w) (base := base) L
  obtain ⟨f, fd, m, F⟩ := L.d_put_for
  refine ⟨f, fd, m, F, bd_put_for F, ?_⟩
  refine fng_sem (k := 29) F sc_put_for fun cdv A outer s H E hr hg => ?_
  exact (ss_cons (xExpr (xCall h_check_saying (by decide) hr hg (takes_of rfl rfl rfl rfl) (by rfl) (xA (xV 0) sa_nil)))
      (ss_cons (xExpr (xCall h_check_letter (by decide) hr hg (takes_of rfl rfl rfl rfl) (by rfl) (xA (xV 1) sa_nil)))
      (ss_cons (xExpr (xCall h_check_fraction (by decide) hr hg (takes_of rfl rfl rfl rfl) (by rfl) (xA (xV 2) sa_nil)))
      (ss_one (ss_ret (xCall h_put_by (by decide) hr hg (takes_of rfl rfl rfl rfl) (by rfl) (xA (xV 0) (xA (xV 1) (xA (xV 2) sa_nil)))))))))

theorem ok_pushed (L : LE w K mg) : ∃ f fd, Has P w K mg base 28 "pushed" st_pushed ["saying"] 1 f_pushed f fd := by
  obtain ⟨_, _, h_pushed_by⟩ := ok_pushed_by 24 (P := P) (w := w) (base := base) L
  obtain ⟨_, _, h_check_saying⟩ := ok_check_saying (P := P) (w := w) (base := base) L
  obtain ⟨f, fd, m, F⟩ := L.d_pushed
  refine ⟨f, fd, m, F, bd_pushed F, ?_⟩
  refine fng_sem (k := 27) F sc_pushed fun cdv A outer s H E hr hg => ?_
  exact (ss_cons (xExpr (xCall h_check_saying (by decide) hr hg (takes_of rfl rfl rfl rfl) (by rfl) (xA (xV 0) sa_nil)))
      (ss_one (ss_ret (xCall h_pushed_by (by decide) hr hg (takes_of rfl rfl rfl rfl) (by rfl) (xA (xV 0) (xA se_bl sa_nil))))))

theorem ok_law_well (L : LE w K mg) : ∃ f fd, Has P w K mg base 1 "_law_well" st_law_well ["_law_script", "_law_at"] 2 f_law_well f fd := by
  obtain ⟨f, fd, m, F⟩ := L.d_law_well
  refine ⟨f, fd, m, F, bd_law_well F, ?_⟩
  refine fng_sem (k := 0) F sc_law_well fun cdv A outer s H E hr hg => ?_
  exact (ss_cons (xSet 2 sc_law_well.nd (se_op op_gPlus se_int (se_op op_gTimes se_int (xV 1))))
      (ss_cons (xFor (passes_of rfl) rfl (si_any (se_sl (xV 0) so_none (so_some se_int))) (xNm 3 sc_law_well.nd) (ss_one (xSet 2 sc_law_well.nd (se_op op_gMod (xTy cr_gInt bt_int L.z_int (by rfl) (xA (se_op op_gPlus (se_op op_gPlus (se_op op_gTimes (xV 2) se_int) (se_op op_gMod (xTy cr_gInt bt_int L.z_int (by rfl) (xA (xV 3) sa_nil)) se_int)) se_int) sa_nil)) se_int))))
      (ss_cons (xSet 4 sc_law_well.nd (se_if (xtCmp op_gLt (xV 1) (xBi cr_gLen bt_len L.z_len (by rfl) (xA (xV 0) sa_nil))) (xTy cr_gInt bt_int L.z_int (by rfl) (xA (xIx (xV 0) (xV 1)) sa_nil)) se_int))
      (ss_cons (xSet 2 sc_law_well.nd (se_op op_gMod (xTy cr_gInt bt_int L.z_int (by rfl) (xA (se_op op_gPlus (se_op op_gPlus (se_op op_gTimes (xV 2) se_int) (se_op op_gTimes (se_op op_gMod (xTy cr_gInt bt_int L.z_int (by rfl) (xA (xV 4) sa_nil)) se_int) se_int)) se_int) sa_nil)) se_int))
      (ss_one (ss_ret (se_new (sl_disp (xA (se_if (sw_or (xtCmp op_gLt (xV 4) se_int) (sw_or1 (xtCmp op_gGe (xV 4) (se_op op_gPow se_int se_int)))).pt (xBi cr_gAbs bt_abs L.z_abs (by rfl) (xA (xV 4) sa_nil)) se_int) (xA (xV 2) (xA se_int sa_nil)))))))))))

theorem ok_law_draw (L : LE w K mg) : ∃ f fd, Has P w K mg base 1 "_law_draw" st_law_draw ["_law_well_here", "_law_many"] 2 f_law_draw f fd := by
  obtain ⟨f, fd, m, F⟩ := L.d_law_draw
  refine ⟨f, fd, m, F, bd_law_draw F, ?_⟩
  refine fng_sem (k := 0) F sc_law_draw fun cdv A outer s H E hr hg => ?_
  exact (ss_cons (ss_if (xtCmp op_gGt (xIx (xV 0) se_int) se_int) (ss_cons (xAsg (xBi cr_gDivmod bt_divmod L.z_divmod (by rfl) (xA (xIx (xV 0) se_int) (xA (xV 1) sa_nil))) (xGT rfl (xG (xGS (xV 0) se_int) (xG (xNm 3 sc_law_draw.nd) sgs_nil))))
      (ss_one (ss_ret (xV 3)))) ss_nil)
      (ss_cons (xAsg (se_op op_gPlus (xIx (xV 0) se_int) se_int) (xGS (xV 0) se_int))
      (ss_cons (xSet 2 sc_law_draw.nd (se_op op_gMod (xTy cr_gInt bt_int L.z_int (by rfl) (xA (se_op op_gPlus (xIx (xV 0) se_int) (se_op op_gTimes se_int (xIx (xV 0) se_int))) sa_nil)) se_int))
      (ss_cons (xAsg (se_op op_gMod (xTy cr_gInt bt_int L.z_int (by rfl) (xA (se_op op_gPlus (se_op op_gTimes (xV 2) (se_op op_gPlus (se_op op_gMod (xTy cr_gInt bt_int L.z_int (by rfl) (xA (xV 2) sa_nil)) se_int) se_int)) (se_op op_gTimes se_int (xIx (xV 0) se_int))) sa_nil)) se_int) (xGS (xV 0) se_int))
      (ss_one (ss_ret (se_op op_gMod (xTy cr_gInt bt_int L.z_int (by rfl) (xA (se_op op_gDiv (xIx (xV 0) se_int) se_int) sa_nil)) (xV 1))))))))

theorem ok_law_pick (L : LE w K mg) : ∃ f fd, Has P w K mg base 2 "_law_pick" st_law_pick ["_law_well_here", "_law_some"] 2 f_law_pick f fd := by
  obtain ⟨_, _, h_law_draw⟩ := ok_law_draw (P := P) (w := w) (base := base) L
  obtain ⟨f, fd, m, F⟩ := L.d_law_pick
  refine ⟨f, fd, m, F, bd_law_pick F, ?_⟩
  refine fng_sem (k := 1) F sc_law_pick fun cdv A outer s H E hr hg => ?_
  exact (ss_one (ss_ret (xIx (xV 1) (xCall h_law_draw (by decide) hr hg (takes_of rfl rfl rfl rfl) (by rfl) (xA (xV 0) (xA (xBi cr_gLen bt_len L.z_len (by rfl) (xA (xV 1) sa_nil)) sa_nil))))))

theorem ok_law_share (L : LE w K mg) : ∃ f fd, Has P w K mg base 1 "_law_share" st_law_share ["_law_one", "_law_two"] 2 f_law_share f fd := by
  obtain ⟨f, fd, m, F⟩ := L.d_law_share
  refine ⟨f, fd, m, F, bd_law_share F, ?_⟩
  refine fng_sem (k := 0) F sc_law_share fun cdv A outer s H E hr hg => ?_
  exact (ss_cons (xPar 2 3 rfl sc_law_share.nd (xA (xBi cr_gAbs bt_abs L.z_abs (by rfl) (xA (xV 0) sa_nil)) (xA (xBi cr_gAbs bt_abs L.z_abs (by rfl) (xA (xV 1) sa_nil)) sa_nil)))
      (ss_cons (ss_whileN (passes_of rfl) (xtCmp (op_gNe (hu64 hr)) (xV 3) se_int) (ss_one (xPar 2 3 rfl sc_law_share.nd (xA (xV 3) (xA (se_op op_gMod (xTy cr_gInt bt_int L.z_int (by rfl) (xA (xV 2) sa_nil)) (xV 3)) sa_nil)))))
      (ss_one (ss_ret (xV 2)))))

theorem ok_law_lean (L : LE w K mg) : ∃ f fd, Has P w K mg base 2 "_law_lean" st_law_lean ["_law_top", "_law_low"] 2 f_law_lean f fd := by
  obtain ⟨_, _, h_law_share⟩ := ok_law_share (P := P) (w := w) (base := base) L
  obtain ⟨f, fd, m, F⟩ := L.d_law_lean
  refine ⟨f, fd, m, F, bd_law_lean F, ?_⟩
  refine fng_sem (k := 1) F sc_law_lean fun cdv A outer s H E hr hg => ?_
  exact (ss_cons (xSet 2 sc_law_lean.nd (se_if (xtCmp op_gGt (xV 1) se_int) (xCall h_law_share (by decide) hr hg (takes_of rfl rfl rfl rfl) (by rfl) (xA (xV 0) (xA (xV 1) sa_nil))) (se_op op_gSub se_int (xCall h_law_share (by decide) hr hg (takes_of rfl rfl rfl rfl) (by rfl) (xA (xV 0) (xA (xV 1) sa_nil))))))
      (ss_one (ss_ret (se_tup (xA (se_op op_gDiv (xV 0) (xV 2)) (xA (se_op op_gDiv (xV 1) (xV 2)) sa_nil))))))

theorem ok_law_row (L : LE w K mg) : ∃ f fd, Has P w K mg base 1 "_law_row" st_law_row ["_law_some"] 1 f_law_row f fd := by
  obtain ⟨f, fd, m, F⟩ := L.d_law_row
  refine ⟨f, fd, m, F, bd_law_row F, ?_⟩
  refine fng_sem (k := 0) F sc_law_row fun cdv A outer s H E hr hg => ?_
  exact (ss_cons (xSet 1 sc_law_row.nd (xBi cr_gLen bt_len L.z_len (by rfl) (xA (xV 0) sa_nil)))
      (ss_cons (ss_whileN (passes_of rfl) (sw_and (xtCmp op_gGt (xV 1) se_int) (sw_and1 (xtCmp (op_gEq (hu64 hr)) (xIx (xV 0) (se_op op_gSub (xV 1) se_int)) se_int))).pt (ss_one (xSet 1 sc_law_row.nd (se_op op_gSub (xV 1) se_int))))
      (ss_one (ss_ret (xTy cr_gTuple bt_tuple L.z_tuple (by rfl) (xA (se_sl (xV 0) so_none (so_some (xV 1))) sa_nil))))))

theorem ok_law_number (L : LE w K mg) : ∃ f fd, Has P w K mg base 2 "_law_number" st_law_number ["_law_well_here"] 1 f_law_number f fd := by
  obtain ⟨_, _, h_law_draw⟩ := ok_law_draw (P := P) (w := w) (base := base) L
  obtain ⟨f, fd, m, F⟩ := L.d_law_number
  refine ⟨f, fd, m, F, bd_law_number F, ?_⟩
  refine fng_sem (k := 1) F sc_law_number fun cdv A outer s H E hr hg => ?_
  exact (ss_cons (xSet 1 sc_law_number.nd (xCall h_law_draw (by decide) hr hg (takes_of rfl rfl rfl rfl) (by rfl) (xA (xV 0) (xA se_int sa_nil))))
      (ss_cons (ss_if (xtCmp op_gLt (xV 1) se_int) (ss_one (ss_ret (xIx (se_tup (xA se_int (xA se_int (xA (se_un un_gNeg se_int) (xA se_int (xA se_int (xA se_int (xA se_int (xA (se_un un_gNeg se_int) (xA se_int (xA se_int sa_nil))))))))))) (xV 1)))) ss_nil)
      (ss_one (ss_ret (se_if (xtCmp (op_gEq (hu64 hr)) (xV 1) se_int) (se_op op_gSub (xCall h_law_draw (by decide) hr hg (takes_of rfl rfl rfl rfl) (by rfl) (xA (xV 0) (xA se_int sa_nil))) se_int) (se_op op_gSub (se_op op_gPow se_int se_int) (xCall h_law_draw (by decide) hr hg (takes_of rfl rfl rfl rfl) (by rfl) (xA (xV 0) (xA se_int sa_nil)))))))))

theorem ok_law_poly (L : LE w K mg) : ∃ f fd, Has P w K mg base 3 "_law_poly" st_law_poly ["_law_well_here"] 1 f_law_poly f fd := by
  obtain ⟨_, _, h_law_draw⟩ := ok_law_draw (P := P) (w := w) (base := base) L
  obtain ⟨_, _, h_law_row⟩ := ok_law_row (P := P) (w := w) (base := base) L
  obtain ⟨_, _, h_law_number⟩ := ok_law_number (P := P) (w := w) (base := base) L
  obtain ⟨f, fd, m, F⟩ := L.d_law_poly
  refine ⟨f, fd, m, F, bd_law_poly F, ?_⟩
  refine fng_sem (k := 2) F sc_law_poly fun cdv A outer s H E hr hg => ?_
  exact (ss_cons (xPar 2 3 rfl sc_law_poly.nd (xA (xCall h_law_draw (by decide) hr hg (takes_of rfl rfl rfl rfl) (by rfl) (xA (xV 0) (xA se_int sa_nil))) (xA (se_new (sl_disp sa_nil)) sa_nil)))
      (ss_cons (xFor (passes_of rfl) rfl (xR1 L.z_range (by rfl) (xA (se_op op_gPlus se_int (xCall h_law_draw (by decide) hr hg (takes_of rfl rfl rfl rfl) (by rfl) (xA (xV 0) (xA (se_if (xtCmp (op_gEq (hu64 hr)) (xV 2) se_int) se_int se_int) sa_nil)))) sa_nil)) (xNm 1 sc_law_poly.nd) (ss_cons (xSet 4 sc_law_poly.nd (se_new (sl_disp sa_nil)))
      (ss_cons (xFor (passes_of rfl) rfl (xR1 L.z_range (by rfl) (xA (xCall h_law_draw (by decide) hr hg (takes_of rfl rfl rfl rfl) (by rfl) (xA (xV 0) (xA (se_if (xtCmp (op_gEq (hu64 hr)) (xV 2) se_int) se_int se_int) sa_nil))) sa_nil)) (xNm 5 sc_law_poly.nd) (ss_one (xExpr (xApp (xV 4) (xA (xCall h_law_number (by decide) hr hg (takes_of rfl rfl rfl rfl) (by rfl) (xA (xV 0) sa_nil)) sa_nil)))))
      (ss_one (xExpr (xApp (xV 3) (xA (xCall h_law_row (by decide) hr hg (takes_of rfl rfl rfl rfl) (by rfl) (xA (xV 4) sa_nil)) sa_nil)))))))
      (ss_cons (ss_whileN (passes_of rfl) (sw_and (xtCmp (op_gNe (hu64 hr)) (xV 3) (se_frz (sl_disp sa_nil))) (sw_and1 (xtCmp (op_gEq (hu64 hr)) (xIx (xV 3) (se_un un_gNeg se_int)) (se_tup sa_nil)))).pt (ss_one (xExpr (xPop (xV 3)))))
      (ss_one (ss_ret (xTy cr_gTuple bt_tuple L.z_tuple (by rfl) (xA (xV 3) sa_nil)))))))

theorem ok_law_leaf (L : LE w K mg) : ∃ f fd, Has P w K mg base 3 "_law_leaf" st_law_leaf ["_law_well_here", "_law_some"] 2 f_law_leaf f fd := by
  obtain ⟨_, _, h_law_draw⟩ := ok_law_draw (P := P) (w := w) (base := base) L
  obtain ⟨_, _, h_law_pick⟩ := ok_law_pick (P := P) (w := w) (base := base) L
  obtain ⟨f, fd, m, F⟩ := L.d_law_leaf
  refine ⟨f, fd, m, F, bd_law_leaf F, ?_⟩
  refine fng_sem (k := 2) F sc_law_leaf fun cdv A outer s H E hr hg => ?_
  exact (ss_cons (ss_if (xtCmp (op_gEq (hu64 hr)) (xCall h_law_draw (by decide) hr hg (takes_of rfl rfl rfl rfl) (by rfl) (xA (xV 0) (xA se_int sa_nil))) se_int) (ss_one (ss_ret (se_tup (xA (xCall h_law_pick (by decide) hr hg (takes_of rfl rfl rfl rfl) (by rfl) (xA (xV 0) (xA (se_tup (xA se_str (xA se_str sa_nil))) sa_nil))) sa_nil)))) ss_nil)
      (ss_cons (xSet 2 sc_law_leaf.nd (xCall h_law_pick (by decide) hr hg (takes_of rfl rfl rfl rfl) (by rfl) (xA (xV 0) (xA (se_tup (xA se_str (xA se_str (xA se_str (xA se_str (xA se_str (xA se_str sa_nil))))))) sa_nil))))
      (ss_one (ss_ret (se_tup (xA (xV 2) (xA (xCall h_law_pick (by decide) hr hg (takes_of rfl rfl rfl rfl) (by rfl) (xA (xV 0) (xA (xV 1) sa_nil))) sa_nil)))))))

theorem ok_law_made (n : Nat) (L : LE w K mg) : ∃ f fd, Has P w K mg base (3 + n) "_law_made" st_law_made ["_law_well_here", "_law_some", "_law_deep"] 3 (f_law_made n) f fd := by
  obtain ⟨_, _, h_law_draw⟩ := ok_law_draw (P := P) (w := w) (base := base) L
  obtain ⟨_, _, h_law_pick⟩ := ok_law_pick (P := P) (w := w) (base := base) L
  obtain ⟨_, _, h_law_leaf⟩ := ok_law_leaf (P := P) (w := w) (base := base) L
  obtain ⟨f, fd, m, F⟩ := L.d_law_made
  refine ⟨f, fd, m, F, bd_law_made F, ?_⟩
  induction n with
  | zero => exact fng_bad rfl
  | succ n ih =>
    have hrec : Has P w K mg base (3 + n) "_law_made" st_law_made ["_law_well_here", "_law_some", "_law_deep"] 3 (f_law_made n) f fd := ⟨m, F, bd_law_made F, ih⟩
    have hle : 3 + n ≤ 3 + n := Nat.le_refl _
    refine fng_sem (k := 3 + n) F sc_law_made fun cdv A outer s H E hr hg => ?_
    exact (ss_cons (ss_if (xtCmp op_gLt (xV 2) se_int) (ss_one (ss_ret (xCall h_law_leaf (Nat.le_trans (by decide : 3 ≤ 3) (Nat.le_add_right _ _)) hr hg (takes_of rfl rfl rfl rfl) (by rfl) (xA (xV 0) (xA (xV 1) sa_nil))))) ss_nil)
      (ss_cons (xPar 5 6 rfl sc_law_made.nd (xA (xCall h_law_draw (Nat.le_trans (by decide : 1 ≤ 3) (Nat.le_add_right _ _)) hr hg (takes_of rfl rfl rfl rfl) (by rfl) (xA (xV 0) (xA se_int sa_nil))) (xA (xCall hrec hle hr hg (takes_of rfl rfl rfl rfl) (by rfl) (xA (xV 0) (xA (xV 1) (xA (se_op op_gSub (xV 2) se_int) sa_nil)))) sa_nil)))
      (ss_cons (ss_if (xtCmp op_gLt (xV 5) se_int) (ss_one (ss_ret (se_tup (xA se_str (xA (xV 6) sa_nil))))) ss_nil)
      (ss_cons (ss_if (xtCmp op_gLt (xV 5) se_int) (ss_one (ss_ret (se_tup (xA (xCall h_law_pick (Nat.le_trans (by decide : 2 ≤ 3) (Nat.le_add_right _ _)) hr hg (takes_of rfl rfl rfl rfl) (by rfl) (xA (xV 0) (xA (se_tup (xA se_str (xA se_str sa_nil))) sa_nil))) (xA (xCall h_law_pick (Nat.le_trans (by decide : 2 ≤ 3) (Nat.le_add_right _ _)) hr hg (takes_of rfl rfl rfl rfl) (by rfl) (xA (xV 0) (xA (se_tup (xA se_str (xA se_str sa_nil))) sa_nil))) (xA (xV 6) sa_nil)))))) ss_nil)
      (ss_cons (xSet 3 sc_law_made.nd (xCall h_law_pick (Nat.le_trans (by decide : 2 ≤ 3) (Nat.le_add_right _ _)) hr hg (takes_of rfl rfl rfl rfl) (by rfl) (xA (xV 0) (xA (se_tup (xA se_str (xA se_str sa_nil))) sa_nil))))
      (ss_cons (xSet 4 sc_law_made.nd (xCall hrec hle hr hg (takes_of rfl rfl rfl rfl) (by rfl) (xA (xV 0) (xA (xV 1) (xA (xBi (cr_gMin rfl) bt_min L.z_min (by rfl) (xA (se_op op_gSub (xV 2) se_int) (xA (se_op op_gPlus se_int (xCall h_law_draw (Nat.le_trans (by decide : 1 ≤ 3) (Nat.le_add_right _ _)) hr hg (takes_of rfl rfl rfl rfl) (by rfl) (xA (xV 0) (xA se_int sa_nil)))) sa_nil))) sa_nil)))))
      (ss_one (ss_ret (se_if (xtCmp (op_gEq (hu64 hr)) (xCall h_law_draw (Nat.le_trans (by decide : 1 ≤ 3) (Nat.le_add_right _ _)) hr hg (takes_of rfl rfl rfl rfl) (by rfl) (xA (xV 0) (xA se_int sa_nil))) se_int) (se_tup (xA (xV 3) (xA (xV 6) (xA (xV 4) sa_nil)))) (se_tup (xA (xV 3) (xA (xV 4) (xA (xV 6) sa_nil)))))))))))))

theorem ok_law_turned (L : LE w K mg) : ∃ f fd, Has P w K mg base 2 "_law_turned" st_law_turned ["_law_poly_here"] 1 f_law_turned f fd := by
  obtain ⟨_, _, h_law_row⟩ := ok_law_row (P := P) (w := w) (base := base) L
  obtain ⟨f, fd, m, F⟩ := L.d_law_turned
  refine ⟨f, fd, m, F, bd_law_turned F, ?_⟩
  refine fng_sem (k := 1) F sc_law_turned fun cdv A outer s H E hr hg => ?_
  exact (ss_cons (xSet 1 sc_law_turned.nd (se_new (sl_disp sa_nil)))
      (ss_cons (xFor (passes_of rfl) rfl (xR1 L.z_range (by rfl) (xA (xBi (cr_gMax rfl) bt_max L.z_max (by rfl) (xA (se_op op_gPlus (se_frz (xLc [("_law_row_here", 3)] rfl sc_law_turned.nd (si_any (xV 0)) (fun _ _ _ _ _ => (xwNm 3 sc_law_turned.nd)) (fun _ _ _ _ _ => sts_nil) (fun _ _ _ _ _ => (xBi cr_gLen bt_len L.z_len (by rfl) (xA (xV 3) sa_nil))) (ok := by exact blkOk_by (show blkC ["_law_poly_here", "_law_found", "_law_at", "_law_row_here"] (defScope st_law_turned) _ [("_law_row_here", 3)] = true from by decide +kernel)))) (se_frz (sl_disp (xA se_int sa_nil)))) sa_nil)) sa_nil)) (xNm 2 sc_law_turned.nd) (ss_one (xExpr (xApp (xV 1) (xA (xCall h_law_row (by decide) hr hg (takes_of rfl rfl rfl rfl) (by rfl) (xA (se_frz (xLc [("_law_row_here", 3)] rfl sc_law_turned.nd (si_any (xV 0)) (fun _ _ _ _ _ => (xwNm 3 sc_law_turned.nd)) (fun _ _ _ _ _ => sts_nil) (fun _ _ _ _ _ => (se_if (xtCmp op_gLt (xV 2) (xBi cr_gLen bt_len L.z_len (by rfl) (xA (xV 3) sa_nil))) (xIx (xV 3) (xV 2)) se_int)) (ok := by exact blkOk_by (show blkC ["_law_poly_here", "_law_found", "_law_at", "_law_row_here"] (defScope st_law_turned) _ [("_law_row_here", 3)] = true from by decide +kernel)))) sa_nil)) sa_nil)))))
      (ss_one (ss_ret (xTy cr_gTuple bt_tuple L.z_tuple (by rfl) (xA (xV 1) sa_nil))))))

theorem ok_law_swapped (n : Nat) (L : LE w K mg) : ∃ f fd, Has P w K mg base (2 + n) "_law_swapped" st_law_swapped ["_law_said"] 1 (f_law_swapped n) f fd := by
  obtain ⟨_, _, h_law_turned⟩ := ok_law_turned (P := P) (w := w) (base := base) L
  obtain ⟨f, fd, m, F⟩ := L.d_law_swapped
  refine ⟨f, fd, m, F, bd_law_swapped F, ?_⟩
  induction n with
  | zero => exact fng_bad rfl
  | succ n ih =>
    have hrec : Has P w K mg base (2 + n) "_law_swapped" st_law_swapped ["_law_said"] 1 (f_law_swapped n) f fd := ⟨m, F, bd_law_swapped F, ih⟩
    have hle : 2 + n ≤ 2 + n := Nat.le_refl _
    refine fng_sem (k := 2 + n) F sc_law_swapped fun cdv A outer s H E hr hg => ?_
    exact (ss_cons (ss_if (xtCmp (op_gEq (hu64 hr)) (xBi cr_gLen bt_len L.z_len (by rfl) (xA (xV 0) sa_nil)) se_int) (ss_one (ss_ret (xV 0))) ss_nil)
      (ss_cons (ss_if (xtCmp (op_gIn (hu65 hr)) (xIx (xV 0) se_int) (se_tup (xA se_str (xA se_str (xA se_str sa_nil))))) (ss_one (ss_ret (se_op op_gPlus (se_tup (xA (xIx (xV 0) se_int) sa_nil)) (xTy cr_gTuple bt_tuple L.z_tuple (by rfl) (xA (se_frz (xLc [("_law_each", 1)] rfl sc_law_swapped.nd (si_any (se_sl (xV 0) (so_some se_int) so_none)) (fun _ _ _ _ _ => (xwNm 1 sc_law_swapped.nd)) (fun _ _ _ _ _ => sts_nil) (fun _ _ _ _ _ => (xCall hrec hle hr hg takes0 (by rfl) (xA (xV 1) sa_nil))) (ok := by exact blkOk_by (show blkC ["_law_said", "_law_each"] (defScope st_law_swapped) _ [("_law_each", 1)] = true from by decide +kernel)))) sa_nil))))) ss_nil)
      (ss_cons (ss_if (xtCmp (op_gEq (hu64 hr)) (xBi cr_gLen bt_len L.z_len (by rfl) (xA (xV 0) sa_nil)) se_int) (ss_one (ss_ret (se_tup (xA (xIx (xV 0) se_int) (xA (se_if (xtCmp (op_gEq (hu64 hr)) (xIx (xV 0) se_int) se_str) se_str se_str) (xA (xCall hrec hle hr hg (takes_of rfl rfl rfl rfl) (by rfl) (xA (xIx (xV 0) se_int) sa_nil)) sa_nil)))))) ss_nil)
      (ss_one (ss_ret (se_tup (xA (xIx (xV 0) se_int) (xA (xCall h_law_turned (Nat.le_trans (by decide : 2 ≤ 2) (Nat.le_add_right _ _)) hr hg (takes_of rfl rfl rfl rfl) (by rfl) (xA (xIx (xV 0) se_int) sa_nil)) sa_nil))))))))

theorem ok_law_scaled (L : LE w K mg) : ∃ f fd, Has P w K mg base 1 "_law_scaled" st_law_scaled ["_law_row_here", "_law_spot"] 2 f_law_scaled f fd := by
  obtain ⟨f, fd, m, F⟩ := L.d_law_scaled
  refine ⟨f, fd, m, F, bd_law_scaled F, ?_⟩
  refine fng_sem (k := 0) F sc_law_scaled fun cdv A outer s H E hr hg => ?_
  exact (ss_cons (xAsg (se_tup (xA se_int (xA se_int sa_nil))) (xGT rfl (xG (xNm 3 sc_law_scaled.nd) (xG (xNm 4 sc_law_scaled.nd) sgs_nil))))
      (ss_cons (xFor (passes_of rfl) rfl (si_any (se_rev (xV 0))) (xNm 2 sc_law_scaled.nd) (ss_one (xPar 3 4 rfl sc_law_scaled.nd (xA (se_op op_gPlus (se_op op_gTimes (xV 3) (xIx (xV 1) se_int)) (se_op op_gTimes (xV 2) (xV 4))) (xA (se_op op_gTimes (xV 4) (xIx (xV 1) se_int)) sa_nil)))))
      (ss_one (ss_ret (xV 3)))))

theorem ok_law_put (L : LE w K mg) : ∃ f fd, Has P w K mg base 2 "_law_put" st_law_put ["_law_poly_here", "_law_letter", "_law_spot"] 3 f_law_put f fd := by
  obtain ⟨_, _, h_law_row⟩ := ok_law_row (P := P) (w := w) (base := base) L
  obtain ⟨_, _, h_law_scaled⟩ := ok_law_scaled (P := P) (w := w) (base := base) L
  obtain ⟨f, fd, m, F⟩ := L.d_law_put
  refine ⟨f, fd, m, F, bd_law_put F, ?_⟩
  refine fng_sem (k := 1) F sc_law_put fun cdv A outer s H E hr hg => ?_
  exact (ss_cons (ss_if (xtCmp (op_gEq (hu64 hr)) (xV 0) (se_tup sa_nil)) (ss_one (ss_ret (se_tup sa_nil))) ss_nil)
      (ss_cons (xPar 5 6 rfl sc_law_put.nd (xA (se_new (sl_disp sa_nil)) (xA (xBi (cr_gMax rfl) bt_max L.z_max (by rfl) (xA (se_frz (xLc [("_law_row_here", 4)] rfl sc_law_put.nd (si_any (xV 0)) (fun _ _ _ _ _ => (xwNm 4 sc_law_put.nd)) (fun _ _ _ _ _ => sts_nil) (fun _ _ _ _ _ => (xBi cr_gLen bt_len L.z_len (by rfl) (xA (xV 4) sa_nil))) (ok := by exact blkOk_by (show blkC ["_law_poly_here", "_law_letter", "_law_spot", "_law_at", "_law_row_here", "_law_found", "_law_most"] (defScope st_law_put) _ [("_law_row_here", 4)] = true from by decide +kernel)))) sa_nil)) sa_nil)))
      (ss_cons (ss_if (xtCmp (op_gEq (hu64 hr)) (xV 1) se_str) (ss_cons (xFor (passes_of rfl) rfl (si_any (xV 0)) (xNm 4 sc_law_put.nd) (ss_one (xExpr (xApp (xV 5) (xA (xCall h_law_row (by decide) hr hg (takes_of rfl rfl rfl rfl) (by rfl) (xA (se_frz (sl_disp (xA (xCall h_law_scaled (by decide) hr hg (takes_of rfl rfl rfl rfl) (by rfl) (xA (se_op op_gPlus (se_frz (xList L.z_list (by rfl) (xA (xV 4) sa_nil))) (se_frz (sl_rep (se_frz (sl_disp (xA se_int sa_nil))) (se_op op_gSub (xV 6) (xBi cr_gLen bt_len L.z_len (by rfl) (xA (xV 4) sa_nil)))))) (xA (xV 2) sa_nil))) sa_nil))) sa_nil)) sa_nil)))))
      (ss_cons (ss_whileN (passes_of rfl) (sw_and (xtCmp (op_gNe (hu64 hr)) (xV 5) (se_frz (sl_disp sa_nil))) (sw_and1 (xtCmp (op_gEq (hu64 hr)) (xIx (xV 5) (se_un un_gNeg se_int)) (se_tup sa_nil)))).pt (ss_one (xExpr (xPop (xV 5)))))
      (ss_one (ss_ret (xTy cr_gTuple bt_tuple L.z_tuple (by rfl) (xA (xV 5) sa_nil)))))) ss_nil)
      (ss_cons (xFor (passes_of rfl) rfl (xR1 L.z_range (by rfl) (xA (xV 6) sa_nil)) (xNm 3 sc_law_put.nd) (ss_one (xExpr (xApp (xV 5) (xA (xCall h_law_scaled (by decide) hr hg (takes_of rfl rfl rfl rfl) (by rfl) (xA (se_frz (xLc [("_law_row_here", 4)] rfl sc_law_put.nd (si_any (xV 0)) (fun _ _ _ _ _ => (xwNm 4 sc_law_put.nd)) (fun _ _ _ _ _ => sts_nil) (fun _ _ _ _ _ => (se_if (xtCmp op_gLt (xV 3) (xBi cr_gLen bt_len L.z_len (by rfl) (xA (xV 4) sa_nil))) (xIx (xV 4) (xV 3)) se_int)) (ok := by exact blkOk_by (show blkC ["_law_poly_here", "_law_letter", "_law_spot", "_law_at", "_law_row_here", "_law_found", "_law_most"] (defScope st_law_put) _ [("_law_row_here", 4)] = true from by decide +kernel)))) (xA (xV 2) sa_nil))) sa_nil)))))
      (ss_cons (xSet 4 sc_law_put.nd (xCall h_law_row (by decide) hr hg (takes_of rfl rfl rfl rfl) (by rfl) (xA (xV 5) sa_nil)))
      (ss_one (ss_ret (se_if (xtCmp (op_gNe (hu64 hr)) (xV 4) (se_tup sa_nil)) (se_tup (xA (xV 4) sa_nil)) (se_tup sa_nil)))))))))

theorem ok_law_filled (n : Nat) (L : LE w K mg) : ∃ f fd, Has P w K mg base (2 + n) "_law_filled" st_law_filled ["_law_said", "_law_letter", "_law_spot"] 3 (f_law_filled n) f fd := by
  obtain ⟨_, _, h_law_put⟩ := ok_law_put (P := P) (w := w) (base := base) L
  obtain ⟨f, fd, m, F⟩ := L.d_law_filled
  refine ⟨f, fd, m, F, bd_law_filled F, ?_⟩
  induction n with
  | zero => exact fng_bad rfl
  | succ n ih =>
    have hrec : Has P w K mg base (2 + n) "_law_filled" st_law_filled ["_law_said", "_law_letter", "_law_spot"] 3 (f_law_filled n) f fd := ⟨m, F, bd_law_filled F, ih⟩
    have hle : 2 + n ≤ 2 + n := Nat.le_refl _
    refine fng_sem (k := 2 + n) F sc_law_filled fun cdv A outer s H E hr hg => ?_
    exact (ss_cons (ss_if (xtCmp (op_gEq (hu64 hr)) (xBi cr_gLen bt_len L.z_len (by rfl) (xA (xV 0) sa_nil)) se_int) (ss_one (ss_ret (xV 0))) ss_nil)
      (ss_cons (ss_if (xtCmp (op_gIn (hu65 hr)) (xIx (xV 0) se_int) (se_tup (xA se_str (xA se_str (xA se_str sa_nil))))) (ss_one (ss_ret (se_op op_gPlus (se_tup (xA (xIx (xV 0) se_int) sa_nil)) (xTy cr_gTuple bt_tuple L.z_tuple (by rfl) (xA (se_frz (xLc [("_law_each", 3)] rfl sc_law_filled.nd (si_any (se_sl (xV 0) (so_some se_int) so_none)) (fun _ _ _ _ _ => (xwNm 3 sc_law_filled.nd)) (fun _ _ _ _ _ => sts_nil) (fun _ _ _ _ _ => (xCall hrec hle hr hg takes0 (by rfl) (xA (xV 3) (xA (xV 1) (xA (xV 2) sa_nil))))) (ok := by exact blkOk_by (show blkC ["_law_said", "_law_letter", "_law_spot", "_law_each"] (defScope st_law_filled) _ [("_law_each", 3)] = true from by decide +kernel)))) sa_nil))))) ss_nil)
      (ss_cons (ss_if (xtCmp (op_gIn (hu65 hr)) (xIx (xV 0) se_int) (se_tup (xA se_str (xA se_str sa_nil)))) (ss_one (ss_ret (se_if (xtCmp (op_gEq (hu64 hr)) (xIx (xV 0) se_int) (xV 1)) (xV 0) (se_op op_gPlus (se_sl (xV 0) so_none (so_some se_int)) (se_tup (xA (xCall hrec hle hr hg (takes_of rfl rfl rfl rfl) (by rfl) (xA (xIx (xV 0) se_int) (xA (xV 1) (xA (xV 2) sa_nil)))) sa_nil)))))) ss_nil)
      (ss_one (ss_ret (se_tup (xA (xIx (xV 0) se_int) (xA (xCall h_law_put (Nat.le_trans (by decide : 2 ≤ 2) (Nat.le_add_right _ _)) hr hg (takes_of rfl rfl rfl rfl) (by rfl) (xA (xIx (xV 0) se_int) (xA (xV 1) (xA (xV 2) sa_nil)))) sa_nil))))))))

theorem ok_law_led (n : Nat) (L : LE w K mg) : ∃ f fd, Has P w K mg base (0 + n) "_law_led" st_law_led ["_law_said", "_law_is_not"] 2 (f_law_led n) f fd := by
  obtain ⟨f, fd, m, F⟩ := L.d_law_led
  refine ⟨f, fd, m, F, bd_law_led F, ?_⟩
  induction n with
  | zero => exact fng_bad rfl
  | succ n ih =>
    have hrec : Has P w K mg base (0 + n) "_law_led" st_law_led ["_law_said", "_law_is_not"] 2 (f_law_led n) f fd := ⟨m, F, bd_law_led F, ih⟩
    have hle : 0 + n ≤ 0 + n := Nat.le_refl _
    refine fng_sem (k := 0 + n) F sc_law_led fun cdv A outer s H E hr hg => ?_
    exact (ss_cons (xSet 2 sc_law_led.nd (xIx (xV 0) se_int))
      (ss_cons (ss_if (xtCmp (op_gEq (hu64 hr)) (xV 2) se_str) (ss_one (ss_ret (xCall hrec hle hr hg (takes_of rfl rfl rfl rfl) (by rfl) (xA (xIx (xV 0) se_int) (xA (se_not (xV 1)) sa_nil))))) ss_nil)
      (ss_cons (ss_if (xtVal (xV 1)) (ss_cons (xSet 3 sc_law_led.nd (xTupX (xA se_str (xA se_str (xA se_str (xA se_str (xA se_str (xA se_str sa_nil))))))))
      (ss_one (ss_if (xtCmp (op_gIn (hu65 hr)) (xV 2) (xUn (xV 3))) (ss_one (xSet 2 sc_law_led.nd (xIx (xUn (xV 3)) (se_op op_gPlus (xIdx (xV 3) (xV 2)) (se_if (xtCmp (op_gIn (hu65 hr)) (xV 2) (se_tup (xA se_str (xA se_str (xA se_str sa_nil))))) se_int (se_un un_gNeg se_int)))))) (ss_one (xSet 2 sc_law_led.nd (se_if (xtCmp (op_gEq (hu64 hr)) (se_sl (xV 2) so_none (so_some se_int)) se_str) (se_sl (xV 2) (so_some se_int) so_none) (se_op op_gPlus se_str (xV 2)))))))) ss_nil)
      (ss_cons (ss_if (xtCmp (op_gIn (hu65 hr)) (xV 2) (se_tup (xA se_str (xA se_str sa_nil)))) (ss_one (ss_ret (se_tup (xA (xV 2) (xA (xCall hrec hle hr hg (takes_of rfl rfl rfl rfl) (by rfl) (xA (xIx (xV 0) se_int) (xA (xV 1) sa_nil))) (xA (xCall hrec hle hr hg (takes_of rfl rfl rfl rfl) (by rfl) (xA (xIx (xV 0) se_int) (xA (xV 1) sa_nil))) sa_nil)))))) ss_nil)
      (ss_cons (ss_if (xtCmp (op_gIn (hu65 hr)) (xV 2) (se_tup (xA se_str (xA se_str sa_nil)))) (ss_one (ss_ret (se_tup (xA (xV 2) (xA (xIx (xV 0) se_int) (xA (xCall hrec hle hr hg (takes_of rfl rfl rfl rfl) (by rfl) (xA (xIx (xV 0) se_int) (xA (xV 1) sa_nil))) sa_nil)))))) ss_nil)
      (ss_one (ss_ret (se_op op_gPlus (se_tup (xA (xV 2) sa_nil)) (se_sl (xV 0) (so_some se_int) so_none)))))))))

theorem ok_law_right (L : LE w K mg) : ∃ f fd, Has P w K mg base 31 "_law_right" st_law_right ["_law_well_here"] 1 f_law_right f fd := by
  obtain ⟨_, _, h_depth_of⟩ := ok_depth_of (P := P) (w := w) (base := base) L
  obtain ⟨_, _, h_exchanged⟩ := ok_exchanged (P := P) (w := w) (base := base) L
  obtain ⟨_, _, h_put_for⟩ := ok_put_for (P := P) (w := w) (base := base) L
  obtain ⟨_, _, h_pushed⟩ := ok_pushed (P := P) (w := w) (base := base) L
  obtain ⟨_, _, h_law_draw⟩ := ok_law_draw (P := P) (w := w) (base := base) L
  obtain ⟨_, _, h_law_pick⟩ := ok_law_pick (P := P) (w := w) (base := base) L
  obtain ⟨_, _, h_law_lean⟩ := ok_law_lean (P := P) (w := w) (base := base) L
  obtain ⟨_, _, h_law_poly⟩ := ok_law_poly (P := P) (w := w) (base := base) L
  obtain ⟨_, _, h_law_made⟩ := ok_law_made 14 (P := P) (w := w) (base := base) L
  obtain ⟨_, _, h_law_swapped⟩ := ok_law_swapped 24 (P := P) (w := w) (base := base) L
  obtain ⟨_, _, h_law_filled⟩ := ok_law_filled 24 (P := P) (w := w) (base := base) L
  obtain ⟨_, _, h_law_led⟩ := ok_law_led 24 (P := P) (w := w) (base := base) L
  obtain ⟨f, fd, m, F⟩ := L.d_law_right
  refine ⟨f, fd, m, F, bd_law_right F, ?_⟩
  refine fng_sem (k := 30) F sc_law_right fun cdv A outer s H E hr hg => ?_
  exact (ss_cons (xSet 1 sc_law_right.nd (se_new (sl_disp sa_nil)))
      (ss_cons (xFor (passes_of rfl) rfl (xR1 L.z_range (by rfl) (xA (xCall h_law_pick (by decide) hr hg (takes_of rfl rfl rfl rfl) (by rfl) (xA (xV 0) (xA (se_tup (xA se_int (xA se_int (xA se_int (xA se_int sa_nil))))) sa_nil))) sa_nil)) (xNm 2 sc_law_right.nd) (ss_one (xExpr (xApp (xV 1) (xA (xCall h_law_poly (by decide) hr hg (takes_of rfl rfl rfl rfl) (by rfl) (xA (xV 0) sa_nil)) sa_nil)))))
      (ss_cons (xPar 7 8 rfl sc_law_right.nd (xA (xCall h_law_made (by decide) hr hg (takes_of rfl rfl rfl rfl) (by rfl) (xA (xV 0) (xA (xV 1) (xA (xCall h_law_pick (by decide) hr hg (takes_of rfl rfl rfl rfl) (by rfl) (xA (xV 0) (xA (se_tup (xA se_int (xA se_int (xA se_int (xA se_int (xA se_int (xA se_int (xA se_int (xA se_int sa_nil))))))))) sa_nil))) sa_nil)))) (xA (xCall h_law_pick (by decide) hr hg (takes_of rfl rfl rfl rfl) (by rfl) (xA (xV 0) (xA (se_tup (xA se_str (xA se_str sa_nil))) sa_nil))) sa_nil)))
      (ss_cons (xSet 3 sc_law_right.nd (xCall h_law_draw (by decide) hr hg (takes_of rfl rfl rfl rfl) (by rfl) (xA (xV 0) (xA se_int sa_nil))))
      (ss_cons (xSet 4 sc_law_right.nd (se_if (xtCmp op_gGt (xV 3) se_int) (se_op op_gSub (xCall h_law_draw (by decide) hr hg (takes_of rfl rfl rfl rfl) (by rfl) (xA (xV 0) (xA se_int sa_nil))) se_int) (se_op op_gSub (xCall h_law_draw (by decide) hr hg (takes_of rfl rfl rfl rfl) (by rfl) (xA (xV 0) (xA se_int sa_nil))) se_int)))
      (ss_cons (xPar 9 10 rfl sc_law_right.nd (xA (xCall h_law_lean (by decide) hr hg (takes_of rfl rfl rfl rfl) (by rfl) (xA (xV 4) (xA (se_op op_gPlus se_int (xCall h_law_draw (by decide) hr hg (takes_of rfl rfl rfl rfl) (by rfl) (xA (xV 0) (xA (se_if (xtCmp op_gLt (xV 3) se_int) se_int se_int) sa_nil)))) sa_nil))) (xA (xBi (cr_gRepr hg (hu64 hr)) bt_repr L.z_repr (by rfl) (xA (xV 7) sa_nil)) sa_nil)))
      (ss_cons (xSet 5 sc_law_right.nd (xCall h_exchanged (by decide) hr hg (takes_of rfl rfl rfl rfl) (by rfl) (xA (xV 7) sa_nil)))
      (ss_cons (ss_if (sw_or (xtCmp (op_gNe (hu64 hr)) (xBi (cr_gRepr hg (hu64 hr)) bt_repr L.z_repr (by rfl) (xA (xV 5) sa_nil)) (xBi (cr_gRepr hg (hu64 hr)) bt_repr L.z_repr (by rfl) (xA (xCall h_law_swapped (by decide) hr hg (takes_of rfl rfl rfl rfl) (by rfl) (xA (xV 7) sa_nil)) sa_nil))) (sw_or1 (xtCmp (op_gNe (hu64 hr)) (xBi (cr_gRepr hg (hu64 hr)) bt_repr L.z_repr (by rfl) (xA (xCall h_exchanged (by decide) hr hg (takes_of rfl rfl rfl rfl) (by rfl) (xA (xV 5) sa_nil)) sa_nil)) (xV 10)))).pt (ss_one (ss_ret se_bl)) ss_nil)
      (ss_cons (ss_if (xtCmp (op_gNe (hu64 hr)) (xBi (cr_gRepr hg (hu64 hr)) bt_repr L.z_repr (by rfl) (xA (xCall h_put_for (by decide) hr hg (takes_of rfl rfl rfl rfl) (by rfl) (xA (xV 7) (xA (xV 8) (xA (xV 9) sa_nil)))) sa_nil)) (xBi (cr_gRepr hg (hu64 hr)) bt_repr L.z_repr (by rfl) (xA (xCall h_law_filled (by decide) hr hg (takes_of rfl rfl rfl rfl) (by rfl) (xA (xV 7) (xA (xV 8) (xA (xV 9) sa_nil)))) sa_nil))) (ss_one (ss_ret se_bl)) ss_nil)
      (ss_cons (xSet 6 sc_law_right.nd (xCall h_pushed (by decide) hr hg (takes_of rfl rfl rfl rfl) (by rfl) (xA (xV 7) sa_nil)))
      (ss_cons (ss_if (sw_or (xtCmp (op_gNe (hu64 hr)) (xBi (cr_gRepr hg (hu64 hr)) bt_repr L.z_repr (by rfl) (xA (xV 6) sa_nil)) (xBi (cr_gRepr hg (hu64 hr)) bt_repr L.z_repr (by rfl) (xA (xCall h_law_led (by decide) hr hg (takes_of rfl rfl rfl rfl) (by rfl) (xA (xV 7) (xA se_bl sa_nil))) sa_nil))) (sw_or1 (xtCmp op_gGt (xCall h_depth_of (by decide) hr hg (takes_of rfl rfl rfl rfl) (by rfl) (xA (xV 6) sa_nil)) (xCall h_depth_of (by decide) hr hg (takes_of rfl rfl rfl rfl) (by rfl) (xA (xV 7) sa_nil))))).pt (ss_one (ss_ret se_bl)) ss_nil)
      (ss_one (ss_ret (se_and (xCmp (op_gEq (hu64 hr)) (xBi (cr_gRepr hg (hu64 hr)) bt_repr L.z_repr (by rfl) (xA (xV 7) sa_nil)) (xV 10)) (se_one (se_or (xCmp (op_gEq (hu64 hr)) (xCall h_depth_of (by decide) hr hg (takes_of rfl rfl rfl rfl) (by rfl) (xA (xV 7) sa_nil)) se_int) (se_one (xCmp (op_gEq (hu64 hr)) (xBi (cr_gRepr hg (hu64 hr)) bt_repr L.z_repr (by rfl) (xA (xCall h_pushed (by decide) hr hg (takes_of rfl rfl rfl rfl) (by rfl) (xA (se_tup (xA se_str (xA (xV 7) sa_nil))) sa_nil)) sa_nil)) (xBi (cr_gRepr hg (hu64 hr)) bt_repr L.z_repr (by rfl) (xA (xCall h_law_led (by decide) hr hg (takes_of rfl rfl rfl rfl) (by rfl) (xA (xV 7) (xA se_bl sa_nil))) sa_nil))))))))))))))))))))

theorem ok_law (L : LE w K mg) : ∃ f fd, Has P w K mg base 32 "law" st_law ["_law_script"] 1 f_law f fd := by
  obtain ⟨_, _, h_law_well⟩ := ok_law_well (P := P) (w := w) (base := base) L
  obtain ⟨_, _, h_law_right⟩ := ok_law_right (P := P) (w := w) (base := base) L
  obtain ⟨f, fd, m, F⟩ := L.d_law
  refine ⟨f, fd, m, F, bd_law F, ?_⟩
  refine fng_sem (k := 31) F sc_law fun cdv A outer s H E hr hg => ?_
  exact (ss_one (ss_ret (xBi (cr_gAll rfl) bt_all L.z_all (by rfl) (xA (se_frz (xLc [("_law_at", 1)] rfl sc_law.nd (xR1 L.z_range (by rfl) (xA (xBi (cr_gMax rfl) bt_max L.z_max (by rfl) (xA se_int (xA (xBi (cr_gMin rfl) bt_min L.z_min (by rfl) (xA (xBi cr_gLen bt_len L.z_len (by rfl) (xA (xV 0) sa_nil)) (xA se_int sa_nil))) sa_nil))) sa_nil)) (fun _ _ _ _ _ => (xwNm 1 sc_law.nd)) (fun _ _ _ _ _ => sts_nil) (fun _ _ _ _ _ => (xCall h_law_right (by decide) hr hg takes0 (by rfl) (xA (xCall h_law_well (by decide) hr hg takes0 (by rfl) (xA (xV 0) (xA (xV 1) sa_nil))) sa_nil))) (ok := by exact blkOk_by (show blkC ["_law_script", "_law_at"] (defScope st_law) _ [("_law_at", 1)] = true from by decide +kernel)))) sa_nil))))

end

theorem all_mk {l : PySem.W.OpenLaw} {w : World} {K : PySem.W.Frag} {h : Heap} {mg : Str → Option Value} {fa : Addr} (X : K.In h) (G : h.Ns mainGlobals mg) (hfa : mg "law" = some (.ref fa))
    {f0 : Addr} {od0 an0 : Option Addr} {sl0 : Array (Option Value)} {oc0 kV0 dc0 pm0 cd0 ct0 : Value}
    (a0 : PySem.W.nsIn K mainGlobals "is_whole" = some (some (.ref f0))) (l0 : K.lookup f0 = some ⟨oc0, od0, .func (PySem.W.fnOf "is_whole" "is_whole" (defArgs st_is_whole) (defBody st_is_whole) (defScope st_is_whole) .none kV0 dc0 pm0 an0 cd0 ct0), sl0⟩) (c0 : PySem.W.codeIn K cd0 "is_whole" = true) (k0 : PySem.W.keepIn K (.ref f0) = true)
    {f1 : Addr} {od1 an1 : Option Addr} {sl1 : Array (Option Value)} {oc1 kV1 dc1 pm1 cd1 ct1 : Value}
    (a1 : PySem.W.nsIn K mainGlobals "are_wholes" = some (some (.ref f1))) (l1 : K.lookup f1 = some ⟨oc1, od1, .func (PySem.W.fnOf "are_wholes" "are_wholes" (defArgs st_are_wholes) (defBody st_are_wholes) (defScope st_are_wholes) .none kV1 dc1 pm1 an1 cd1 ct1), sl1⟩) (c1 : PySem.W.codeIn K cd1 "are_wholes" = true) (k1 : PySem.W.keepIn K (.ref f1) = true)
    {f2 : Addr} {od2 an2 : Option Addr} {sl2 : Array (Option Value)} {oc2 kV2 dc2 pm2 cd2 ct2 : Value}
    (a2 : PySem.W.nsIn K mainGlobals "is_ratio" = some (some (.ref f2))) (l2 : K.lookup f2 = some ⟨oc2, od2, .func (PySem.W.fnOf "is_ratio" "is_ratio" (defArgs st_is_ratio) (defBody st_is_ratio) (defScope st_is_ratio) .none kV2 dc2 pm2 an2 cd2 ct2), sl2⟩) (c2 : PySem.W.codeIn K cd2 "is_ratio" = true) (k2 : PySem.W.keepIn K (.ref f2) = true)
    {f3 : Addr} {od3 an3 : Option Addr} {sl3 : Array (Option Value)} {oc3 kV3 dc3 pm3 cd3 ct3 : Value}
    (a3 : PySem.W.nsIn K mainGlobals "is_rowed" = some (some (.ref f3))) (l3 : K.lookup f3 = some ⟨oc3, od3, .func (PySem.W.fnOf "is_rowed" "is_rowed" (defArgs st_is_rowed) (defBody st_is_rowed) (defScope st_is_rowed) .none kV3 dc3 pm3 an3 cd3 ct3), sl3⟩) (c3 : PySem.W.codeIn K cd3 "is_rowed" = true) (k3 : PySem.W.keepIn K (.ref f3) = true)
    {f4 : Addr} {od4 an4 : Option Addr} {sl4 : Array (Option Value)} {oc4 kV4 dc4 pm4 cd4 ct4 : Value}
    (a4 : PySem.W.nsIn K mainGlobals "trimmed" = some (some (.ref f4))) (l4 : K.lookup f4 = some ⟨oc4, od4, .func (PySem.W.fnOf "trimmed" "trimmed" (defArgs st_trimmed) (defBody st_trimmed) (defScope st_trimmed) .none kV4 dc4 pm4 an4 cd4 ct4), sl4⟩) (c4 : PySem.W.codeIn K cd4 "trimmed" = true) (k4 : PySem.W.keepIn K (.ref f4) = true)
    {f5 : Addr} {od5 an5 : Option Addr} {sl5 : Array (Option Value)} {oc5 kV5 dc5 pm5 cd5 ct5 : Value}
    (a5 : PySem.W.nsIn K mainGlobals "power_of" = some (some (.ref f5))) (l5 : K.lookup f5 = some ⟨oc5, od5, .func (PySem.W.fnOf "power_of" "power_of" (defArgs st_power_of) (defBody st_power_of) (defScope st_power_of) .none kV5 dc5 pm5 an5 cd5 ct5), sl5⟩) (c5 : PySem.W.codeIn K cd5 "power_of" = true) (k5 : PySem.W.keepIn K (.ref f5) = true)
    {f6 : Addr} {od6 an6 : Option Addr} {sl6 : Array (Option Value)} {oc6 kV6 dc6 pm6 cd6 ct6 : Value}
    (a6 : PySem.W.nsIn K mainGlobals "check_fraction" = some (some (.ref f6))) (l6 : K.lookup f6 = some ⟨oc6, od6, .func (PySem.W.fnOf "check_fraction" "check_fraction" (defArgs st_check_fraction) (defBody st_check_fraction) (defScope st_check_fraction) .none kV6 dc6 pm6 an6 cd6 ct6), sl6⟩) (c6 : PySem.W.codeIn K cd6 "check_fraction" = true) (k6 : PySem.W.keepIn K (.ref f6) = true)
    {f7 : Addr} {od7 an7 : Option Addr} {sl7 : Array (Option Value)} {oc7 kV7 dc7 pm7 cd7 ct7 : Value}
    (a7 : PySem.W.nsIn K mainGlobals "is_polyed" = some (some (.ref f7))) (l7 : K.lookup f7 = some ⟨oc7, od7, .func (PySem.W.fnOf "is_polyed" "is_polyed" (defArgs st_is_polyed) (defBody st_is_polyed) (defScope st_is_polyed) .none kV7 dc7 pm7 an7 cd7 ct7), sl7⟩) (c7 : PySem.W.codeIn K cd7 "is_polyed" = true) (k7 : PySem.W.keepIn K (.ref f7) = true)
    {f8 : Addr} {od8 an8 : Option Addr} {sl8 : Array (Option Value)} {oc8 kV8 dc8 pm8 cd8 ct8 : Value}
    (a8 : PySem.W.nsIn K mainGlobals "cut" = some (some (.ref f8))) (l8 : K.lookup f8 = some ⟨oc8, od8, .func (PySem.W.fnOf "cut" "cut" (defArgs st_cut) (defBody st_cut) (defScope st_cut) .none kV8 dc8 pm8 an8 cd8 ct8), sl8⟩) (c8 : PySem.W.codeIn K cd8 "cut" = true) (k8 : PySem.W.keepIn K (.ref f8) = true)
    {f9 : Addr} {od9 an9 : Option Addr} {sl9 : Array (Option Value)} {oc9 kV9 dc9 pm9 cd9 ct9 : Value}
    (a9 : PySem.W.nsIn K mainGlobals "exchanged_by" = some (some (.ref f9))) (l9 : K.lookup f9 = some ⟨oc9, od9, .func (PySem.W.fnOf "exchanged_by" "exchanged_by" (defArgs st_exchanged_by) (defBody st_exchanged_by) (defScope st_exchanged_by) .none kV9 dc9 pm9 an9 cd9 ct9), sl9⟩) (c9 : PySem.W.codeIn K cd9 "exchanged_by" = true) (k9 : PySem.W.keepIn K (.ref f9) = true)
    {f10 : Addr} {od10 an10 : Option Addr} {sl10 : Array (Option Value)} {oc10 kV10 dc10 pm10 cd10 ct10 : Value}
    (a10 : PySem.W.nsIn K mainGlobals "is_letter" = some (some (.ref f10))) (l10 : K.lookup f10 = some ⟨oc10, od10, .func (PySem.W.fnOf "is_letter" "is_letter" (defArgs st_is_letter) (defBody st_is_letter) (defScope st_is_letter) .none kV10 dc10 pm10 an10 cd10 ct10), sl10⟩) (c10 : PySem.W.codeIn K cd10 "is_letter" = true) (k10 : PySem.W.keepIn K (.ref f10) = true)
    {f11 : Addr} {od11 an11 : Option Addr} {sl11 : Array (Option Value)} {oc11 kV11 dc11 pm11 cd11 ct11 : Value}
    (a11 : PySem.W.nsIn K mainGlobals "is_low_poly" = some (some (.ref f11))) (l11 : K.lookup f11 = some ⟨oc11, od11, .func (PySem.W.fnOf "is_low_poly" "is_low_poly" (defArgs st_is_low_poly) (defBody st_is_low_poly) (defScope st_is_low_poly) .none kV11 dc11 pm11 an11 cd11 ct11), sl11⟩) (c11 : PySem.W.codeIn K cd11 "is_low_poly" = true) (k11 : PySem.W.keepIn K (.ref f11) = true)
    {f12 : Addr} {od12 an12 : Option Addr} {sl12 : Array (Option Value)} {oc12 kV12 dc12 pm12 cd12 ct12 : Value}
    (a12 : PySem.W.nsIn K mainGlobals "is_sayinged" = some (some (.ref f12))) (l12 : K.lookup f12 = some ⟨oc12, od12, .func (PySem.W.fnOf "is_sayinged" "is_sayinged" (defArgs st_is_sayinged) (defBody st_is_sayinged) (defScope st_is_sayinged) .none kV12 dc12 pm12 an12 cd12 ct12), sl12⟩) (c12 : PySem.W.codeIn K cd12 "is_sayinged" = true) (k12 : PySem.W.keepIn K (.ref f12) = true)
    {f13 : Addr} {od13 an13 : Option Addr} {sl13 : Array (Option Value)} {oc13 kV13 dc13 pm13 cd13 ct13 : Value}
    (a13 : PySem.W.nsIn K mainGlobals "parts_of" = some (some (.ref f13))) (l13 : K.lookup f13 = some ⟨oc13, od13, .func (PySem.W.fnOf "parts_of" "parts_of" (defArgs st_parts_of) (defBody st_parts_of) (defScope st_parts_of) .none kV13 dc13 pm13 an13 cd13 ct13), sl13⟩) (c13 : PySem.W.codeIn K cd13 "parts_of" = true) (k13 : PySem.W.keepIn K (.ref f13) = true)
    {f14 : Addr} {od14 an14 : Option Addr} {sl14 : Array (Option Value)} {oc14 kV14 dc14 pm14 cd14 ct14 : Value}
    (a14 : PySem.W.nsIn K mainGlobals "with_parts" = some (some (.ref f14))) (l14 : K.lookup f14 = some ⟨oc14, od14, .func (PySem.W.fnOf "with_parts" "with_parts" (defArgs st_with_parts) (defBody st_with_parts) (defScope st_with_parts) .none kV14 dc14 pm14 an14 cd14 ct14), sl14⟩) (c14 : PySem.W.codeIn K cd14 "with_parts" = true) (k14 : PySem.W.keepIn K (.ref f14) = true)
    {f15 : Addr} {od15 an15 : Option Addr} {sl15 : Array (Option Value)} {oc15 kV15 dc15 pm15 cd15 ct15 : Value}
    (a15 : PySem.W.nsIn K mainGlobals "depth_by" = some (some (.ref f15))) (l15 : K.lookup f15 = some ⟨oc15, od15, .func (PySem.W.fnOf "depth_by" "depth_by" (defArgs st_depth_by) (defBody st_depth_by) (defScope st_depth_by) .none kV15 dc15 pm15 an15 cd15 ct15), sl15⟩) (c15 : PySem.W.codeIn K cd15 "depth_by" = true) (k15 : PySem.W.keepIn K (.ref f15) = true)
    {f16 : Addr} {od16 an16 : Option Addr} {sl16 : Array (Option Value)} {oc16 kV16 dc16 pm16 cd16 ct16 : Value}
    (a16 : PySem.W.nsIn K mainGlobals "polys_by" = some (some (.ref f16))) (l16 : K.lookup f16 = some ⟨oc16, od16, .func (PySem.W.fnOf "polys_by" "polys_by" (defArgs st_polys_by) (defBody st_polys_by) (defScope st_polys_by) .none kV16 dc16 pm16 an16 cd16 ct16), sl16⟩) (c16 : PySem.W.codeIn K cd16 "polys_by" = true) (k16 : PySem.W.keepIn K (.ref f16) = true)
    {f17 : Addr} {od17 an17 : Option Addr} {sl17 : Array (Option Value)} {oc17 kV17 dc17 pm17 cd17 ct17 : Value}
    (a17 : PySem.W.nsIn K mainGlobals "other_letter" = some (some (.ref f17))) (l17 : K.lookup f17 = some ⟨oc17, od17, .func (PySem.W.fnOf "other_letter" "other_letter" (defArgs st_other_letter) (defBody st_other_letter) (defScope st_other_letter) .none kV17 dc17 pm17 an17 cd17 ct17), sl17⟩) (c17 : PySem.W.codeIn K cd17 "other_letter" = true) (k17 : PySem.W.keepIn K (.ref f17) = true)
    {f18 : Addr} {od18 an18 : Option Addr} {sl18 : Array (Option Value)} {oc18 kV18 dc18 pm18 cd18 ct18 : Value}
    (a18 : PySem.W.nsIn K mainGlobals "exchanged_saying" = some (some (.ref f18))) (l18 : K.lookup f18 = some ⟨oc18, od18, .func (PySem.W.fnOf "exchanged_saying" "exchanged_saying" (defArgs st_exchanged_saying) (defBody st_exchanged_saying) (defScope st_exchanged_saying) .none kV18 dc18 pm18 an18 cd18 ct18), sl18⟩) (c18 : PySem.W.codeIn K cd18 "exchanged_saying" = true) (k18 : PySem.W.keepIn K (.ref f18) = true)
    {f19 : Addr} {od19 an19 : Option Addr} {sl19 : Array (Option Value)} {oc19 kV19 dc19 pm19 cd19 ct19 : Value}
    (a19 : PySem.W.nsIn K mainGlobals "row_put" = some (some (.ref f19))) (l19 : K.lookup f19 = some ⟨oc19, od19, .func (PySem.W.fnOf "row_put" "row_put" (defArgs st_row_put) (defBody st_row_put) (defScope st_row_put) .none kV19 dc19 pm19 an19 cd19 ct19), sl19⟩) (c19 : PySem.W.codeIn K cd19 "row_put" = true) (k19 : PySem.W.keepIn K (.ref f19) = true)
    {f20 : Addr} {od20 an20 : Option Addr} {sl20 : Array (Option Value)} {oc20 kV20 dc20 pm20 cd20 ct20 : Value}
    (a20 : PySem.W.nsIn K mainGlobals "letter_poly" = some (some (.ref f20))) (l20 : K.lookup f20 = some ⟨oc20, od20, .func (PySem.W.fnOf "letter_poly" "letter_poly" (defArgs st_letter_poly) (defBody st_letter_poly) (defScope st_letter_poly) .none kV20 dc20 pm20 an20 cd20 ct20), sl20⟩) (c20 : PySem.W.codeIn K cd20 "letter_poly" = true) (k20 : PySem.W.keepIn K (.ref f20) = true)
    {f21 : Addr} {od21 an21 : Option Addr} {sl21 : Array (Option Value)} {oc21 kV21 dc21 pm21 cd21 ct21 : Value}
    (a21 : PySem.W.nsIn K mainGlobals "poly_put" = some (some (.ref f21))) (l21 : K.lookup f21 = some ⟨oc21, od21, .func (PySem.W.fnOf "poly_put" "poly_put" (defArgs st_poly_put) (defBody st_poly_put) (defScope st_poly_put) .none kV21 dc21 pm21 an21 cd21 ct21), sl21⟩) (c21 : PySem.W.codeIn K cd21 "poly_put" = true) (k21 : PySem.W.keepIn K (.ref f21) = true)
    {f22 : Addr} {od22 an22 : Option Addr} {sl22 : Array (Option Value)} {oc22 kV22 dc22 pm22 cd22 ct22 : Value}
    (a22 : PySem.W.nsIn K mainGlobals "put_by" = some (some (.ref f22))) (l22 : K.lookup f22 = some ⟨oc22, od22, .func (PySem.W.fnOf "put_by" "put_by" (defArgs st_put_by) (defBody st_put_by) (defScope st_put_by) .none kV22 dc22 pm22 an22 cd22 ct22), sl22⟩) (c22 : PySem.W.codeIn K cd22 "put_by" = true) (k22 : PySem.W.keepIn K (.ref f22) = true)
    {f23 : Addr} {od23 an23 : Option Addr} {sl23 : Array (Option Value)} {oc23 kV23 dc23 pm23 cd23 ct23 : Value}
    (a23 : PySem.W.nsIn K mainGlobals "opposite_relation" = some (some (.ref f23))) (l23 : K.lookup f23 = some ⟨oc23, od23, .func (PySem.W.fnOf "opposite_relation" "opposite_relation" (defArgs st_opposite_relation) (defBody st_opposite_relation) (defScope st_opposite_relation) .none kV23 dc23 pm23 an23 cd23 ct23), sl23⟩) (c23 : PySem.W.codeIn K cd23 "opposite_relation" = true) (k23 : PySem.W.keepIn K (.ref f23) = true)
    {f24 : Addr} {od24 an24 : Option Addr} {sl24 : Array (Option Value)} {oc24 kV24 dc24 pm24 cd24 ct24 : Value}
    (a24 : PySem.W.nsIn K mainGlobals "pushed_by" = some (some (.ref f24))) (l24 : K.lookup f24 = some ⟨oc24, od24, .func (PySem.W.fnOf "pushed_by" "pushed_by" (defArgs st_pushed_by) (defBody st_pushed_by) (defScope st_pushed_by) .none kV24 dc24 pm24 an24 cd24 ct24), sl24⟩) (c24 : PySem.W.codeIn K cd24 "pushed_by" = true) (k24 : PySem.W.keepIn K (.ref f24) = true)
    {f25 : Addr} {od25 an25 : Option Addr} {sl25 : Array (Option Value)} {oc25 kV25 dc25 pm25 cd25 ct25 : Value}
    (a25 : PySem.W.nsIn K mainGlobals "check_many" = some (some (.ref f25))) (l25 : K.lookup f25 = some ⟨oc25, od25, .func (PySem.W.fnOf "check_many" "check_many" (defArgs st_check_many) (defBody st_check_many) (defScope st_check_many) .none kV25 dc25 pm25 an25 cd25 ct25), sl25⟩) (c25 : PySem.W.codeIn K cd25 "check_many" = true) (k25 : PySem.W.keepIn K (.ref f25) = true)
    {f26 : Addr} {od26 an26 : Option Addr} {sl26 : Array (Option Value)} {oc26 kV26 dc26 pm26 cd26 ct26 : Value}
    (a26 : PySem.W.nsIn K mainGlobals "check_saying" = some (some (.ref f26))) (l26 : K.lookup f26 = some ⟨oc26, od26, .func (PySem.W.fnOf "check_saying" "check_saying" (defArgs st_check_saying) (defBody st_check_saying) (defScope st_check_saying) .none kV26 dc26 pm26 an26 cd26 ct26), sl26⟩) (c26 : PySem.W.codeIn K cd26 "check_saying" = true) (k26 : PySem.W.keepIn K (.ref f26) = true)
    {f27 : Addr} {od27 an27 : Option Addr} {sl27 : Array (Option Value)} {oc27 kV27 dc27 pm27 cd27 ct27 : Value}
    (a27 : PySem.W.nsIn K mainGlobals "check_letter" = some (some (.ref f27))) (l27 : K.lookup f27 = some ⟨oc27, od27, .func (PySem.W.fnOf "check_letter" "check_letter" (defArgs st_check_letter) (defBody st_check_letter) (defScope st_check_letter) .none kV27 dc27 pm27 an27 cd27 ct27), sl27⟩) (c27 : PySem.W.codeIn K cd27 "check_letter" = true) (k27 : PySem.W.keepIn K (.ref f27) = true)
    {f28 : Addr} {od28 an28 : Option Addr} {sl28 : Array (Option Value)} {oc28 kV28 dc28 pm28 cd28 ct28 : Value}
    (a28 : PySem.W.nsIn K mainGlobals "depth_of" = some (some (.ref f28))) (l28 : K.lookup f28 = some ⟨oc28, od28, .func (PySem.W.fnOf "depth_of" "depth_of" (defArgs st_depth_of) (defBody st_depth_of) (defScope st_depth_of) .none kV28 dc28 pm28 an28 cd28 ct28), sl28⟩) (c28 : PySem.W.codeIn K cd28 "depth_of" = true) (k28 : PySem.W.keepIn K (.ref f28) = true)
    {f29 : Addr} {od29 an29 : Option Addr} {sl29 : Array (Option Value)} {oc29 kV29 dc29 pm29 cd29 ct29 : Value}
    (a29 : PySem.W.nsIn K mainGlobals "exchanged" = some (some (.ref f29))) (l29 : K.lookup f29 = some ⟨oc29, od29, .func (PySem.W.fnOf "exchanged" "exchanged" (defArgs st_exchanged) (defBody st_exchanged) (defScope st_exchanged) .none kV29 dc29 pm29 an29 cd29 ct29), sl29⟩) (c29 : PySem.W.codeIn K cd29 "exchanged" = true) (k29 : PySem.W.keepIn K (.ref f29) = true)
    {f30 : Addr} {od30 an30 : Option Addr} {sl30 : Array (Option Value)} {oc30 kV30 dc30 pm30 cd30 ct30 : Value}
    (a30 : PySem.W.nsIn K mainGlobals "put_for" = some (some (.ref f30))) (l30 : K.lookup f30 = some ⟨oc30, od30, .func (PySem.W.fnOf "put_for" "put_for" (defArgs st_put_for) (defBody st_put_for) (defScope st_put_for) .none kV30 dc30 pm30 an30 cd30 ct30), sl30⟩) (c30 : PySem.W.codeIn K cd30 "put_for" = true) (k30 : PySem.W.keepIn K (.ref f30) = true)
    {f31 : Addr} {od31 an31 : Option Addr} {sl31 : Array (Option Value)} {oc31 kV31 dc31 pm31 cd31 ct31 : Value}
    (a31 : PySem.W.nsIn K mainGlobals "pushed" = some (some (.ref f31))) (l31 : K.lookup f31 = some ⟨oc31, od31, .func (PySem.W.fnOf "pushed" "pushed" (defArgs st_pushed) (defBody st_pushed) (defScope st_pushed) .none kV31 dc31 pm31 an31 cd31 ct31), sl31⟩) (c31 : PySem.W.codeIn K cd31 "pushed" = true) (k31 : PySem.W.keepIn K (.ref f31) = true)
    {f32 : Addr} {od32 an32 : Option Addr} {sl32 : Array (Option Value)} {oc32 kV32 dc32 pm32 cd32 ct32 : Value}
    (a32 : PySem.W.nsIn K mainGlobals "_law_well" = some (some (.ref f32))) (l32 : K.lookup f32 = some ⟨oc32, od32, .func (PySem.W.fnOf "_law_well" "_law_well" (defArgs st_law_well) (defBody st_law_well) (defScope st_law_well) .none kV32 dc32 pm32 an32 cd32 ct32), sl32⟩) (c32 : PySem.W.codeIn K cd32 "_law_well" = true) (k32 : PySem.W.keepIn K (.ref f32) = true)
    {f33 : Addr} {od33 an33 : Option Addr} {sl33 : Array (Option Value)} {oc33 kV33 dc33 pm33 cd33 ct33 : Value}
    (a33 : PySem.W.nsIn K mainGlobals "_law_draw" = some (some (.ref f33))) (l33 : K.lookup f33 = some ⟨oc33, od33, .func (PySem.W.fnOf "_law_draw" "_law_draw" (defArgs st_law_draw) (defBody st_law_draw) (defScope st_law_draw) .none kV33 dc33 pm33 an33 cd33 ct33), sl33⟩) (c33 : PySem.W.codeIn K cd33 "_law_draw" = true) (k33 : PySem.W.keepIn K (.ref f33) = true)
    {f34 : Addr} {od34 an34 : Option Addr} {sl34 : Array (Option Value)} {oc34 kV34 dc34 pm34 cd34 ct34 : Value}
    (a34 : PySem.W.nsIn K mainGlobals "_law_pick" = some (some (.ref f34))) (l34 : K.lookup f34 = some ⟨oc34, od34, .func (PySem.W.fnOf "_law_pick" "_law_pick" (defArgs st_law_pick) (defBody st_law_pick) (defScope st_law_pick) .none kV34 dc34 pm34 an34 cd34 ct34), sl34⟩) (c34 : PySem.W.codeIn K cd34 "_law_pick" = true) (k34 : PySem.W.keepIn K (.ref f34) = true)
    {f35 : Addr} {od35 an35 : Option Addr} {sl35 : Array (Option Value)} {oc35 kV35 dc35 pm35 cd35 ct35 : Value}
    (a35 : PySem.W.nsIn K mainGlobals "_law_share" = some (some (.ref f35))) (l35 : K.lookup f35 = some ⟨oc35, od35, .func (PySem.W.fnOf "_law_share" "_law_share" (defArgs st_law_share) (defBody st_law_share) (defScope st_law_share) .none kV35 dc35 pm35 an35 cd35 ct35), sl35⟩) (c35 : PySem.W.codeIn K cd35 "_law_share" = true) (k35 : PySem.W.keepIn K (.ref f35) = true)
    {f36 : Addr} {od36 an36 : Option Addr} {sl36 : Array (Option Value)} {oc36 kV36 dc36 pm36 cd36 ct36 : Value}
    (a36 : PySem.W.nsIn K mainGlobals "_law_lean" = some (some (.ref f36))) (l36 : K.lookup f36 = some ⟨oc36, od36, .func (PySem.W.fnOf "_law_lean" "_law_lean" (defArgs st_law_lean) (defBody st_law_lean) (defScope st_law_lean) .none kV36 dc36 pm36 an36 cd36 ct36), sl36⟩) (c36 : PySem.W.codeIn K cd36 "_law_lean" = true) (k36 : PySem.W.keepIn K (.ref f36) = true)
    {f37 : Addr} {od37 an37 : Option Addr} {sl37 : Array (Option Value)} {oc37 kV37 dc37 pm37 cd37 ct37 : Value}
    (a37 : PySem.W.nsIn K mainGlobals "_law_row" = some (some (.ref f37))) (l37 : K.lookup f37 = some ⟨oc37, od37, .func (PySem.W.fnOf "_law_row" "_law_row" (defArgs st_law_row) (defBody st_law_row) (defScope st_law_row) .none kV37 dc37 pm37 an37 cd37 ct37), sl37⟩) (c37 : PySem.W.codeIn K cd37 "_law_row" = true) (k37 : PySem.W.keepIn K (.ref f37) = true)
    {f38 : Addr} {od38 an38 : Option Addr} {sl38 : Array (Option Value)} {oc38 kV38 dc38 pm38 cd38 ct38 : Value}
    (a38 : PySem.W.nsIn K mainGlobals "_law_number" = some (some (.ref f38))) (l38 : K.lookup f38 = some ⟨oc38, od38, .func (PySem.W.fnOf "_law_number" "_law_number" (defArgs st_law_number) (defBody st_law_number) (defScope st_law_number) .none kV38 dc38 pm38 an38 cd38 ct38), sl38⟩) (c38 : PySem.W.codeIn K cd38 "_law_number" = true) (k38 : PySem.W.keepIn K (.ref f38) = true)
    {f39 : Addr} {od39 an39 : Option Addr} {sl39 : Array (Option Value)} {oc39 kV39 dc39 pm39 cd39 ct39 : Value}
    (a39 : PySem.W.nsIn K mainGlobals "_law_poly" = some (some (.ref f39))) (l39 : K.lookup f39 = some ⟨oc39, od39, .func (PySem.W.fnOf "_law_poly" "_law_poly" (defArgs st_law_poly) (defBody st_law_poly) (defScope st_law_poly) .none kV39 dc39 pm39 an39 cd39 ct39), sl39⟩) (c39 : PySem.W.codeIn K cd39 "_law_poly" = true) (k39 : PySem.W.keepIn K (.ref f39) = true)
    {f40 : Addr} {od40 an40 : Option Addr} {sl40 : Array (Option Value)} {oc40 kV40 dc40 pm40 cd40 ct40 : Value}
    (a40 : PySem.W.nsIn K mainGlobals "_law_leaf" = some (some (.ref f40))) (l40 : K.lookup f40 = some ⟨oc40, od40, .func (PySem.W.fnOf "_law_leaf" "_law_leaf" (defArgs st_law_leaf) (defBody st_law_leaf) (defScope st_law_leaf) .none kV40 dc40 pm40 an40 cd40 ct40), sl40⟩) (c40 : PySem.W.codeIn K cd40 "_law_leaf" = true) (k40 : PySem.W.keepIn K (.ref f40) = true)
    {f41 : Addr} {od41 an41 : Option Addr} {sl41 : Array (Option Value)} {oc41 kV41 dc41 pm41 cd41 ct41 : Value}
    (a41 : PySem.W.nsIn K mainGlobals "_law_made" = some (some (.ref f41))) (l41 : K.lookup f41 = some ⟨oc41, od41, .func (PySem.W.fnOf "_law_made" "_law_made" (defArgs st_law_made) (defBody st_law_made) (defScope st_law_made) .none kV41 dc41 pm41 an41 cd41 ct41), sl41⟩) (c41 : PySem.W.codeIn K cd41 "_law_made" = true) (k41 : PySem.W.keepIn K (.ref f41) = true)
    {f42 : Addr} {od42 an42 : Option Addr} {sl42 : Array (Option Value)} {oc42 kV42 dc42 pm42 cd42 ct42 : Value}
    (a42 : PySem.W.nsIn K mainGlobals "_law_turned" = some (some (.ref f42))) (l42 : K.lookup f42 = some ⟨oc42, od42, .func (PySem.W.fnOf "_law_turned" "_law_turned" (defArgs st_law_turned) (defBody st_law_turned) (defScope st_law_turned) .none kV42 dc42 pm42 an42 cd42 ct42), sl42⟩) (c42 : PySem.W.codeIn K cd42 "_law_turned" = true) (k42 : PySem.W.keepIn K (.ref f42) = true)
    {f43 : Addr} {od43 an43 : Option Addr} {sl43 : Array (Option Value)} {oc43 kV43 dc43 pm43 cd43 ct43 : Value}
    (a43 : PySem.W.nsIn K mainGlobals "_law_swapped" = some (some (.ref f43))) (l43 : K.lookup f43 = some ⟨oc43, od43, .func (PySem.W.fnOf "_law_swapped" "_law_swapped" (defArgs st_law_swapped) (defBody st_law_swapped) (defScope st_law_swapped) .none kV43 dc43 pm43 an43 cd43 ct43), sl43⟩) (c43 : PySem.W.codeIn K cd43 "_law_swapped" = true) (k43 : PySem.W.keepIn K (.ref f43) = true)
    {f44 : Addr} {od44 an44 : Option Addr} {sl44 : Array (Option Value)} {oc44 kV44 dc44 pm44 cd44 ct44 : Value}
    (a44 : PySem.W.nsIn K mainGlobals "_law_scaled" = some (some (.ref f44))) (l44 : K.lookup f44 = some ⟨oc44, od44, .func (PySem.W.fnOf "_law_scaled" "_law_scaled" (defArgs st_law_scaled) (defBody st_law_scaled) (defScope st_law_scaled) .none kV44 dc44 pm44 an44 cd44 ct44), sl44⟩) (c44 : PySem.W.codeIn K cd44 "_law_scaled" = true) (k44 : PySem.W.keepIn K (.ref f44) = true)
    {f45 : Addr} {od45 an45 : Option Addr} {sl45 : Array (Option Value)} {oc45 kV45 dc45 pm45 cd45 ct45 : Value}
    (a45 : PySem.W.nsIn K mainGlobals "_law_put" = some (some (.ref f45))) (l45 : K.lookup f45 = some ⟨oc45, od45, .func (PySem.W.fnOf "_law_put" "_law_put" (defArgs st_law_put) (defBody st_law_put) (defScope st_law_put) .none kV45 dc45 pm45 an45 cd45 ct45), sl45⟩) (c45 : PySem.W.codeIn K cd45 "_law_put" = true) (k45 : PySem.W.keepIn K (.ref f45) = true)
    {f46 : Addr} {od46 an46 : Option Addr} {sl46 : Array (Option Value)} {oc46 kV46 dc46 pm46 cd46 ct46 : Value}
    (a46 : PySem.W.nsIn K mainGlobals "_law_filled" = some (some (.ref f46))) (l46 : K.lookup f46 = some ⟨oc46, od46, .func (PySem.W.fnOf "_law_filled" "_law_filled" (defArgs st_law_filled) (defBody st_law_filled) (defScope st_law_filled) .none kV46 dc46 pm46 an46 cd46 ct46), sl46⟩) (c46 : PySem.W.codeIn K cd46 "_law_filled" = true) (k46 : PySem.W.keepIn K (.ref f46) = true)
    {f47 : Addr} {od47 an47 : Option Addr} {sl47 : Array (Option Value)} {oc47 kV47 dc47 pm47 cd47 ct47 : Value}
    (a47 : PySem.W.nsIn K mainGlobals "_law_led" = some (some (.ref f47))) (l47 : K.lookup f47 = some ⟨oc47, od47, .func (PySem.W.fnOf "_law_led" "_law_led" (defArgs st_law_led) (defBody st_law_led) (defScope st_law_led) .none kV47 dc47 pm47 an47 cd47 ct47), sl47⟩) (c47 : PySem.W.codeIn K cd47 "_law_led" = true) (k47 : PySem.W.keepIn K (.ref f47) = true)
    {f48 : Addr} {od48 an48 : Option Addr} {sl48 : Array (Option Value)} {oc48 kV48 dc48 pm48 cd48 ct48 : Value}
    (a48 : PySem.W.nsIn K mainGlobals "_law_right" = some (some (.ref f48))) (l48 : K.lookup f48 = some ⟨oc48, od48, .func (PySem.W.fnOf "_law_right" "_law_right" (defArgs st_law_right) (defBody st_law_right) (defScope st_law_right) .none kV48 dc48 pm48 an48 cd48 ct48), sl48⟩) (c48 : PySem.W.codeIn K cd48 "_law_right" = true) (k48 : PySem.W.keepIn K (.ref f48) = true)
    {f49 : Addr} {od49 an49 : Option Addr} {sl49 : Array (Option Value)} {oc49 kV49 dc49 pm49 cd49 ct49 : Value}
    (a49 : PySem.W.nsIn K mainGlobals "law" = some (some (.ref f49))) (l49 : K.lookup f49 = some ⟨oc49, od49, .func (PySem.W.fnOf "law" "law" (defArgs st_law) (defBody st_law) (defScope st_law) .none kV49 dc49 pm49 an49 cd49 ct49), sl49⟩) (c49 : PySem.W.codeIn K cd49 "law" = true) (k49 : PySem.W.keepIn K (.ref f49) = true)
    (z_abs : PySem.W.nsIn K mainGlobals "abs" = some none)
    (z_all : PySem.W.nsIn K mainGlobals "all" = some none)
    (z_bool : PySem.W.nsIn K mainGlobals "bool" = some none)
    (z_divmod : PySem.W.nsIn K mainGlobals "divmod" = some none)
    (z_enumerate : PySem.W.nsIn K mainGlobals "enumerate" = some none)
    (z_int : PySem.W.nsIn K mainGlobals "int" = some none)
    (z_isinstance : PySem.W.nsIn K mainGlobals "isinstance" = some none)
    (z_len : PySem.W.nsIn K mainGlobals "len" = some none)
    (z_list : PySem.W.nsIn K mainGlobals "list" = some none)
    (z_max : PySem.W.nsIn K mainGlobals "max" = some none)
    (z_min : PySem.W.nsIn K mainGlobals "min" = some none)
    (z_range : PySem.W.nsIn K mainGlobals "range" = some none)
    (z_repr : PySem.W.nsIn K mainGlobals "repr" = some none)
    (z_str : PySem.W.nsIn K mainGlobals "str" = some none)
    (z_sum : PySem.W.nsIn K mainGlobals "sum" = some none)
    (z_tuple : PySem.W.nsIn K mainGlobals "tuple" = some none)
    (m_gcd : PySem.W.nsIn K mainGlobals "gcd" = some (some (.builtin "math.gcd")))
    {tLETTERS_1 : Tok} {tLETTERS_2 : Tok} {aLETTERS_0 : Addr} {daLETTERS_0 : Option Addr} {naLETTERS_0 : Nat} {saLETTERS_0 : Array (Option Value)}
    (g_LETTERS : PySem.W.nsIn K mainGlobals "LETTERS" = some (some (.ref aLETTERS_0)))
    (laLETTERS_0 : K.lookup aLETTERS_0 = some ⟨.type "tuple", daLETTERS_0, .seq #[(.str "x" tLETTERS_1), (.str "y" tLETTERS_2)] naLETTERS_0, saLETTERS_0⟩)
    {tMOST_DEEP_0 : Tok}
    (g_MOST_DEEP : PySem.W.nsIn K mainGlobals "MOST_DEEP" = some (some (.int (10) tMOST_DEEP_0)))
    {tMOST_DEGREE_0 : Tok}
    (g_MOST_DEGREE : PySem.W.nsIn K mainGlobals "MOST_DEGREE" = some (some (.int (4) tMOST_DEGREE_0)))
    {tMOST_POLYS_0 : Tok}
    (g_MOST_POLYS : PySem.W.nsIn K mainGlobals "MOST_POLYS" = some (some (.int (8) tMOST_POLYS_0)))
    {tRELATIONS_1 : Tok} {tRELATIONS_2 : Tok} {tRELATIONS_3 : Tok} {tRELATIONS_4 : Tok} {tRELATIONS_5 : Tok} {tRELATIONS_6 : Tok} {aRELATIONS_0 : Addr} {daRELATIONS_0 : Option Addr} {naRELATIONS_0 : Nat} {saRELATIONS_0 : Array (Option Value)}
    (g_RELATIONS : PySem.W.nsIn K mainGlobals "RELATIONS" = some (some (.ref aRELATIONS_0)))
    (laRELATIONS_0 : K.lookup aRELATIONS_0 = some ⟨.type "tuple", daRELATIONS_0, .seq #[(.str "below" tRELATIONS_1), (.str "at" tRELATIONS_2), (.str "above" tRELATIONS_3), (.str "not below" tRELATIONS_4), (.str "not at" tRELATIONS_5), (.str "not above" tRELATIONS_6)] naRELATIONS_0, saRELATIONS_0⟩)
    {aT_OPPOSITES : Addr} (gT_OPPOSITES : PySem.W.nsIn K mainGlobals "OPPOSITES" = some (some (.ref aT_OPPOSITES))) {esT_OPPOSITES : Array DictEntry} {nT_OPPOSITES : Nat} (dT_OPPOSITES : K.lookup aT_OPPOSITES = some ⟨.type "dict", none, .dict esT_OPPOSITES nT_OPPOSITES, #[]⟩) (kT_OPPOSITES : esT_OPPOSITES.toList.map He.keyOf = He.keysIn w.params ["both", "either", "all", "some", "true", "false"]) (sT_OPPOSITES : (aT_OPPOSITES == sysModules) = false)
    {tOPPOSITES0_0 : Tok} (vT_OPPOSITES0 : PySem.W.nsIn K aT_OPPOSITES "both" = some (some (.str "either" tOPPOSITES0_0)))
    {tOPPOSITES1_0 : Tok} (vT_OPPOSITES1 : PySem.W.nsIn K aT_OPPOSITES "either" = some (some (.str "both" tOPPOSITES1_0)))
    {tOPPOSITES2_0 : Tok} (vT_OPPOSITES2 : PySem.W.nsIn K aT_OPPOSITES "all" = some (some (.str "some" tOPPOSITES2_0)))
    {tOPPOSITES3_0 : Tok} (vT_OPPOSITES3 : PySem.W.nsIn K aT_OPPOSITES "some" = some (some (.str "all" tOPPOSITES3_0)))
    {tOPPOSITES4_0 : Tok} (vT_OPPOSITES4 : PySem.W.nsIn K aT_OPPOSITES "true" = some (some (.str "false" tOPPOSITES4_0)))
    {tOPPOSITES5_0 : Tok} (vT_OPPOSITES5 : PySem.W.nsIn K aT_OPPOSITES "false" = some (some (.str "true" tOPPOSITES5_0)))
    {aT_PARTS_AT : Addr} (gT_PARTS_AT : PySem.W.nsIn K mainGlobals "PARTS_AT" = some (some (.ref aT_PARTS_AT))) {esT_PARTS_AT : Array DictEntry} {nT_PARTS_AT : Nat} (dT_PARTS_AT : K.lookup aT_PARTS_AT = some ⟨.type "dict", none, .dict esT_PARTS_AT nT_PARTS_AT, #[]⟩) (kT_PARTS_AT : esT_PARTS_AT.toList.map He.keyOf = He.keysIn w.params ["not", "both", "either", "all", "some"]) (sT_PARTS_AT : (aT_PARTS_AT == sysModules) = false)
    {tPARTS_AT0_1 : Tok} {aPARTS_AT0_0 : Addr} {daPARTS_AT0_0 : Option Addr} {naPARTS_AT0_0 : Nat} {saPARTS_AT0_0 : Array (Option Value)} (vT_PARTS_AT0 : PySem.W.nsIn K aT_PARTS_AT "not" = some (some (.ref aPARTS_AT0_0)))
    (laPARTS_AT0_0 : K.lookup aPARTS_AT0_0 = some ⟨.type "tuple", daPARTS_AT0_0, .seq #[(.int (1) tPARTS_AT0_1)] naPARTS_AT0_0, saPARTS_AT0_0⟩)
    {tPARTS_AT1_1 : Tok} {tPARTS_AT1_2 : Tok} {aPARTS_AT1_0 : Addr} {daPARTS_AT1_0 : Option Addr} {naPARTS_AT1_0 : Nat} {saPARTS_AT1_0 : Array (Option Value)} (vT_PARTS_AT1 : PySem.W.nsIn K aT_PARTS_AT "both" = some (some (.ref aPARTS_AT1_0)))
    (laPARTS_AT1_0 : K.lookup aPARTS_AT1_0 = some ⟨.type "tuple", daPARTS_AT1_0, .seq #[(.int (1) tPARTS_AT1_1), (.int (2) tPARTS_AT1_2)] naPARTS_AT1_0, saPARTS_AT1_0⟩)
    {tPARTS_AT2_1 : Tok} {tPARTS_AT2_2 : Tok} {aPARTS_AT2_0 : Addr} {daPARTS_AT2_0 : Option Addr} {naPARTS_AT2_0 : Nat} {saPARTS_AT2_0 : Array (Option Value)} (vT_PARTS_AT2 : PySem.W.nsIn K aT_PARTS_AT "either" = some (some (.ref aPARTS_AT2_0)))
    (laPARTS_AT2_0 : K.lookup aPARTS_AT2_0 = some ⟨.type "tuple", daPARTS_AT2_0, .seq #[(.int (1) tPARTS_AT2_1), (.int (2) tPARTS_AT2_2)] naPARTS_AT2_0, saPARTS_AT2_0⟩)
    {tPARTS_AT3_1 : Tok} {aPARTS_AT3_0 : Addr} {daPARTS_AT3_0 : Option Addr} {naPARTS_AT3_0 : Nat} {saPARTS_AT3_0 : Array (Option Value)} (vT_PARTS_AT3 : PySem.W.nsIn K aT_PARTS_AT "all" = some (some (.ref aPARTS_AT3_0)))
    (laPARTS_AT3_0 : K.lookup aPARTS_AT3_0 = some ⟨.type "tuple", daPARTS_AT3_0, .seq #[(.int (2) tPARTS_AT3_1)] naPARTS_AT3_0, saPARTS_AT3_0⟩)
    {tPARTS_AT4_1 : Tok} {aPARTS_AT4_0 : Addr} {daPARTS_AT4_0 : Option Addr} {naPARTS_AT4_0 : Nat} {saPARTS_AT4_0 : Array (Option Value)} (vT_PARTS_AT4 : PySem.W.nsIn K aT_PARTS_AT "some" = some (some (.ref aPARTS_AT4_0)))
    (laPARTS_AT4_0 : K.lookup aPARTS_AT4_0 = some ⟨.type "tuple", daPARTS_AT4_0, .seq #[(.int (2) tPARTS_AT4_1)] naPARTS_AT4_0, saPARTS_AT4_0⟩) :
    ∃ fd : FuncData, (∀ (s : Shared) (u : Value), BindsTo s fd ⟨[u], []⟩ [("_law_script", u)]) ∧ ∀ base : Heap, K.In base → base.Ns mainGlobals mg → FnG l.prog w K mg base 32 fa fd ["_law_script"] (spG K mg 1 f_law) := by
  have L : LE w K mg := ⟨⟨_, _, PySem.W.mg_of X G a0, fun_mk (st := st_is_whole) l0 c0 k0⟩, ⟨_, _, PySem.W.mg_of X G a1, fun_mk (st := st_are_wholes) l1 c1 k1⟩, ⟨_, _, PySem.W.mg_of X G a2, fun_mk (st := st_is_ratio) l2 c2 k2⟩, ⟨_, _, PySem.W.mg_of X G a3, fun_mk (st := st_is_rowed) l3 c3 k3⟩, ⟨_, _, PySem.W.mg_of X G a4, fun_mk (st := st_trimmed) l4 c4 k4⟩, ⟨_, _, PySem.W.mg_of X G a5, fun_mk (st := st_power_of) l5 c5 k5⟩, ⟨_, _, PySem.W.mg_of X G a6, fun_mk (st := st_check_fraction) l6 c6 k6⟩, ⟨_, _, PySem.W.mg_of X G a7, fun_mk (st := st_is_polyed) l7 c7 k7⟩, ⟨_, _, PySem.W.mg_of X G a8, fun_mk (st := st_cut) l8 c8 k8⟩, ⟨_, _, PySem.W.mg_of X G a9, fun_mk (st := st_exchanged_by) l9 c9 k9⟩, ⟨_, _, PySem.W.mg_of X G a10, fun_mk (st := st_is_letter) l10 c10 k10⟩, ⟨_, _, PySem.W.mg_of X G a11, fun_mk (st := st_is_low_poly) l11 c11 k11⟩, ⟨_, _, PySem.W.mg_of X G a12, fun_mk (st := st_is_sayinged) l12 c12 k12⟩, ⟨_, _, PySem.W.mg_of X G a13, fun_mk (st := st_parts_of) l13 c13 k13⟩, ⟨_, _, PySem.W.mg_of X G a14, fun_mk (st := st_with_parts) l14 c14 k14⟩, ⟨_, _, PySem.W.mg_of X G a15, fun_mk (st := st_depth_by) l15 c15 k15⟩, ⟨_, _, PySem.W.mg_of X G a16, fun_mk (st := st_polys_by) l16 c16 k16⟩, ⟨_, _, PySem.W.mg_of X G a17, fun_mk (st := st_other_letter) l17 c17 k17⟩, ⟨_, _, PySem.W.mg_of X G a18, fun_mk (st := st_exchanged_saying) l18 c18 k18⟩, ⟨_, _, PySem.W.mg_of X G a19, fun_mk (st := st_row_put) l19 c19 k19⟩, ⟨_, _, PySem.W.mg_of X G a20, fun_mk (st := st_letter_poly) l20 c20 k20⟩, ⟨_, _, PySem.W.mg_of X G a21, fun_mk (st := st_poly_put) l21 c21 k21⟩, ⟨_, _, PySem.W.mg_of X G a22, fun_mk (st := st_put_by) l22 c22 k22⟩, ⟨_, _, PySem.W.mg_of X G a23, fun_mk (st := st_opposite_relation) l23 c23 k23⟩, ⟨_, _, PySem.W.mg_of X G a24, fun_mk (st := st_pushed_by) l24 c24 k24⟩, ⟨_, _, PySem.W.mg_of X G a25, fun_mk (st := st_check_many) l25 c25 k25⟩, ⟨_, _, PySem.W.mg_of X G a26, fun_mk (st := st_check_saying) l26 c26 k26⟩, ⟨_, _, PySem.W.mg_of X G a27, fun_mk (st := st_check_letter) l27 c27 k27⟩, ⟨_, _, PySem.W.mg_of X G a28, fun_mk (st := st_depth_of) l28 c28 k28⟩, ⟨_, _, PySem.W.mg_of X G a29, fun_mk (st := st_exchanged) l29 c29 k29⟩, ⟨_, _, PySem.W.mg_of X G a30, fun_mk (st := st_put_for) l30 c30 k30⟩, ⟨_, _, PySem.W.mg_of X G a31, fun_mk (st := st_pushed) l31 c31 k31⟩, ⟨_, _, PySem.W.mg_of X G a32, fun_mk (st := st_law_well) l32 c32 k32⟩, ⟨_, _, PySem.W.mg_of X G a33, fun_mk (st := st_law_draw) l33 c33 k33⟩, ⟨_, _, PySem.W.mg_of X G a34, fun_mk (st := st_law_pick) l34 c34 k34⟩, ⟨_, _, PySem.W.mg_of X G a35, fun_mk (st := st_law_share) l35 c35 k35⟩, ⟨_, _, PySem.W.mg_of X G a36, fun_mk (st := st_law_lean) l36 c36 k36⟩, ⟨_, _, PySem.W.mg_of X G a37, fun_mk (st := st_law_row) l37 c37 k37⟩, ⟨_, _, PySem.W.mg_of X G a38, fun_mk (st := st_law_number) l38 c38 k38⟩, ⟨_, _, PySem.W.mg_of X G a39, fun_mk (st := st_law_poly) l39 c39 k39⟩, ⟨_, _, PySem.W.mg_of X G a40, fun_mk (st := st_law_leaf) l40 c40 k40⟩, ⟨_, _, PySem.W.mg_of X G a41, fun_mk (st := st_law_made) l41 c41 k41⟩, ⟨_, _, PySem.W.mg_of X G a42, fun_mk (st := st_law_turned) l42 c42 k42⟩, ⟨_, _, PySem.W.mg_of X G a43, fun_mk (st := st_law_swapped) l43 c43 k43⟩, ⟨_, _, PySem.W.mg_of X G a44, fun_mk (st := st_law_scaled) l44 c44 k44⟩, ⟨_, _, PySem.W.mg_of X G a45, fun_mk (st := st_law_put) l45 c45 k45⟩, ⟨_, _, PySem.W.mg_of X G a46, fun_mk (st := st_law_filled) l46 c46 k46⟩, ⟨_, _, PySem.W.mg_of X G a47, fun_mk (st := st_law_led) l47 c47 k47⟩, ⟨_, _, PySem.W.mg_of X G a48, fun_mk (st := st_law_right) l48 c48 k48⟩, ⟨_, _, PySem.W.mg_of X G a49, fun_mk (st := st_law) l49 c49 k49⟩, PySem.W.mg_none_of X G z_abs, PySem.W.mg_none_of X G z_all, PySem.W.mg_none_of X G z_bool, PySem.W.mg_none_of X G z_divmod, PySem.W.mg_none_of X G z_enumerate, PySem.W.mg_none_of X G z_int, PySem.W.mg_none_of X G z_isinstance, PySem.W.mg_none_of X G z_len, PySem.W.mg_none_of X G z_list, PySem.W.mg_none_of X G z_max, PySem.W.mg_none_of X G z_min, PySem.W.mg_none_of X G z_range, PySem.W.mg_none_of X G z_repr, PySem.W.mg_none_of X G z_str, PySem.W.mg_none_of X G z_sum, PySem.W.mg_none_of X G z_tuple, PySem.W.mg_of X G m_gcd, ⟨(.ref aLETTERS_0), (.ref aLETTERS_0), PySem.W.mg_of X G g_LETTERS, rfl, fun F => (.tup (xs := [(V.str "x"), (V.str "y")]) (.inr ⟨_, _, _, laLETTERS_0, rfl, rfl, (by show 2 ≤ sizeLine; decide), (.cons ⟨_, rfl⟩ (.cons ⟨_, rfl⟩ .nil))⟩) (.cons (.str _) (.cons (.str _) .nil)))⟩, ⟨(.int (10)), (.int (10) tMOST_DEEP_0), PySem.W.mg_of X G g_MOST_DEEP, ⟨_, rfl⟩, fun F => (.int _)⟩, ⟨(.int (4)), (.int (4) tMOST_DEGREE_0), PySem.W.mg_of X G g_MOST_DEGREE, ⟨_, rfl⟩, fun F => (.int _)⟩, ⟨(.int (8)), (.int (8) tMOST_POLYS_0), PySem.W.mg_of X G g_MOST_POLYS, ⟨_, rfl⟩, fun F => (.int _)⟩, ⟨(.ref aRELATIONS_0), (.ref aRELATIONS_0), PySem.W.mg_of X G g_RELATIONS, rfl, fun F => (.tup (xs := [(V.str "below"), (V.str "at"), (V.str "above"), (V.str "not below"), (V.str "not at"), (V.str "not above")]) (.inr ⟨_, _, _, laRELATIONS_0, rfl, rfl, (by show 6 ≤ sizeLine; decide), (.cons ⟨_, rfl⟩ (.cons ⟨_, rfl⟩ (.cons ⟨_, rfl⟩ (.cons ⟨_, rfl⟩ (.cons ⟨_, rfl⟩ (.cons ⟨_, rfl⟩ .nil))))))⟩) (.cons (.str _) (.cons (.str _) (.cons (.str _) (.cons (.str _) (.cons (.str _) (.cons (.str _) .nil)))))))⟩, conD_mk2 (PySem.W.mg_of X G gT_OPPOSITES) dT_OPPOSITES kT_OPPOSITES sT_OPPOSITES (by
    intro q hq
    simp only [List.mem_cons, List.not_mem_nil, or_false] at hq
    rcases hq with rfl | rfl | rfl | rfl | rfl | rfl
    · exact ⟨(.str "either" tOPPOSITES0_0), (.str "either"), vT_OPPOSITES0, ⟨_, rfl⟩, fun F => (.str _)⟩
    · exact ⟨(.str "both" tOPPOSITES1_0), (.str "both"), vT_OPPOSITES1, ⟨_, rfl⟩, fun F => (.str _)⟩
    · exact ⟨(.str "some" tOPPOSITES2_0), (.str "some"), vT_OPPOSITES2, ⟨_, rfl⟩, fun F => (.str _)⟩
    · exact ⟨(.str "all" tOPPOSITES3_0), (.str "all"), vT_OPPOSITES3, ⟨_, rfl⟩, fun F => (.str _)⟩
    · exact ⟨(.str "false" tOPPOSITES4_0), (.str "false"), vT_OPPOSITES4, ⟨_, rfl⟩, fun F => (.str _)⟩
    · exact ⟨(.str "true" tOPPOSITES5_0), (.str "true"), vT_OPPOSITES5, ⟨_, rfl⟩, fun F => (.str _)⟩), conD_mk2 (PySem.W.mg_of X G gT_PARTS_AT) dT_PARTS_AT kT_PARTS_AT sT_PARTS_AT (by
    intro q hq
    simp only [List.mem_cons, List.not_mem_nil, or_false] at hq
    rcases hq with rfl | rfl | rfl | rfl | rfl
    · exact ⟨(.ref aPARTS_AT0_0), (.ref aPARTS_AT0_0), vT_PARTS_AT0, rfl, fun F => (.tup (xs := [(V.int (1))]) (.inr ⟨_, _, _, laPARTS_AT0_0, rfl, rfl, (by show 1 ≤ sizeLine; decide), (.cons ⟨_, rfl⟩ .nil)⟩) (.cons (.int _) .nil))⟩
    · exact ⟨(.ref aPARTS_AT1_0), (.ref aPARTS_AT1_0), vT_PARTS_AT1, rfl, fun F => (.tup (xs := [(V.int (1)), (V.int (2))]) (.inr ⟨_, _, _, laPARTS_AT1_0, rfl, rfl, (by show 2 ≤ sizeLine; decide), (.cons ⟨_, rfl⟩ (.cons ⟨_, rfl⟩ .nil))⟩) (.cons (.int _) (.cons (.int _) .nil)))⟩
    · exact ⟨(.ref aPARTS_AT2_0), (.ref aPARTS_AT2_0), vT_PARTS_AT2, rfl, fun F => (.tup (xs := [(V.int (1)), (V.int (2))]) (.inr ⟨_, _, _, laPARTS_AT2_0, rfl, rfl, (by show 2 ≤ sizeLine; decide), (.cons ⟨_, rfl⟩ (.cons ⟨_, rfl⟩ .nil))⟩) (.cons (.int _) (.cons (.int _) .nil)))⟩
    · exact ⟨(.ref aPARTS_AT3_0), (.ref aPARTS_AT3_0), vT_PARTS_AT3, rfl, fun F => (.tup (xs := [(V.int (2))]) (.inr ⟨_, _, _, laPARTS_AT3_0, rfl, rfl, (by show 1 ≤ sizeLine; decide), (.cons ⟨_, rfl⟩ .nil)⟩) (.cons (.int _) .nil))⟩
    · exact ⟨(.ref aPARTS_AT4_0), (.ref aPARTS_AT4_0), vT_PARTS_AT4, rfl, fun F => (.tup (xs := [(V.int (2))]) (.inr ⟨_, _, _, laPARTS_AT4_0, rfl, rfl, (by show 1 ≤ sizeLine; decide), (.cons ⟨_, rfl⟩ .nil)⟩) (.cons (.int _) .nil))⟩)⟩
  have e := hfa.symm.trans (PySem.W.mg_of X G a49)
  cases e
  refine ⟨PySem.W.fnOf "law" "law" (defArgs st_law) (defBody st_law) (defScope st_law) .none kV49 dc49 pm49 an49 cd49 ct49, fun s v => .of_eq rfl, fun base _ _ => ?_⟩
  obtain ⟨f, fd, h⟩ := ok_law (P := l.prog) (w := w) (base := base) L
  have e1 := h.m.symm.trans hfa
  cases e1
  obtain ⟨_, _, _, _, _, _, _, _, _, e2, lk, _⟩ := h.F.ex
  rw [l49] at lk
  have e3 := Option.some.inj lk
  have e4 : PySem.Data.func _ = PySem.Data.func _ := congrArg PySem.Obj.data e3
  have e5 := PySem.Data.func.inj e4
  rw [e5]
  first | exact h.G | (rw [← e2]; exact h.G)
end LW
/-! MR: power series over a ring (rows by their numbers), lists as such. -/
namespace LW
open Lean.Grind
structure PS (R : Type) where
  at_ : Nat → R
namespace PS
variable {R : Type}
theorem ext {f g : PS R} (h : ∀ k, f.at_ k = g.at_ k) : f = g := by
  cases f; cases g
  congr
  exact funext h
def tl (f : PS R) : PS R := ⟨fun k => f.at_ (k + 1)⟩
@[simp] theorem tl_at {f : PS R} {k : Nat} : f.tl.at_ k = f.at_ (k + 1) := rfl
variable [CommRing R]
def cv (f g : PS R) : Nat → R
  | 0 => f.at_ 0 * g.at_ 0
  | k + 1 => f.at_ 0 * g.at_ (k + 1) + cv f.tl g k
def con (r : R) : PS R := ⟨fun k => match k with | 0 => r | _ + 1 => 0⟩
instance : Add (PS R) := ⟨fun f g => ⟨fun k => f.at_ k + g.at_ k⟩⟩
instance : Mul (PS R) := ⟨fun f g => ⟨cv f g⟩⟩
instance : Neg (PS R) := ⟨fun f => ⟨fun k => - f.at_ k⟩⟩
instance : Sub (PS R) := ⟨fun f g => ⟨fun k => f.at_ k - g.at_ k⟩⟩
@[simp] theorem add_at {f g : PS R} {k : Nat} : (f + g).at_ k = f.at_ k + g.at_ k := rfl
@[simp] theorem neg_at {f : PS R} {k : Nat} : (-f).at_ k = - f.at_ k := rfl
@[simp] theorem sub_at {f g : PS R} {k : Nat} : (f - g).at_ k = f.at_ k - g.at_ k := rfl
@[simp] theorem mul_0 {f g : PS R} : (f * g).at_ 0 = f.at_ 0 * g.at_ 0 := rfl
theorem mul_s {f g : PS R} {k : Nat} : (f * g).at_ (k + 1) = f.at_ 0 * g.at_ (k + 1) + (f.tl * g).at_ k := rfl
theorem mul_at {f g : PS R} {k : Nat} : (f * g).at_ k = cv f g k := rfl
@[simp] theorem con_0 {r : R} : (con r).at_ 0 = r := rfl
@[simp] theorem con_s {r : R} {k : Nat} : (con r).at_ (k + 1) = 0 := rfl
@[simp] theorem tl_con {r : R} : (con r).tl = con 0 := ext fun k => by cases k <;> rfl
theorem add_mul' (f g h : PS R) (k : Nat) : ((f + g) * h).at_ k = (f * h).at_ k + (g * h).at_ k := by
  induction k generalizing f g with
  | zero => simp; grind
  | succ k ih =>
    rw [mul_s, mul_s, mul_s, show (f + g).tl = f.tl + g.tl from rfl, ih, add_at]
    grind
theorem mul_con' (f : PS R) (r : R) (k : Nat) : (f * con r).at_ k = f.at_ k * r := by
  induction k generalizing f with
  | zero => simp
  | succ k ih => rw [mul_s, ih, con_s, tl_at]; grind
theorem con_mul' (f : PS R) (r : R) (k : Nat) : (con r * f).at_ k = r * f.at_ k := by
  cases k with
  | zero => simp
  | succ k =>
    rw [mul_s, con_0, tl_con]
    have z : ∀ (k : Nat), (con 0 * f).at_ k = 0 := by
      intro k
      induction k with
      | zero => simp; grind
      | succ k ih => rw [mul_s, tl_con, ih, con_0]; grind
    rw [z]; grind
theorem mul_comm' (f g : PS R) (k : Nat) : (f * g).at_ k = (g * f).at_ k := by
  induction k using Nat.strongRecOn generalizing f g with
  | _ k ih =>
    match k with
    | 0 => simp; grind
    | 1 => rw [mul_s, mul_s]; simp; grind
    | k + 2 =>
      rw [mul_s (f := f), mul_s (f := g), ih (k + 1) (by omega) f.tl g, ih (k + 1) (by omega) g.tl f, mul_s (f := g), mul_s (f := f), ih k (by omega) g.tl f.tl]
      simp only [tl_at]
      grind
theorem smul_mul' (r : R) (f g : PS R) (k : Nat) : ((con r * f) * g).at_ k = r * (f * g).at_ k := by
  induction k generalizing f with
  | zero => simp; grind
  | succ k ih =>
    have e : (con r * f).tl = con r * f.tl := ext fun k => by rw [tl_at, con_mul', con_mul', tl_at]
    rw [mul_s, mul_s, e, ih, con_mul']
    grind
theorem mul_tl (f g : PS R) : (f * g).tl = con (f.at_ 0) * g.tl + f.tl * g := ext fun k => by
  rw [tl_at, mul_s, add_at, con_mul', tl_at]
theorem mul_assoc' (f g h : PS R) (k : Nat) : ((f * g) * h).at_ k = (f * (g * h)).at_ k := by
  induction k generalizing f with
  | zero => simp; grind
  | succ k ih =>
    rw [mul_s, mul_s, mul_tl, add_mul', ih, smul_mul', mul_s (f := g)]
    simp; grind
instance : Zero (PS R) := ⟨con 0⟩
instance : One (PS R) := ⟨con 1⟩
@[simp] theorem zero_at {k : Nat} : (con (0 : R)).at_ k = 0 := by cases k <;> rfl
def nc (n : Nat) : R := Semiring.natCast.natCast n
def ic (n : Int) : R := Ring.intCast.intCast n
def pw (f : PS R) : Nat → PS R
  | 0 => con 1
  | n + 1 => pw f n * f
instance : CommRing (PS R) where
  one_mul f := ext fun k => by
    show (con 1 * f).at_ k = _
    rw [con_mul']; grind
  mul_zero f := ext fun k => by
    show (f * con 0).at_ k = (con 0).at_ k
    rw [mul_con', zero_at]; grind
  right_distrib f g h := ext (add_mul' f g h)
  natCast := ⟨fun n => con (nc n)⟩
  ofNat := fun n => ⟨con (OfNat.ofNat n)⟩
  nsmul := ⟨fun n f => con (nc n) * f⟩
  npow := ⟨fun f n => pw f n⟩
  intCast := ⟨fun n => con (ic n)⟩
  zsmul := ⟨fun n f => con (ic n) * f⟩
  add_zero f := ext fun k => by
    show f.at_ k + (con 0).at_ k = _
    rw [zero_at]; grind
  add_comm f g := ext fun k => by show f.at_ k + g.at_ k = g.at_ k + f.at_ k; grind
  add_assoc f g h := ext fun k => by show f.at_ k + g.at_ k + h.at_ k = f.at_ k + (g.at_ k + h.at_ k); grind
  mul_assoc f g h := ext (mul_assoc' f g h)
  mul_comm f g := ext (mul_comm' f g)
  mul_one f := ext fun k => by
    show (f * con 1).at_ k = _
    rw [mul_con']; grind
  left_distrib f g h := ext fun k => by
    rw [mul_comm', add_mul', add_at, mul_comm' g, mul_comm' h]
  zero_mul f := ext fun k => by
    show (con 0 * f).at_ k = (con 0).at_ k
    rw [con_mul', zero_at]; grind
  pow_zero f := rfl
  pow_succ f n := rfl
  ofNat_succ n := ext fun k => by
    show (con (OfNat.ofNat (n + 1))).at_ k = (con (OfNat.ofNat n)).at_ k + (con 1).at_ k
    cases k with
    | zero => exact Semiring.ofNat_succ n
    | succ k => show (0 : R) = 0 + 0; grind
  ofNat_eq_natCast n := ext fun k => by
    show (con (OfNat.ofNat n)).at_ k = (con (nc n)).at_ k
    cases k with
    | zero => exact Semiring.ofNat_eq_natCast n
    | succ k => rfl
  neg_add_cancel f := ext fun k => by
    show - f.at_ k + f.at_ k = (con 0).at_ k
    rw [zero_at]; grind
  sub_eq_add_neg f g := ext fun k => by show f.at_ k - g.at_ k = f.at_ k + - g.at_ k; grind
  neg_zsmul i f := ext fun k => by
    show (con (ic (-i)) * f).at_ k = - (con (ic i) * f).at_ k
    rw [con_mul', con_mul']
    have : (ic (-i) : R) = - (ic i) := Ring.intCast_neg i
    rw [this]; grind
  zsmul_natCast_eq_nsmul n f := ext fun k => by
    show (con (ic (n : Int)) * f).at_ k = (con (nc n) * f).at_ k
    have : (ic (n : Int) : R) = nc n := Ring.intCast_natCast n
    rw [this]
  intCast_ofNat n := ext fun k => by
    show (con (ic (OfNat.ofNat n))).at_ k = (con (OfNat.ofNat n)).at_ k
    cases k with
    | zero => exact Ring.intCast_ofNat n
    | succ k => rfl
  intCast_neg i := ext fun k => by
    show (con (ic (-i))).at_ k = - (con (ic i)).at_ k
    cases k with
    | zero => exact Ring.intCast_neg i
    | succ k => show (0 : R) = - 0; grind
example (f g h : PS (PS Int)) : (f + g) * h = h * f + g * h := by grind
end PS
end LW
namespace LW
open Lean.Grind
namespace PS
variable {R : Type} [CommRing R]
def X : PS R := ⟨fun k => match k with | 1 => 1 | _ => 0⟩
@[simp] theorem X_0 {f : PS R} : (X * f).at_ 0 = 0 := by
  rw [mul_0]
  show (0 : R) * _ = 0
  grind
@[simp] theorem X_s {f : PS R} {k : Nat} : (X * f).at_ (k + 1) = f.at_ k := by
  rw [mul_s]
  have e : (X : PS R).tl = con 1 := ext fun k => by
    cases k with
    | zero => rfl
    | succ k => rfl
  rw [e, con_mul']
  show (0 : R) * _ + _ = _
  grind
@[simp] theorem zero_at' {k : Nat} : (0 : PS R).at_ k = 0 := zero_at
theorem con_add (a b : R) : con (a + b) = con a + con b := ext fun k => by
  cases k with
  | zero => rfl
  | succ k => show (0 : R) = 0 + 0; grind
theorem con_mul (a b : R) : con (a * b) = con a * con b := ext fun k => by
  rw [con_mul']
  cases k with
  | zero => rfl
  | succ k => show (0 : R) = a * 0; grind
theorem con_zero : con (0 : R) = 0 := rfl
theorem con_one : con (1 : R) = 1 := rfl
theorem con_neg (a : R) : con (-a) = - con a := ext fun k => by
  cases k with
  | zero => rfl
  | succ k => show (0 : R) = - 0; grind
theorem con_sub (a b : R) : con (a - b) = con a - con b := ext fun k => by
  cases k with
  | zero => rfl
  | succ k => show (0 : R) = 0 - 0; grind
/-- a list as a series, its items read by φ -/
def sr {A : Type} (φ : A → R) (z : A) (l : List A) : PS R := ⟨fun k => φ (l.getD k z)⟩
section
variable {A : Type} {φ : A → R} {z : A}
theorem sr_nil (hz : φ z = 0) : sr φ z [] = 0 := ext fun k => by
  rw [zero_at']
  exact hz
theorem sr_cons {x : A} {xs : List A} : sr φ z (x :: xs) = con (φ x) + X * sr φ z xs := ext fun k => by
  cases k with
  | zero => rw [add_at, X_0, con_0]; show φ x = _; grind
  | succ k => rw [add_at, X_s, con_s]; show φ (xs.getD k z) = 0 + φ (xs.getD k z); grind
theorem sr_app {xs ys : List A} (hz : φ z = 0) : sr φ z (xs ++ ys) = sr φ z xs + (X : PS R) ^ xs.length * sr φ z ys := by
  induction xs with
  | nil => rw [sr_nil hz, List.nil_append, List.length_nil]; grind
  | cons x xs ih => rw [List.cons_append, sr_cons, ih, sr_cons, List.length_cons]; grind
theorem sr_zeros (hz : φ z = 0) : ∀ n : Nat, sr φ z (List.replicate n z) = 0 := by
  intro n
  induction n with
  | zero => exact sr_nil hz
  | succ n ih => rw [List.replicate_succ, sr_cons, ih, hz, con_zero]; grind
theorem sr_map {B : Type} {ψ : B → R} {w : B} {f : B → A} {c : R} (hz : φ z = 0) (hw : ψ w = 0) (h : ∀ b, φ (f b) = c * ψ b) (l : List B) : sr φ z (l.map f) = con c * sr ψ w l := by
  induction l with
  | nil => rw [List.map_nil, sr_nil hz, sr_nil hw]; grind
  | cons x xs ih => rw [List.map_cons, sr_cons, sr_cons, ih, h, con_mul]; grind
theorem sr_set {l : List A} {k : Nat} {v : A} (h : k < l.length) : sr φ z (l.set k v) = sr φ z l + (X : PS R) ^ k * con (φ v - φ (l.getD k z)) := by
  induction l generalizing k with
  | nil => cases h
  | cons x xs ih =>
    cases k with
    | zero =>
      rw [List.set_cons_zero, sr_cons, sr_cons, con_sub]
      show _ = _ + _ * (con (φ v) - con (φ x))
      grind
    | succ k =>
      rw [List.set_cons_succ, sr_cons, sr_cons, ih (by simpa using h)]
      show _ = _ + _ * con (φ v - φ (xs.getD k z))
      grind
end
end PS
end LW
/-! MR2: rows and polynomials as lists. -/
namespace LW
open Lean.Grind
def trim : List Int → List Int
  | [] => []
  | x :: xs => match trim xs with
    | [] => if x = 0 then [] else [x]
    | y :: ys => x :: y :: ys
theorem trim_app0 : ∀ xs : List Int, trim (xs ++ [0]) = trim xs
  | [] => rfl
  | x :: xs => by
    show trim (x :: (xs ++ [0])) = _
    unfold trim
    rw [trim_app0 xs]
theorem trim_last : ∀ (xs : List Int) (y : Int), y ≠ 0 → trim (xs ++ [y]) = xs ++ [y]
  | [], y, h => by simp [trim, h]
  | x :: xs, y, h => by
    show trim (x :: (xs ++ [y])) = _
    unfold trim
    rw [trim_last xs y h]
    cases xs <;> rfl
theorem take_succ0 {α : Type} {xs : List α} {n : Nat} (h : n < xs.length) : xs.take (n + 1) = xs.take n ++ [xs[n]] := by
  rw [List.take_add_one, List.getElem?_eq_getElem h]
  rfl
theorem trim_take {xs : List Int} {n : Nat} (hn : n < xs.length) (h : xs[n] = 0) : trim (xs.take (n + 1)) = trim (xs.take n) := by
  rw [take_succ0 hn, h, trim_app0]
theorem trim_take' {xs : List Int} {n : Nat} (hn : n < xs.length) (h : xs[n] ≠ 0) : trim (xs.take (n + 1)) = xs.take (n + 1) := by
  rw [take_succ0 hn, trim_last _ _ h]
theorem trim_mem : ∀ {xs : List Int} {x : Int}, x ∈ trim xs → x ∈ xs
  | [], x, h => h
  | y :: ys, x, h => by
    unfold trim at h
    split at h
    · split at h
      · cases h
      · simp at h
        subst h
        exact List.mem_cons_self
    · rename_i z zs e
      rcases List.mem_cons.mp h with rfl | h
      · exact List.mem_cons_self
      · exact List.mem_cons_of_mem _ (trim_mem (by rw [e]; exact h))
theorem trim_len : ∀ xs : List Int, (trim xs).length ≤ xs.length
  | [] => Nat.le_refl _
  | y :: ys => by
    have ih := trim_len ys
    unfold trim
    split
    · split <;> simp
    · rename_i z zs e
      rw [e] at ih
      simp at ih ⊢
      omega
theorem trim_snoc (l : List Int) (z : Int) : trim (l ++ [z]) = if z = 0 then trim l else l ++ [z] := by
  by_cases h : z = 0
  · rw [if_pos h, h, trim_app0]
  · rw [if_neg h, trim_last _ _ h]
theorem trim_idem (xs : List Int) : trim (trim xs) = trim xs := by
  have gen : ∀ (n : Nat) (xs : List Int), xs.length = n → trim (trim xs) = trim xs := by
    intro n
    induction n with
    | zero => intro xs h; rw [List.length_eq_zero_iff.mp h]; rfl
    | succ n ih =>
      intro xs h
      rcases List.eq_nil_or_concat xs with e | ⟨l, z, e⟩
      · subst e; rfl
      · rw [List.concat_eq_append] at e
        subst e
        rw [trim_snoc]
        split
        · exact ih l (by simpa using h)
        · rename_i hz
          exact trim_last _ _ hz
  exact gen _ xs rfl
/-- a row as a series -/
def rs (a : List Int) : PS Int := PS.sr id 0 a
theorem rs_nil : rs [] = 0 := PS.sr_nil rfl
theorem rs_cons {x : Int} {xs : List Int} : rs (x :: xs) = PS.con x + PS.X * rs xs := PS.sr_cons
theorem rs_app {xs ys : List Int} : rs (xs ++ ys) = rs xs + (PS.X : PS Int) ^ xs.length * rs ys := PS.sr_app rfl
theorem rs_zeros (n : Nat) : rs (List.replicate n 0) = 0 := PS.sr_zeros (φ := (id : Int → Int)) (z := (0 : Int)) rfl n
theorem rs_at {a : List Int} {k : Nat} : (rs a).at_ k = a.getD k 0 := rfl
theorem con0 : PS.con (0 : Int) = 0 := rfl
theorem rs_trim (a : List Int) : rs (trim a) = rs a := by
  induction a with
  | nil => rfl
  | cons x xs ih =>
    unfold trim
    split
    · rename_i e
      rw [e] at ih
      rw [rs_cons, ← ih]
      split
      · rename_i h; rw [h, rs_nil, con0]; grind
      · rw [rs_cons]
    · rename_i y ys e
      rw [rs_cons, ← e, ih, rs_cons]
/-- trimmed rows are told by their numbers -/
theorem trim_eq {a b : List Int} (h : rs a = rs b) : trim a = trim b := by
  have z : ∀ {a : List Int}, rs a = 0 → trim a = [] := by
    intro a h
    induction a with
    | nil => rfl
    | cons x xs ih =>
      have hx : x = 0 := by
        have := congrArg (fun f => f.at_ 0) h
        simpa [rs_at] using this
      have ht : rs xs = 0 := PS.ext fun k => by
        have := congrArg (fun f => f.at_ (k + 1)) h
        simpa [rs_at] using this
      unfold trim
      rw [ih ht, if_pos hx]
  induction a generalizing b with
  | nil =>
    rw [rs_nil] at h
    rw [z h.symm]; rfl
  | cons x xs ih =>
    cases b with
    | nil => rw [rs_nil] at h; rw [z h]; rfl
    | cons y ys =>
      have hx : x = y := by
        have := congrArg (fun f => f.at_ 0) h
        simpa [rs_at] using this
      have ht : rs xs = rs ys := PS.ext fun k => by
        have := congrArg (fun f => f.at_ (k + 1)) h
        simpa [rs_at] using this
      have e := ih ht
      unfold trim
      rw [e, hx]
theorem row_ext {a b : List Int} (ha : trim a = a) (hb : trim b = b) (h : rs a = rs b) : a = b := by
  rw [← ha, ← hb]
  exact trim_eq h
/-- the sum of two rows -/
def addP : List Int → List Int → List Int
  | [], ys => ys
  | x :: xs, [] => x :: xs
  | x :: xs, y :: ys => (x + y) :: addP xs ys
theorem addP_len : ∀ a b : List Int, (addP a b).length = max a.length b.length
  | [], ys => by simp [addP]
  | x :: xs, [] => by simp [addP]
  | x :: xs, y :: ys => by
    have ih := addP_len xs ys
    simp [addP, ih]
theorem addP_get : ∀ (a b : List Int) (k : Nat), k < max a.length b.length → (addP a b)[k]? = some (a.getD k 0 + b.getD k 0)
  | [], ys, k, h => by
    have hk : k < ys.length := by simpa using h
    simp [addP, List.getElem?_eq_getElem hk, List.getD_eq_getElem?_getD]
  | x :: xs, [], k, h => by
    have hk : k < (x :: xs).length := by simpa using h
    simp only [addP]
    rw [List.getElem?_eq_getElem hk, List.getD_eq_getElem?_getD, List.getElem?_eq_getElem hk] <;> simp
  | x :: xs, y :: ys, 0, h => by simp [addP]
  | x :: xs, y :: ys, k + 1, h => by
    have ih := addP_get xs ys k (by simp at h; omega)
    simpa [addP] using ih
theorem rs_addP (a b : List Int) : rs (addP a b) = rs a + rs b := by
  induction a generalizing b with
  | nil => rw [rs_nil]; show rs b = _; grind
  | cons x xs ih =>
    cases b with
    | nil => rw [rs_nil]; show rs (x :: xs) = _; grind
    | cons y ys =>
      show rs ((x + y) :: addP xs ys) = _
      rw [rs_cons, rs_cons, rs_cons, ih, PS.con_add]; grind
theorem rs_scale (k : Int) (a : List Int) : rs (a.map (k * ·)) = PS.con k * rs a := PS.sr_map (φ := (id : Int → Int)) (z := (0 : Int)) (ψ := (id : Int → Int)) (w := (0 : Int)) rfl rfl (fun b => rfl) a
def addAt (c : List Int) (k : Nat) (v : Int) : List Int := c.set k (c.getD k 0 + v)
def inner (i : Nat) (x : Int) : Nat → List Int → List Int → List Int
  | _, [], c => c
  | j, y :: ys, c => inner i x (j + 1) ys (addAt c (i + j) (x * y))
def outer (b : List Int) : Nat → List Int → List Int → List Int
  | _, [], c => c
  | i, x :: xs, c => outer b (i + 1) xs (inner i x 0 b c)
theorem addAt_len {c : List Int} {k : Nat} {v : Int} : (addAt c k v).length = c.length := List.length_set ..
theorem inner_len {i : Nat} {x : Int} : ∀ (ys : List Int) (j : Nat) (c : List Int), (inner i x j ys c).length = c.length
  | [], j, c => rfl
  | y :: ys, j, c => by
    unfold inner
    rw [inner_len ys, addAt_len]
theorem outer_len {b : List Int} : ∀ (xs : List Int) (i : Nat) (c : List Int), (outer b i xs c).length = c.length
  | [], i, c => rfl
  | x :: xs, i, c => by
    unfold outer
    rw [outer_len xs, inner_len]
theorem rs_addAt {c : List Int} {k : Nat} {v : Int} (h : k < c.length) : rs (addAt c k v) = rs c + (PS.X : PS Int) ^ k * PS.con v := by
  unfold rs addAt
  rw [PS.sr_set h]
  congr 3
  simp only [id]
  omega
theorem rs_inner {i : Nat} {x : Int} : ∀ (ys : List Int) (j : Nat) (c : List Int), i + j + ys.length ≤ c.length → rs (inner i x j ys c) = rs c + (PS.X : PS Int) ^ (i + j) * PS.con x * rs ys
  | [], j, c, _ => by
    show rs c = _
    rw [rs_nil]; grind
  | y :: ys, j, c, h => by
    rw [List.length_cons] at h
    unfold inner
    rw [rs_inner ys (j + 1) _ (by rw [addAt_len]; omega), rs_addAt (by omega), rs_cons, PS.con_mul, show i + (j + 1) = (i + j) + 1 by omega]
    grind
theorem rs_outer {b : List Int} : ∀ (xs : List Int) (i : Nat) (c : List Int), (xs = [] ∨ i + xs.length + b.length ≤ c.length + 1) → rs (outer b i xs c) = rs c + (PS.X : PS Int) ^ i * rs xs * rs b
  | [], i, c, _ => by
    show rs c = _
    rw [rs_nil]; grind
  | x :: xs, i, c, h => by
    have h : i + (xs.length + 1) + b.length ≤ c.length + 1 := by
      rcases h with h | h
      · cases h
      · simpa using h
    unfold outer
    rw [rs_outer xs (i + 1) _ (by right; rw [inner_len]; omega), rs_inner b 0 c (by omega), rs_cons]
    grind
/-- the product of two rows -/
def mulP (a b : List Int) : List Int := trim (outer b 0 a (List.replicate (a.length + b.length - 1) 0))
theorem rs_mulP (a b : List Int) : rs (mulP a b) = rs a * rs b := by
  unfold mulP
  rw [rs_trim, rs_outer _ _ _ (by
    rw [List.length_replicate]
    cases a with
    | nil => exact .inl rfl
    | cons x xs => right; rw [List.length_cons]; omega), rs_zeros]
  grind
theorem mulP_trim (a b : List Int) : trim (mulP a b) = mulP a b := trim_idem _
theorem mulP_of {a b c : List Int} (h : rs c = rs a * rs b) : trim c = mulP a b := by
  rw [← mulP_trim]
  exact trim_eq (by rw [h, rs_mulP])
theorem mulP_more {a b : List Int} {N : Nat} (h : a = [] ∨ a.length + b.length ≤ N + 1) : trim (outer b 0 a (List.replicate N 0)) = mulP a b := by
  refine mulP_of ?_
  rw [rs_outer _ _ _ (by rw [List.length_replicate]; rcases h with h | h; exact .inl h; exact .inr (by omega)), rs_zeros]
  grind
theorem mulP_comm (a b : List Int) : mulP a b = mulP b a := row_ext (mulP_trim a b) (mulP_trim b a) (by rw [rs_mulP, rs_mulP]; grind)
theorem mulP_nil {b : List Int} : mulP [] b = [] := by
  unfold mulP
  exact (trim_eq (b := []) (by rw [show outer b 0 [] (List.replicate ([].length + b.length - 1) 0) = List.replicate ([].length + b.length - 1) 0 from rfl, rs_zeros, rs_nil])).trans rfl
theorem mulP_nil' {a : List Int} : mulP a [] = [] := by rw [mulP_comm, mulP_nil]
/-- bounds of numbers: below 2 ^ n -/
def BL (n : Nat) (a : List Int) : Prop := ∀ x ∈ a, x.natAbs < 2 ^ n
theorem BL.trim {n : Nat} {a : List Int} (h : BL n a) : BL n (LW.trim a) := fun x hx => h x (trim_mem hx)
theorem BL.up {n m : Nat} {a : List Int} (h : BL n a) (hm : n ≤ m) : BL m a := fun x hx => Nat.lt_of_lt_of_le (h x hx) (Nat.pow_le_pow_right (by omega) hm)
theorem two_pow {n : Nat} : 2 ^ n + 2 ^ n = 2 ^ (n + 1) := by rw [Nat.pow_succ]; omega
theorem BL.getD {n : Nat} {a : List Int} (h : BL n a) (k : Nat) : (a.getD k 0).natAbs < 2 ^ n := by
  rw [List.getD_eq_getElem?_getD]
  by_cases hk : k < a.length
  · rw [List.getElem?_eq_getElem hk]
    exact h _ (List.getElem_mem hk)
  · rw [List.getElem?_eq_none (by omega)]
    exact Nat.two_pow_pos n
theorem BL.addP {n : Nat} {a b : List Int} (ha : BL n a) (hb : BL n b) : BL (n + 1) (LW.addP a b) := by
  intro x hx
  obtain ⟨k, hk, e⟩ := List.getElem_of_mem hx
  have := addP_get a b k (by rwa [addP_len] at hk)
  rw [List.getElem?_eq_getElem hk, e] at this
  cases this
  have h1 := ha.getD k
  have h2 := hb.getD k
  have := Int.natAbs_add_le (a.getD k 0) (b.getD k 0)
  have := @two_pow n
  omega
theorem BL.scale {n m : Nat} {a : List Int} {k : Int} (ha : BL n a) (hk : k.natAbs ≤ 2 ^ m) : BL (m + n) (a.map (k * ·)) := by
  intro x hx
  obtain ⟨y, hy, rfl⟩ := List.mem_map.mp hx
  show (k * y).natAbs < _
  rw [Int.natAbs_mul, Nat.pow_add]
  have h1 := ha y hy
  have h2 : k.natAbs * y.natAbs ≤ 2 ^ m * y.natAbs := Nat.mul_le_mul_right _ hk
  have h3 : 2 ^ m * y.natAbs < 2 ^ m * 2 ^ n := Nat.mul_lt_mul_of_pos_left h1 (Nat.two_pow_pos m)
  omega
theorem BL.zeros (n m : Nat) : BL n (List.replicate m 0) := fun x hx => by
  rw [List.eq_of_mem_replicate hx]
  exact Nat.two_pow_pos n
/-- numbers at most M -/
def BM (M : Nat) (a : List Int) : Prop := ∀ x ∈ a, x.natAbs ≤ M
theorem BM.getD {M : Nat} {a : List Int} (h : BM M a) (k : Nat) : (a.getD k 0).natAbs ≤ M := by
  rw [List.getD_eq_getElem?_getD]
  by_cases hk : k < a.length
  · rw [List.getElem?_eq_getElem hk]
    exact h _ (List.getElem_mem hk)
  · rw [List.getElem?_eq_none (by omega)]
    simp
theorem BM.addAt {M L : Nat} {c : List Int} {k : Nat} {v : Int} (h : BM M c) (hv : v.natAbs ≤ L) : BM (M + L) (LW.addAt c k v) := by
  intro x hx
  unfold LW.addAt at hx
  rcases List.mem_or_eq_of_mem_set hx with hx | rfl
  · exact Nat.le_trans (h x hx) (by omega)
  · have := h.getD k
    have := Int.natAbs_add_le (c.getD k 0) v
    omega
theorem BM.inner {i : Nat} {x : Int} {M A B : Nat} (hx : x.natAbs ≤ A) : ∀ {ys : List Int} {j : Nat} {c : List Int}, BM B ys → BM M c → BM (M + ys.length * (A * B)) (LW.inner i x j ys c)
  | [], j, c, _, h => by simpa [LW.inner] using h
  | y :: ys, j, c, hy, h => by
    unfold LW.inner
    have hxy : (x * y).natAbs ≤ A * B := by rw [Int.natAbs_mul]; exact Nat.mul_le_mul hx (hy y List.mem_cons_self)
    have := BM.inner (i := i) (j := j + 1) hx (fun z hz => hy z (List.mem_cons_of_mem _ hz)) (h.addAt (k := i + j) hxy)
    intro z hz
    have := this z hz
    rw [List.length_cons, Nat.succ_mul]
    omega
theorem BM.outer {b : List Int} {M A B : Nat} (hb : BM B b) : ∀ {xs : List Int} {i : Nat} {c : List Int}, BM A xs → BM M c → BM (M + xs.length * (b.length * (A * B))) (LW.outer b i xs c)
  | [], i, c, _, h => by simpa [LW.outer] using h
  | x :: xs, i, c, ha, h => by
    unfold LW.outer
    have := BM.outer hb (i := i + 1) (fun z hz => ha z (List.mem_cons_of_mem _ hz)) (BM.inner (i := i) (j := 0) (ha x List.mem_cons_self) hb h)
    intro z hz
    have := this z hz
    rw [List.length_cons, Nat.succ_mul]
    omega
theorem BM.mulP {a b : List Int} {A B : Nat} (ha : BM A a) (hb : BM B b) : BM (a.length * (b.length * (A * B))) (LW.mulP a b) := by
  intro x hx
  unfold LW.mulP at hx
  have z : BM 0 (List.replicate (a.length + b.length - 1) 0) := fun x hx => by rw [List.eq_of_mem_replicate hx]; simp
  have := (BM.outer (i := 0) hb ha z) x (trim_mem hx)
  omega
theorem mulP_len (a b : List Int) : (mulP a b).length ≤ a.length + b.length - 1 := by
  unfold mulP
  have := trim_len (outer b 0 a (List.replicate (a.length + b.length - 1) 0))
  rw [outer_len, List.length_replicate] at this
  exact this
end LW
/-! MR3: fractions and values. -/
namespace LW
open Lean.Grind
theorem lean_num {a b : Int} (hb : 0 < b) : ((a : Rat) / (b : Rat)).num = a / (Nat.gcd a.natAbs b.natAbs : Int) ∧ ((((a : Rat) / (b : Rat)).den : Nat) : Int) = b / (Nat.gcd a.natAbs b.natAbs : Int) := by
  rw [← Rat.divInt_eq_div, Rat.num_divInt, Rat.den_divInt]
  have e : Int.gcd b a = Nat.gcd a.natAbs b.natAbs := by rw [Int.gcd_comm]; rfl
  rw [e, Int.sign_eq_one_of_pos hb, Int.one_mul, if_neg (by omega)]
  refine ⟨rfl, ?_⟩
  rw [Int.natCast_ediv]
  congr 1
  omega
theorem num_div_den (q : Rat) : q = (q.num : Rat) / ((q.den : Int) : Rat) := by
  rw [← Rat.divInt_eq_div]
  exact (Rat.num_divInt_den q).symm
theorem den_pos (q : Rat) : (0 : Int) < (q.den : Int) := by
  have := q.den_pos
  omega
theorem den_ne (q : Rat) : ((q.den : Int) : Rat) ≠ 0 := by
  intro h
  have : ((q.den : Int) : Rat) = ((0 : Int) : Rat) := h
  rw [Rat.intCast_inj] at this
  have := den_pos q
  omega
theorem add_div (p q : Rat) : p + q = ((p.num * q.den + q.num * p.den : Int) : Rat) / ((p.den * q.den : Int) : Rat) := by
  have hp := num_div_den p
  have hq := num_div_den q
  have np := den_ne p
  have nq := den_ne q
  rw [Rat.intCast_add, Rat.intCast_mul, Rat.intCast_mul, Rat.intCast_mul]
  generalize (p.num : Rat) = a at *
  generalize ((p.den : Int) : Rat) = b at *
  generalize (q.num : Rat) = c at *
  generalize ((q.den : Int) : Rat) = d at *
  subst hp hq
  grind
theorem mul_div (p q : Rat) : p * q = ((p.num * q.num : Int) : Rat) / ((p.den * q.den : Int) : Rat) := by
  have hp := num_div_den p
  have hq := num_div_den q
  have np := den_ne p
  have nq := den_ne q
  rw [Rat.intCast_mul, Rat.intCast_mul]
  generalize (p.num : Rat) = a at *
  generalize ((p.den : Int) : Rat) = b at *
  generalize (q.num : Rat) = c at *
  generalize ((q.den : Int) : Rat) = d at *
  subst hp hq
  grind
/-- how great a fraction's numbers are -/
def RB (k : Nat) (q : Rat) : Prop := q.num.natAbs ≤ 2 ^ k ∧ q.den ≤ 2 ^ k
theorem RB.up {k l : Nat} {q : Rat} (h : RB k q) (hl : k ≤ l) : RB l q := ⟨Nat.le_trans h.1 (Nat.pow_le_pow_right (by omega) hl), Nat.le_trans h.2 (Nat.pow_le_pow_right (by omega) hl)⟩
theorem RB.of_div {a b : Int} {k : Nat} (hb : 0 < b) (ha : a.natAbs ≤ 2 ^ k) (h : b.natAbs ≤ 2 ^ k) : RB k ((a : Rat) / (b : Rat)) := by
  obtain ⟨e1, e2⟩ := lean_num (a := a) hb
  constructor
  · rw [e1]
    exact Nat.le_trans (Int.natAbs_ediv_le_natAbs a _) ha
  · have := Int.natAbs_ediv_le_natAbs b (Nat.gcd a.natAbs b.natAbs : Int)
    rw [← e2] at this
    have : ((a : Rat) / (b : Rat)).den ≤ b.natAbs := by simpa using this
    omega
theorem RB.add {k l : Nat} {p q : Rat} (hp : RB k p) (hq : RB l q) : RB (k + l + 1) (p + q) := by
  rw [add_div]
  refine .of_div (Int.mul_pos (den_pos p) (den_pos q)) ?_ ?_
  · have h1 : (p.num * (q.den : Int)).natAbs ≤ 2 ^ k * 2 ^ l := by
      rw [Int.natAbs_mul]
      exact Nat.mul_le_mul hp.1 (by simpa using hq.2)
    have h2 : (q.num * (p.den : Int)).natAbs ≤ 2 ^ k * 2 ^ l := by
      rw [Int.natAbs_mul, Nat.mul_comm (2 ^ k)]
      exact Nat.mul_le_mul hq.1 (by simpa using hp.2)
    have := Int.natAbs_add_le (p.num * (q.den : Int)) (q.num * (p.den : Int))
    rw [← Nat.pow_add] at h1 h2
    have := @two_pow (k + l)
    omega
  · rw [Int.natAbs_mul, show k + l + 1 = k + (l + 1) by omega, Nat.pow_add]
    refine Nat.mul_le_mul (by simpa using hp.2) (Nat.le_trans (by simpa using hq.2) (Nat.pow_le_pow_right (by omega) (by omega)))
theorem RB.mul {k l : Nat} {p q : Rat} (hp : RB k p) (hq : RB l q) : RB (k + l) (p * q) := by
  rw [mul_div]
  refine .of_div (Int.mul_pos (den_pos p) (den_pos q)) ?_ ?_
  · rw [Int.natAbs_mul, Nat.pow_add]
    exact Nat.mul_le_mul hp.1 hq.1
  · rw [Int.natAbs_mul, Nat.pow_add]
    exact Nat.mul_le_mul (by simpa using hp.2) (by simpa using hq.2)
theorem RB.int {k : Nat} {a : Int} (h : a.natAbs ≤ 2 ^ k) : RB k (a : Rat) := ⟨by rw [Rat.num_intCast]; exact h, by rw [Rat.den_intCast]; exact Nat.one_le_two_pow⟩
theorem RB.zero : RB 0 (0 : Rat) := ⟨by decide, by decide⟩
/-- the value of a row -/
def ev (q : Rat) : List Int → Rat
  | [] => 0
  | c :: cs => (c : Rat) + q * ev q cs
theorem ev_trim (q : Rat) (a : List Int) : ev q (trim a) = ev q a := by
  induction a with
  | nil => rfl
  | cons x xs ih =>
    unfold trim
    split
    · rename_i e
      rw [e] at ih
      show _ = (x : Rat) + q * ev q xs
      rw [← ih]
      split
      · rename_i h
        subst h
        show (0 : Rat) = ((0 : Int) : Rat) + q * 0
        have : ((0 : Int) : Rat) = 0 := rfl
        rw [this]; grind
      · rfl
    · rename_i y ys e
      show (x : Rat) + q * ev q (y :: ys) = (x : Rat) + q * ev q xs
      rw [← e, ih]
theorem ev_addP (q : Rat) (a b : List Int) : ev q (addP a b) = ev q a + ev q b := by
  induction a generalizing b with
  | nil => show ev q b = 0 + ev q b; grind
  | cons x xs ih =>
    cases b with
    | nil => show ev q (x :: xs) = ev q (x :: xs) + 0; grind
    | cons y ys =>
      show ((x + y : Int) : Rat) + q * ev q (addP xs ys) = ((x : Rat) + q * ev q xs) + ((y : Rat) + q * ev q ys)
      rw [ih, Rat.intCast_add]; grind
theorem ev_scale (q : Rat) (k : Int) (a : List Int) : ev q (a.map (k * ·)) = (k : Rat) * ev q a := by
  induction a with
  | nil => show (0 : Rat) = (k : Rat) * 0; grind
  | cons x xs ih =>
    show ((k * x : Int) : Rat) + q * ev q (xs.map (k * ·)) = (k : Rat) * ((x : Rat) + q * ev q xs)
    rw [ih, Rat.intCast_mul]; grind
theorem ev_set (q : Rat) {l : List Int} {k : Nat} {v : Int} (h : k < l.length) : ev q (l.set k v) = ev q l + q ^ k * ((v : Rat) - ((l.getD k 0 : Int) : Rat)) := by
  induction l generalizing k with
  | nil => cases h
  | cons x xs ih =>
    cases k with
    | zero =>
      show (v : Rat) + q * ev q xs = ((x : Rat) + q * ev q xs) + q ^ 0 * ((v : Rat) - (x : Rat))
      grind
    | succ k =>
      show (x : Rat) + q * ev q (xs.set k v) = ((x : Rat) + q * ev q xs) + q ^ (k + 1) * ((v : Rat) - ((xs.getD k 0 : Int) : Rat))
      rw [ih (by simpa using h)]
      grind
theorem ev_addAt (q : Rat) {c : List Int} {k : Nat} {v : Int} (h : k < c.length) : ev q (addAt c k v) = ev q c + q ^ k * (v : Rat) := by
  unfold addAt
  rw [ev_set q h, Rat.intCast_add]; grind
theorem ev_inner (q : Rat) {i : Nat} {x : Int} : ∀ (ys : List Int) (j : Nat) (c : List Int), i + j + ys.length ≤ c.length → ev q (inner i x j ys c) = ev q c + q ^ (i + j) * (x : Rat) * ev q ys
  | [], j, c, _ => by show ev q c = ev q c + q ^ (i + j) * (x : Rat) * 0; grind
  | y :: ys, j, c, h => by
    rw [List.length_cons] at h
    unfold inner
    rw [ev_inner q ys (j + 1) _ (by rw [addAt_len]; omega), ev_addAt q (by omega), Rat.intCast_mul, show i + (j + 1) = (i + j) + 1 by omega]
    show _ = ev q c + q ^ (i + j) * (x : Rat) * ((y : Rat) + q * ev q ys)
    grind
theorem ev_outer (q : Rat) {b : List Int} : ∀ (xs : List Int) (i : Nat) (c : List Int), (xs = [] ∨ i + xs.length + b.length ≤ c.length + 1) → ev q (outer b i xs c) = ev q c + q ^ i * ev q xs * ev q b
  | [], i, c, _ => by show ev q c = ev q c + q ^ i * 0 * ev q b; grind
  | x :: xs, i, c, h => by
    have h : i + (xs.length + 1) + b.length ≤ c.length + 1 := by
      rcases h with h | h
      · cases h
      · simpa using h
    unfold outer
    rw [ev_outer q xs (i + 1) _ (by right; rw [inner_len]; omega), ev_inner q b 0 c (by omega)]
    show _ = ev q c + q ^ i * ((x : Rat) + q * ev q xs) * ev q b
    grind
theorem ev_zeros (q : Rat) : ∀ n : Nat, ev q (List.replicate n 0) = 0
  | 0 => rfl
  | n + 1 => by
    rw [List.replicate_succ]
    show ((0 : Int) : Rat) + q * ev q (List.replicate n 0) = 0
    rw [ev_zeros q n, show ((0 : Int) : Rat) = 0 from rfl]; grind
theorem ev_mulP (q : Rat) (a b : List Int) : ev q (mulP a b) = ev q a * ev q b := by
  unfold mulP
  rw [ev_trim, ev_outer q _ _ _ (by
    rw [List.length_replicate]
    cases a with
    | nil => exact .inl rfl
    | cons x xs => right; rw [List.length_cons]; omega), ev_zeros]
  grind
theorem RB.ev {k m : Nat} {q : Rat} (hq : RB k q) : ∀ {a : List Int}, BM (2 ^ m) a → RB (a.length * (k + m + 1)) (ev q a)
  | [], _ => by simpa [LW.ev] using RB.zero
  | c :: cs, h => by
    have h1 := RB.ev hq (a := cs) fun x hx => h x (List.mem_cons_of_mem _ hx)
    have := (RB.int (h c List.mem_cons_self)).add (hq.mul h1)
    refine this.up ?_
    rw [List.length_cons, Nat.succ_mul]
    omega
/-- the value's upper part, step by step -/
def hrn (n d : Int) (cs : List Int) : Int × Int := cs.foldl (fun f c => (f.1 * n + c * f.2, f.2 * d)) (0, 1)
theorem hrn_snoc {n d : Int} {cs : List Int} {c : Int} : hrn n d (cs ++ [c]) = ((hrn n d cs).1 * n + c * (hrn n d cs).2, (hrn n d cs).2 * d) := by
  unfold hrn
  rw [List.foldl_append]
  rfl
theorem hrn_pow {n d : Int} (cs : List Int) : (hrn n d cs).2 = d ^ cs.length := by
  have gen : ∀ (cs : List Int) (f p : Int), (cs.foldl (fun f c => (f.1 * n + c * f.2, f.2 * d)) (f, p)).2 = p * d ^ cs.length := by
    intro cs
    induction cs with
    | nil => intro f p; simp
    | cons c cs ih =>
      intro f p
      rw [List.foldl_cons, ih, List.length_cons, Int.pow_succ, Int.mul_assoc, Int.mul_comm d]
  have := gen cs 0 1
  rw [Int.one_mul] at this
  exact this
theorem hrn_ev {n d : Int} (hd : d ≠ 0) : ∀ a : List Int, ((hrn n d a.reverse).1 : Rat) * (d : Rat) = (d : Rat) ^ a.length * ev ((n : Rat) / (d : Rat)) a
  | [] => by
    show ((0 : Int) : Rat) * (d : Rat) = (d : Rat) ^ 0 * 0
    rw [show ((0 : Int) : Rat) = 0 from rfl]; grind
  | c :: cs => by
    have ih := hrn_ev (n := n) hd cs
    have hd' : (d : Rat) ≠ 0 := fun h => hd (by
      have : ((d : Int) : Rat) = ((0 : Int) : Rat) := h
      rwa [Rat.intCast_inj] at this)
    rw [List.reverse_cons, hrn_snoc, List.length_cons, hrn_pow, List.length_reverse]
    show (((hrn n d cs.reverse).1 * n + c * d ^ cs.length : Int) : Rat) * (d : Rat) = (d : Rat) ^ (cs.length + 1) * ((c : Rat) + (n : Rat) / (d : Rat) * ev ((n : Rat) / (d : Rat)) cs)
    rw [Rat.intCast_add, Rat.intCast_mul, Rat.intCast_mul, Rat.intCast_pow, show (d : Rat) ^ (cs.length + 1) = (d : Rat) ^ cs.length * (d : Rat) by grind]
    generalize ev ((n : Rat) / (d : Rat)) cs = e at *
    generalize ((hrn n d cs.reverse).1 : Rat) = f at *
    generalize (d : Rat) ^ cs.length = p at ih ⊢
    generalize (d : Rat) = d' at *
    grind
theorem hrn_val {n d : Int} (hd : d ≠ 0) (a : List Int) : ((hrn n d a.reverse).1 : Rat) / (((d ^ (a.length - 1) : Int)) : Rat) = ev ((n : Rat) / (d : Rat)) a := by
  have h := hrn_ev (n := n) hd a
  have hd' : (d : Rat) ≠ 0 := fun h => hd (by
    have : ((d : Int) : Rat) = ((0 : Int) : Rat) := h
    rwa [Rat.intCast_inj] at this)
  cases a with
  | nil =>
    show ((0 : Int) : Rat) / _ = 0
    rw [show ((0 : Int) : Rat) = 0 from rfl]
    grind
  | cons c cs =>
    rw [List.length_cons] at h ⊢
    rw [Nat.add_sub_cancel, Rat.intCast_pow]
    have hp : (d : Rat) ^ cs.length ≠ 0 := by
      clear h
      induction cs.length with
      | zero => rw [show (d : Rat) ^ 0 = 1 by grind]; decide
      | succ k ih => grind
    rw [show (d : Rat) ^ (cs.length + 1) = (d : Rat) ^ cs.length * (d : Rat) by grind] at h
    generalize ev ((n : Rat) / (d : Rat)) (c :: cs) = e at *
    generalize ((hrn n d (c :: cs).reverse).1 : Rat) = f at *
    generalize (d : Rat) ^ cs.length = p at *
    generalize (d : Rat) = d' at *
    grind
theorem hrn_le {n d : Int} {k : Nat} (hn : n.natAbs ≤ 2 ^ k) (hd : d.natAbs ≤ 2 ^ k) {M : Nat} : ∀ {cs : List Int}, BM (2 ^ M) cs → (hrn n d cs).1.natAbs ≤ 2 ^ (cs.length * (k + 1) + M) ∧ (hrn n d cs).2.natAbs ≤ 2 ^ (cs.length * k) := by
  intro cs
  have gen : ∀ (j : Nat), BM (2 ^ M) cs → j ≤ cs.length → (hrn n d (cs.take j)).1.natAbs ≤ 2 ^ (j * (k + 1) + M) ∧ (hrn n d (cs.take j)).2.natAbs ≤ 2 ^ (j * k) := by
    intro j hb
    induction j with
    | zero => intro _; exact ⟨Nat.zero_le _, by simp [hrn]⟩
    | succ j ih =>
      intro hj
      obtain ⟨i1, i2⟩ := ih (by omega)
      rw [take_succ0 (show j < cs.length by omega), hrn_snoc]
      have hc := hb _ (List.getElem_mem (show j < cs.length by omega))
      constructor
      · show ((hrn n d (cs.take j)).1 * n + cs[j] * (hrn n d (cs.take j)).2).natAbs ≤ _
        have a1 : ((hrn n d (cs.take j)).1 * n).natAbs ≤ 2 ^ (j * (k + 1) + M) * 2 ^ k := by rw [Int.natAbs_mul]; exact Nat.mul_le_mul i1 hn
        have a2 : (cs[j] * (hrn n d (cs.take j)).2).natAbs ≤ 2 ^ M * 2 ^ (j * k) := by rw [Int.natAbs_mul]; exact Nat.mul_le_mul hc i2
        have a3 := Int.natAbs_add_le ((hrn n d (cs.take j)).1 * n) (cs[j] * (hrn n d (cs.take j)).2)
        rw [← Nat.pow_add] at a1 a2
        have a4 : 2 ^ (M + j * k) ≤ 2 ^ (j * (k + 1) + M + k) := Nat.pow_le_pow_right (by omega) (by rw [Nat.mul_succ]; omega)
        have a5 := @two_pow (j * (k + 1) + M + k)
        have a6 : (j + 1) * (k + 1) + M = j * (k + 1) + M + k + 1 := by rw [Nat.succ_mul]; omega
        rw [a6]
        omega
      · show ((hrn n d (cs.take j)).2 * d).natAbs ≤ _
        rw [Int.natAbs_mul, Nat.succ_mul, Nat.pow_add]
        exact Nat.mul_le_mul i2 hd
  intro hb
  have := gen cs.length hb (Nat.le_refl _)
  rwa [List.take_length] at this
end LW
/-! MR4: polynomials of two letters. -/
namespace LW
open Lean.Grind
abbrev Pol := List (List Int)
def trimP : Pol → Pol
  | [] => []
  | x :: xs => match trimP xs with
    | [] => if x = [] then [] else [x]
    | y :: ys => x :: y :: ys
theorem trimP_app0 : ∀ xs : Pol, trimP (xs ++ [[]]) = trimP xs
  | [] => rfl
  | x :: xs => by
    show trimP (x :: (xs ++ [[]])) = _
    unfold trimP
    rw [trimP_app0 xs]
theorem trimP_last : ∀ (xs : Pol) (y : List Int), y ≠ [] → trimP (xs ++ [y]) = xs ++ [y]
  | [], y, h => by simp [trimP, h]
  | x :: xs, y, h => by
    show trimP (x :: (xs ++ [y])) = _
    unfold trimP
    rw [trimP_last xs y h]
    cases xs <;> rfl
theorem trimP_take {xs : Pol} {n : Nat} (hn : n < xs.length) (h : xs[n] = []) : trimP (xs.take (n + 1)) = trimP (xs.take n) := by
  rw [take_succ0 hn, h, trimP_app0]
theorem trimP_take' {xs : Pol} {n : Nat} (hn : n < xs.length) (h : xs[n] ≠ []) : trimP (xs.take (n + 1)) = xs.take (n + 1) := by
  rw [take_succ0 hn, trimP_last _ _ h]
theorem trimP_snoc (l : Pol) (z : List Int) : trimP (l ++ [z]) = if z = [] then trimP l else l ++ [z] := by
  by_cases h : z = []
  · rw [if_pos h, h, trimP_app0]
  · rw [if_neg h, trimP_last _ _ h]
theorem trimP_idem (xs : Pol) : trimP (trimP xs) = trimP xs := by
  have gen : ∀ (n : Nat) (xs : Pol), xs.length = n → trimP (trimP xs) = trimP xs := by
    intro n
    induction n with
    | zero => intro xs h; rw [List.length_eq_zero_iff.mp h]; rfl
    | succ n ih =>
      intro xs h
      rcases List.eq_nil_or_concat xs with e | ⟨l, z, e⟩
      · subst e; rfl
      · rw [List.concat_eq_append] at e
        subst e
        rw [trimP_snoc]
        split
        · exact ih l (by simpa using h)
        · rename_i hz
          exact trimP_last _ _ hz
  exact gen _ xs rfl
theorem trimP_mem : ∀ {xs : Pol} {x : List Int}, x ∈ trimP xs → x ∈ xs
  | [], x, h => h
  | y :: ys, x, h => by
    unfold trimP at h
    split at h
    · split at h
      · cases h
      · simp at h
        subst h
        exact List.mem_cons_self
    · rename_i z zs e
      rcases List.mem_cons.mp h with rfl | h
      · exact List.mem_cons_self
      · exact List.mem_cons_of_mem _ (trimP_mem (by rw [e]; exact h))
theorem trimP_len : ∀ xs : Pol, (trimP xs).length ≤ xs.length
  | [] => Nat.le_refl _
  | y :: ys => by
    have ih := trimP_len ys
    unfold trimP
    split
    · split <;> simp
    · rename_i z zs e
      rw [e] at ih
      simp at ih ⊢
      omega
/-- all rows trimmed -/
def TR (P : Pol) : Prop := ∀ r ∈ P, trim r = r
/-- .. and the last one not nought -/
def TP (P : Pol) : Prop := trimP P = P ∧ TR P
theorem TR.trimP {P : Pol} (h : TR P) : TP (LW.trimP P) := ⟨trimP_idem P, fun r hr => h r (trimP_mem hr)⟩
theorem TR.cons {r : List Int} {P : Pol} (hr : trim r = r) (h : TR P) : TR (r :: P) := fun x hx => by
  rcases List.mem_cons.mp hx with rfl | hx
  · exact hr
  · exact h x hx
theorem TP.nil : TP [] := ⟨rfl, fun r hr => by cases hr⟩
/-- a polynomial as a series of series -/
def ps (P : Pol) : PS (PS Int) := PS.sr rs [] P
theorem ps_nil : ps [] = 0 := PS.sr_nil rs_nil
theorem ps_cons {x : List Int} {xs : Pol} : ps (x :: xs) = PS.con (rs x) + PS.X * ps xs := PS.sr_cons
theorem ps_at {P : Pol} {k : Nat} : (ps P).at_ k = rs (P.getD k []) := rfl
theorem ps_app {xs ys : Pol} : ps (xs ++ ys) = ps xs + (PS.X : PS (PS Int)) ^ xs.length * ps ys := PS.sr_app rs_nil
theorem ps_zeros (n : Nat) : ps (List.replicate n []) = 0 := PS.sr_zeros (φ := rs) (z := []) rs_nil n
theorem con0' : PS.con (0 : PS Int) = 0 := rfl
theorem ps_trim (P : Pol) : ps (trimP P) = ps P := by
  induction P with
  | nil => rfl
  | cons x xs ih =>
    unfold trimP
    split
    · rename_i e
      rw [e] at ih
      rw [ps_cons, ← ih]
      split
      · rename_i h; rw [h, rs_nil, ps_nil, con0']; grind
      · rw [ps_cons]
    · rename_i y ys e
      rw [ps_cons, ← e, ih, ps_cons]
theorem rs_zero {a : List Int} (ht : trim a = a) (h : rs a = 0) : a = [] := row_ext ht rfl (by rw [h, rs_nil])
theorem trimP_eq {P Q : Pol} (hP : TR P) (hQ : TR Q) (h : ps P = ps Q) : trimP P = trimP Q := by
  have z : ∀ {P : Pol}, TR P → ps P = 0 → trimP P = [] := by
    intro P hP h
    induction P with
    | nil => rfl
    | cons x xs ih =>
      have hx : rs x = 0 := by
        have := congrArg (fun f => f.at_ 0) h
        simpa [ps_at] using this
      have ht : ps xs = 0 := PS.ext fun k => by
        have := congrArg (fun f => f.at_ (k + 1)) h
        simpa [ps_at] using this
      unfold trimP
      rw [ih (fun r hr => hP r (List.mem_cons_of_mem _ hr)) ht, if_pos (rs_zero (hP x List.mem_cons_self) hx)]
  induction P generalizing Q with
  | nil =>
    rw [ps_nil] at h
    rw [z hQ h.symm]; rfl
  | cons x xs ih =>
    cases Q with
    | nil => rw [ps_nil] at h; rw [z hP h]; rfl
    | cons y ys =>
      have hx : x = y := row_ext (hP x List.mem_cons_self) (hQ y List.mem_cons_self) (by
        have := congrArg (fun f => f.at_ 0) h
        simpa [ps_at] using this)
      have ht : ps xs = ps ys := PS.ext fun k => by
        have := congrArg (fun f => f.at_ (k + 1)) h
        simpa [ps_at] using this
      have e := ih (fun r hr => hP r (List.mem_cons_of_mem _ hr)) (fun r hr => hQ r (List.mem_cons_of_mem _ hr)) ht
      unfold trimP
      rw [e, hx]
theorem pol_ext {P Q : Pol} (hP : TP P) (hQ : TP Q) (h : ps P = ps Q) : P = Q := by
  rw [← hP.1, ← hQ.1]
  exact trimP_eq hP.2 hQ.2 h
/-- sums -/
def addPP : Pol → Pol → Pol
  | [], Q => Q
  | x :: xs, [] => x :: xs
  | x :: xs, y :: ys => trim (addP x y) :: addPP xs ys
theorem addPP_len : ∀ P Q : Pol, (addPP P Q).length = max P.length Q.length
  | [], ys => by simp [addPP]
  | x :: xs, [] => by simp [addPP]
  | x :: xs, y :: ys => by
    have ih := addPP_len xs ys
    simp [addPP, ih]
theorem addP_nil (a : List Int) : addP a [] = a := by cases a <;> rfl
theorem addPP_get : ∀ (P Q : Pol) (k : Nat), TR P → TR Q → k < max P.length Q.length → (addPP P Q)[k]? = some (trim (addP (P.getD k []) (Q.getD k [])))
  | [], ys, k, _, hQ, h => by
    have hk : k < ys.length := by simpa using h
    have e := hQ _ (List.getElem_mem hk)
    simp [addPP, List.getElem?_eq_getElem hk, List.getD_eq_getElem?_getD, addP, e]
  | x :: xs, [], k, hP, _, h => by
    have hk : k < (x :: xs).length := by simpa using h
    have e := hP _ (List.getElem_mem hk)
    simp only [addPP]
    rw [List.getElem?_eq_getElem hk, List.getD_eq_getElem?_getD, List.getElem?_eq_getElem hk]
    show some (x :: xs)[k] = some (trim (addP (x :: xs)[k] []))
    rw [addP_nil, e]
  | x :: xs, y :: ys, 0, _, _, h => by simp [addPP]
  | x :: xs, y :: ys, k + 1, hP, hQ, h => by
    have ih := addPP_get xs ys k (fun r hr => hP r (List.mem_cons_of_mem _ hr)) (fun r hr => hQ r (List.mem_cons_of_mem _ hr)) (by simp at h; omega)
    simpa [addPP] using ih
theorem TR.addPP : ∀ {P Q : Pol}, TR P → TR Q → TR (LW.addPP P Q)
  | [], Q, _, hQ => hQ
  | x :: xs, [], hP, _ => hP
  | x :: xs, y :: ys, hP, hQ => .cons (trim_idem _) (TR.addPP (fun r hr => hP r (List.mem_cons_of_mem _ hr)) (fun r hr => hQ r (List.mem_cons_of_mem _ hr)))
theorem ps_addPP (P Q : Pol) : ps (addPP P Q) = ps P + ps Q := by
  induction P generalizing Q with
  | nil => rw [ps_nil]; show ps Q = _; grind
  | cons x xs ih =>
    cases Q with
    | nil => rw [ps_nil]; show ps (x :: xs) = _; grind
    | cons y ys =>
      show ps (trim (addP x y) :: addPP xs ys) = _
      rw [ps_cons, ps_cons, ps_cons, ih, rs_trim, rs_addP, PS.con_add]; grind
def sumPP (P Q : Pol) : Pol := trimP (addPP P Q)
theorem sumPP_TP {P Q : Pol} (hP : TR P) (hQ : TR Q) : TP (sumPP P Q) := (hP.addPP hQ).trimP
theorem ps_sumPP (P Q : Pol) : ps (sumPP P Q) = ps P + ps Q := by unfold sumPP; rw [ps_trim, ps_addPP]
theorem sumPP_comm {P Q : Pol} (hP : TR P) (hQ : TR Q) : sumPP P Q = sumPP Q P := pol_ext (sumPP_TP hP hQ) (sumPP_TP hQ hP) (by rw [ps_sumPP, ps_sumPP]; grind)
/-- products: the law's own loops -/
def addAtP (c : Pol) (k : Nat) (v : List Int) : Pol := c.set k (trim (addP (c.getD k []) v))
def innerP (i : Nat) (x : List Int) : Nat → Pol → Pol → Pol
  | _, [], c => c
  | j, y :: ys, c => innerP i x (j + 1) ys (addAtP c (i + j) (mulP x y))
def outerP (b : Pol) : Nat → Pol → Pol → Pol
  | _, [], c => c
  | i, x :: xs, c => outerP b (i + 1) xs (innerP i x 0 b c)
theorem addAtP_len {c : Pol} {k : Nat} {v : List Int} : (addAtP c k v).length = c.length := List.length_set ..
theorem innerP_len {i : Nat} {x : List Int} : ∀ (ys : Pol) (j : Nat) (c : Pol), (innerP i x j ys c).length = c.length
  | [], j, c => rfl
  | y :: ys, j, c => by
    unfold innerP
    rw [innerP_len ys, addAtP_len]
theorem outerP_len {b : Pol} : ∀ (xs : Pol) (i : Nat) (c : Pol), (outerP b i xs c).length = c.length
  | [], i, c => rfl
  | x :: xs, i, c => by
    unfold outerP
    rw [outerP_len xs, innerP_len]
theorem TR.addAtP {c : Pol} (h : TR c) (k : Nat) (v : List Int) : TR (LW.addAtP c k v) := fun r hr => by
  unfold LW.addAtP at hr
  rcases List.mem_or_eq_of_mem_set hr with hr | rfl
  · exact h r hr
  · exact trim_idem _
theorem TR.innerP {i : Nat} {x : List Int} : ∀ (ys : Pol) (j : Nat) {c : Pol}, TR c → TR (LW.innerP i x j ys c)
  | [], j, c, h => h
  | y :: ys, j, c, h => by
    unfold LW.innerP
    exact TR.innerP ys (j + 1) (h.addAtP _ _)
theorem TR.outerP {b : Pol} : ∀ (xs : Pol) (i : Nat) {c : Pol}, TR c → TR (LW.outerP b i xs c)
  | [], i, c, h => h
  | x :: xs, i, c, h => by
    unfold LW.outerP
    exact TR.outerP xs (i + 1) (TR.innerP b 0 h)
theorem TR.zeros (n : Nat) : TR (List.replicate n []) := fun r hr => by rw [List.eq_of_mem_replicate hr]; rfl
theorem ps_addAtP {c : Pol} {k : Nat} {v : List Int} (h : k < c.length) : ps (addAtP c k v) = ps c + (PS.X : PS (PS Int)) ^ k * PS.con (rs v) := by
  unfold ps addAtP
  rw [PS.sr_set h, rs_trim, rs_addP]
  congr 2
  congr 1
  grind
theorem ps_innerP {i : Nat} {x : List Int} : ∀ (ys : Pol) (j : Nat) (c : Pol), i + j + ys.length ≤ c.length → ps (innerP i x j ys c) = ps c + (PS.X : PS (PS Int)) ^ (i + j) * PS.con (rs x) * ps ys
  | [], j, c, _ => by
    show ps c = _
    rw [ps_nil]; grind
  | y :: ys, j, c, h => by
    rw [List.length_cons] at h
    unfold innerP
    rw [ps_innerP ys (j + 1) _ (by rw [addAtP_len]; omega), ps_addAtP (by omega), ps_cons, rs_mulP, PS.con_mul, show i + (j + 1) = (i + j) + 1 by omega]
    grind
theorem ps_outerP {b : Pol} : ∀ (xs : Pol) (i : Nat) (c : Pol), (xs = [] ∨ i + xs.length + b.length ≤ c.length + 1) → ps (outerP b i xs c) = ps c + (PS.X : PS (PS Int)) ^ i * ps xs * ps b
  | [], i, c, _ => by
    show ps c = _
    rw [ps_nil]; grind
  | x :: xs, i, c, h => by
    have h : i + (xs.length + 1) + b.length ≤ c.length + 1 := by
      rcases h with h | h
      · cases h
      · simpa using h
    unfold outerP
    rw [ps_outerP xs (i + 1) _ (by right; rw [innerP_len]; omega), ps_innerP b 0 c (by omega), ps_cons]
    grind
def mulPP (P Q : Pol) : Pol := trimP (outerP Q 0 P (List.replicate (P.length + Q.length) []))
theorem mulPP_TP (P Q : Pol) : TP (mulPP P Q) := (TR.outerP P 0 (TR.zeros _)).trimP
theorem ps_mulPP (P Q : Pol) : ps (mulPP P Q) = ps P * ps Q := by
  unfold mulPP
  rw [ps_trim, ps_outerP _ _ _ (by right; rw [List.length_replicate]; omega), ps_zeros]
  grind
theorem mulPP_comm (P Q : Pol) : mulPP P Q = mulPP Q P := pol_ext (mulPP_TP P Q) (mulPP_TP Q P) (by rw [ps_mulPP, ps_mulPP]; grind)
/-- a polynomial times a row -/
def rowP (P : Pol) (r : List Int) : Pol := trimP (P.map (mulP · r))
theorem rowP_TP (P : Pol) (r : List Int) : TP (rowP P r) := TR.trimP fun x hx => by
  obtain ⟨y, _, rfl⟩ := List.mem_map.mp hx
  exact mulP_trim _ _
theorem ps_rowP (P : Pol) (r : List Int) : ps (rowP P r) = ps P * PS.con (rs r) := by
  unfold rowP
  rw [ps_trim]
  have := PS.sr_map (φ := rs) (z := ([] : List Int)) (ψ := rs) (w := ([] : List Int)) (f := (mulP · r)) (c := rs r) rs_nil rs_nil (fun b => by rw [rs_mulP]; grind) P
  unfold ps
  rw [this]; grind
def shiftP (P : Pol) (k : Nat) : Pol := if P = [] then [] else List.replicate k [] ++ P
theorem ps_shiftP (P : Pol) (k : Nat) : ps (shiftP P k) = (PS.X : PS (PS Int)) ^ k * ps P := by
  unfold shiftP
  split
  · rename_i h
    rw [h, ps_nil]; grind
  · rw [ps_app, ps_zeros, List.length_replicate]; grind
theorem TR.shiftP {P : Pol} (h : TR P) (k : Nat) : TR (LW.shiftP P k) := by
  unfold LW.shiftP
  split
  · exact TP.nil.2
  · intro r hr
    rcases List.mem_append.mp hr with hr | hr
    · exact TR.zeros k r hr
    · exact h r hr
/-- the program's product: rows of the second one, one by one -/
def prodP (P : Pol) : Nat → Pol → Pol → Pol
  | _, [], c => c
  | i, x :: xs, c => prodP P (i + 1) xs (sumPP c (shiftP (rowP P x) i))
theorem prodP_TP {P : Pol} : ∀ (Q : Pol) (i : Nat) {c : Pol}, TP c → TP (prodP P i Q c)
  | [], i, c, h => h
  | x :: xs, i, c, h => by
    unfold prodP
    exact prodP_TP xs (i + 1) (sumPP_TP h.2 ((rowP_TP P x).2.shiftP i))
theorem ps_prodP {P : Pol} : ∀ (Q : Pol) (i : Nat) (c : Pol), ps (prodP P i Q c) = ps c + (PS.X : PS (PS Int)) ^ i * ps P * ps Q
  | [], i, c => by
    show ps c = _
    rw [ps_nil]; grind
  | x :: xs, i, c => by
    unfold prodP
    rw [ps_prodP xs, ps_sumPP, ps_shiftP, ps_rowP, ps_cons]; grind
theorem prodP_eq (P Q : Pol) : prodP P 0 Q [] = mulPP P Q := pol_ext (prodP_TP Q 0 TP.nil) (mulPP_TP P Q) (by rw [ps_prodP, ps_mulPP, ps_nil]; grind)
theorem rowP_eq (P : Pol) (r : List Int) : rowP P r = mulPP P [r] := pol_ext (rowP_TP P r) (mulPP_TP P [r]) (by rw [ps_rowP, ps_mulPP, ps_cons, ps_nil]; grind)
end LW
/-! MR5: letters exchanged, derivatives, values at two fractions. -/
namespace LW
open Lean.Grind
theorem ev_congr {q : Rat} {a b : List Int} (h : rs a = rs b) : ev q a = ev q b := by
  rw [← ev_trim q a, trim_eq h, ev_trim]
/-- the value at a place -/
def ev2 (x y : Rat) : Pol → Rat
  | [] => 0
  | r :: P => ev x r + y * ev2 x y P
theorem ev2_zero {x y : Rat} : ∀ {P : Pol}, ps P = 0 → ev2 x y P = 0
  | [], _ => rfl
  | r :: P, h => by
    have hx : rs r = rs [] := by
      rw [rs_nil]
      have := congrArg (fun f => f.at_ 0) h
      simpa [ps_at] using this
    have ht : ps P = 0 := PS.ext fun k => by
      have := congrArg (fun f => f.at_ (k + 1)) h
      simpa [ps_at] using this
    show ev x r + y * ev2 x y P = 0
    rw [ev2_zero ht, ev_congr hx]
    show (0 : Rat) + y * 0 = 0
    grind
theorem ev2_congr {x y : Rat} : ∀ {P Q : Pol}, ps P = ps Q → ev2 x y P = ev2 x y Q
  | [], Q, h => by rw [ps_nil] at h; rw [ev2_zero h.symm]; rfl
  | r :: P, [], h => by rw [ps_nil] at h; rw [ev2_zero h]; rfl
  | r :: P, s :: Q, h => by
    have hx : rs r = rs s := by
      have := congrArg (fun f => f.at_ 0) h
      simpa [ps_at] using this
    have ht : ps P = ps Q := PS.ext fun k => by
      have := congrArg (fun f => f.at_ (k + 1)) h
      simpa [ps_at] using this
    show ev x r + y * ev2 x y P = ev x s + y * ev2 x y Q
    rw [ev2_congr ht, ev_congr hx]
theorem ev2_trim {x y : Rat} {P : Pol} : ev2 x y (trimP P) = ev2 x y P := ev2_congr (ps_trim P)
theorem ev2_addPP {x y : Rat} (P Q : Pol) : ev2 x y (addPP P Q) = ev2 x y P + ev2 x y Q := by
  induction P generalizing Q with
  | nil => show ev2 x y Q = 0 + ev2 x y Q; grind
  | cons r P ih =>
    cases Q with
    | nil => show ev2 x y (r :: P) = ev2 x y (r :: P) + 0; grind
    | cons s Q =>
      show ev x (trim (addP r s)) + y * ev2 x y (addPP P Q) = (ev x r + y * ev2 x y P) + (ev x s + y * ev2 x y Q)
      rw [ih, ev_trim, ev_addP]; grind
theorem ev2_sumPP {x y : Rat} (P Q : Pol) : ev2 x y (sumPP P Q) = ev2 x y P + ev2 x y Q := by unfold sumPP; rw [ev2_trim, ev2_addPP]
theorem ev2_set {x y : Rat} {l : Pol} {k : Nat} {v : List Int} (h : k < l.length) : ev2 x y (l.set k v) = ev2 x y l + y ^ k * (ev x v - ev x (l.getD k [])) := by
  induction l generalizing k with
  | nil => cases h
  | cons r P ih =>
    cases k with
    | zero =>
      show ev x v + y * ev2 x y P = (ev x r + y * ev2 x y P) + y ^ 0 * (ev x v - ev x r)
      grind
    | succ k =>
      show ev x r + y * ev2 x y (P.set k v) = (ev x r + y * ev2 x y P) + y ^ (k + 1) * (ev x v - ev x (P.getD k []))
      rw [ih (by simpa using h)]
      grind
theorem ev2_addAtP {x y : Rat} {c : Pol} {k : Nat} {v : List Int} (h : k < c.length) : ev2 x y (addAtP c k v) = ev2 x y c + y ^ k * ev x v := by
  unfold addAtP
  rw [ev2_set h, ev_trim, ev_addP]; grind
theorem ev2_innerP {x y : Rat} {i : Nat} {r : List Int} : ∀ (Q : Pol) (j : Nat) (c : Pol), i + j + Q.length ≤ c.length → ev2 x y (innerP i r j Q c) = ev2 x y c + y ^ (i + j) * ev x r * ev2 x y Q
  | [], j, c, _ => by show ev2 x y c = ev2 x y c + y ^ (i + j) * ev x r * 0; grind
  | s :: Q, j, c, h => by
    rw [List.length_cons] at h
    unfold innerP
    rw [ev2_innerP Q (j + 1) _ (by rw [addAtP_len]; omega), ev2_addAtP (by omega), ev_mulP, show i + (j + 1) = (i + j) + 1 by omega]
    show _ = ev2 x y c + y ^ (i + j) * ev x r * (ev x s + y * ev2 x y Q)
    grind
theorem ev2_outerP {x y : Rat} {Q : Pol} : ∀ (P : Pol) (i : Nat) (c : Pol), (P = [] ∨ i + P.length + Q.length ≤ c.length + 1) → ev2 x y (outerP Q i P c) = ev2 x y c + y ^ i * ev2 x y P * ev2 x y Q
  | [], i, c, _ => by show ev2 x y c = ev2 x y c + y ^ i * 0 * ev2 x y Q; grind
  | r :: P, i, c, h => by
    have h : i + (P.length + 1) + Q.length ≤ c.length + 1 := by
      rcases h with h | h
      · cases h
      · simpa using h
    unfold outerP
    rw [ev2_outerP P (i + 1) _ (by right; rw [innerP_len]; omega), ev2_innerP Q 0 c (by omega)]
    show _ = ev2 x y c + y ^ i * (ev x r + y * ev2 x y P) * ev2 x y Q
    grind
theorem ev2_zeros {x y : Rat} : ∀ n : Nat, ev2 x y (List.replicate n []) = 0
  | 0 => rfl
  | n + 1 => by
    rw [List.replicate_succ]
    show (0 : Rat) + y * ev2 x y (List.replicate n []) = 0
    rw [ev2_zeros n]; grind
theorem ev2_mulPP {x y : Rat} (P Q : Pol) : ev2 x y (mulPP P Q) = ev2 x y P * ev2 x y Q := by
  unfold mulPP
  rw [ev2_trim, ev2_outerP _ _ _ (by right; rw [List.length_replicate]; omega), ev2_zeros]
  grind
/-- the greatest length of a row -/
def wid (P : Pol) : Nat := P.foldl (fun m r => max m r.length) 0
theorem wid_le {P : Pol} {r : List Int} (h : r ∈ P) : r.length ≤ wid P := by
  have gen : ∀ (P : Pol) (m : Nat), (m ≤ P.foldl (fun m r => max m r.length) m) ∧ (r ∈ P → r.length ≤ P.foldl (fun m r => max m r.length) m) := by
    intro P
    induction P with
    | nil => intro m; exact ⟨Nat.le_refl _, fun h => by cases h⟩
    | cons s P ih =>
      intro m
      obtain ⟨h1, h2⟩ := ih (max m s.length)
      refine ⟨by rw [List.foldl_cons]; omega, fun h => ?_⟩
      rw [List.foldl_cons]
      rcases List.mem_cons.mp h with rfl | h
      · omega
      · exact h2 h
  exact (gen P 0).2 h
theorem wid_most {P : Pol} {n : Nat} (h : ∀ r ∈ P, r.length ≤ n) : wid P ≤ n := by
  have gen : ∀ (P : Pol) (m : Nat), (∀ r ∈ P, r.length ≤ n) → m ≤ n → P.foldl (fun m r => max m r.length) m ≤ n := by
    intro P
    induction P with
    | nil => intro m _ h; exact h
    | cons s P ih =>
      intro m h hm
      rw [List.foldl_cons]
      exact ih _ (fun r hr => h r (List.mem_cons_of_mem _ hr)) (by have := h s List.mem_cons_self; omega)
  exact gen P 0 h (Nat.zero_le _)
def col (P : Pol) (j : Nat) : List Int := P.map fun r => r.getD j 0
theorem col_getD (P : Pol) (j k : Nat) : (col P j).getD k 0 = (P.getD k []).getD j 0 := by
  unfold col
  rw [List.getD_eq_getElem?_getD, List.getElem?_map, List.getD_eq_getElem?_getD (l := P)]
  cases P[k]? with
  | none => rfl
  | some r => rfl
/-- letters exchanged -/
def exch (P : Pol) : Pol := trimP ((List.range (wid P)).map fun j => trim (col P j))
theorem exch_TP (P : Pol) : TP (exch P) := TR.trimP fun r hr => by
  obtain ⟨j, _, rfl⟩ := List.mem_map.mp hr
  exact trim_idem _
theorem ps_exch {P : Pol} {j k : Nat} : ((ps (exch P)).at_ j).at_ k = ((ps P).at_ k).at_ j := by
  unfold exch
  rw [ps_trim, ps_at, ps_at]
  by_cases hj : j < wid P
  · have e : ((List.range (wid P)).map fun j => trim (col P j)).getD j [] = trim (col P j) := by
      rw [List.getD_eq_getElem?_getD, List.getElem?_map, List.getElem?_range hj]; rfl
    rw [e, rs_trim, rs_at, rs_at, col_getD]
  · have e : ((List.range (wid P)).map fun j => trim (col P j)).getD j [] = [] := by
      rw [List.getD_eq_getElem?_getD, List.getElem?_eq_none (by rw [List.length_map, List.length_range]; omega)]; rfl
    rw [e, rs_at, rs_at]
    have : (P.getD k []).length ≤ j := by
      rw [List.getD_eq_getElem?_getD]
      by_cases hk : k < P.length
      · rw [List.getElem?_eq_getElem hk]
        have := wid_le (List.getElem_mem hk)
        show P[k].length ≤ j
        omega
      · rw [List.getElem?_eq_none (by omega)]; simp
    rw [List.getD_eq_getElem?_getD (l := P.getD k []), List.getElem?_eq_none this]
    simp
theorem exch_exch {P : Pol} (h : TP P) : exch (exch P) = P := pol_ext (exch_TP _) h (PS.ext fun j => PS.ext fun k => by rw [ps_exch, ps_exch])
def consCol : List Int → Pol → Pol
  | [], Q => Q.map (0 :: ·)
  | r :: a, [] => [r] :: consCol a []
  | r :: a, q :: Q => (r :: q) :: consCol a Q
theorem ev2_consCol {x y : Rat} : ∀ (a : List Int) (Q : Pol), ev2 y x (consCol a Q) = ev x a + y * ev2 y x Q
  | [], [] => by show (0 : Rat) = 0 + y * 0; grind
  | [], q :: Q => by
    have := ev2_consCol (x := x) (y := y) [] Q
    show ((0 : Int) : Rat) + y * ev y q + x * ev2 y x (consCol [] Q) = 0 + y * (ev y q + x * ev2 y x Q)
    rw [this, show ((0 : Int) : Rat) = 0 from rfl, show ev x [] = 0 from rfl]; grind
  | r :: a, [] => by
    have := ev2_consCol (x := x) (y := y) a []
    show ((r : Rat) + y * 0) + x * ev2 y x (consCol a []) = ((r : Rat) + x * ev x a) + y * 0
    rw [this, show ev2 y x [] = 0 from rfl]; grind
  | r :: a, q :: Q => by
    have := ev2_consCol (x := x) (y := y) a Q
    show ((r : Rat) + y * ev y q) + x * ev2 y x (consCol a Q) = ((r : Rat) + x * ev x a) + y * (ev y q + x * ev2 y x Q)
    rw [this]; grind
theorem consCol_at : ∀ (a : List Int) (Q : Pol) (j : Nat), ((consCol a Q).getD j []).getD 0 0 = a.getD j 0 ∧ ∀ k, ((consCol a Q).getD j []).getD (k + 1) 0 = (Q.getD j []).getD k 0
  | [], Q, j => by
    show ((Q.map (0 :: ·)).getD j []).getD 0 0 = 0 ∧ ∀ k, ((Q.map (0 :: ·)).getD j []).getD (k + 1) 0 = (Q.getD j []).getD k 0
    rw [List.getD_eq_getElem?_getD (l := Q.map (0 :: ·)), List.getElem?_map, List.getD_eq_getElem?_getD (l := Q)]
    cases Q[j]? with
    | none => exact ⟨rfl, fun k => rfl⟩
    | some r => exact ⟨rfl, fun k => rfl⟩
  | r :: a, [], 0 => ⟨rfl, fun k => rfl⟩
  | r :: a, [], j + 1 => consCol_at a [] j
  | r :: a, q :: Q, 0 => ⟨rfl, fun k => rfl⟩
  | r :: a, q :: Q, j + 1 => consCol_at a Q j
def exch' : Pol → Pol
  | [] => []
  | r :: P => consCol r (exch' P)
theorem exch'_at : ∀ (P : Pol) (j k : Nat), ((exch' P).getD j []).getD k 0 = (P.getD k []).getD j 0
  | [], j, k => by simp [exch']
  | r :: P, j, 0 => (consCol_at r (exch' P) j).1
  | r :: P, j, k + 1 => ((consCol_at r (exch' P) j).2 k).trans (exch'_at P j k)
theorem ev2_exch {x y : Rat} (P : Pol) : ev2 y x (exch P) = ev2 x y P := by
  have e : ps (exch P) = ps (exch' P) := PS.ext fun j => PS.ext fun k => by
    rw [ps_exch, ps_at, ps_at, rs_at, rs_at, exch'_at]
  rw [ev2_congr e]
  clear e
  induction P with
  | nil => rfl
  | cons r P ih =>
    show ev2 y x (consCol r (exch' P)) = ev x r + y * ev2 x y P
    rw [ev2_consCol, ih]
/-- bounds -/
def PB (M : Nat) (P : Pol) : Prop := ∀ r ∈ P, BM M r
def PL (n : Nat) (P : Pol) : Prop := ∀ r ∈ P, r.length ≤ n
theorem BM.up {M N : Nat} {a : List Int} (h : BM M a) (hM : M ≤ N) : BM N a := fun x hx => Nat.le_trans (h x hx) hM
theorem BM.trim {M : Nat} {a : List Int} (h : BM M a) : BM M (LW.trim a) := fun x hx => h x (trim_mem hx)
theorem BM.addP {A B : Nat} {a b : List Int} (ha : BM A a) (hb : BM B b) : BM (A + B) (LW.addP a b) := by
  intro x hx
  obtain ⟨k, hk, e⟩ := List.getElem_of_mem hx
  have := addP_get a b k (by rwa [addP_len] at hk)
  rw [List.getElem?_eq_getElem hk, e] at this
  cases this
  have h1 := ha.getD k
  have h2 := hb.getD k
  have := Int.natAbs_add_le (a.getD k 0) (b.getD k 0)
  omega
theorem PB.up {M N : Nat} {P : Pol} (h : PB M P) (hM : M ≤ N) : PB N P := fun r hr => (h r hr).up hM
theorem PB.trimP {M : Nat} {P : Pol} (h : PB M P) : PB M (LW.trimP P) := fun r hr => h r (trimP_mem hr)
theorem PL.trimP {n : Nat} {P : Pol} (h : PL n P) : PL n (LW.trimP P) := fun r hr => h r (trimP_mem hr)
theorem PL.up {n m : Nat} {P : Pol} (h : PL n P) (hm : n ≤ m) : PL m P := fun r hr => Nat.le_trans (h r hr) hm
theorem PB.getD {M : Nat} {P : Pol} (h : PB M P) (k : Nat) : BM M (P.getD k []) := by
  rw [List.getD_eq_getElem?_getD]
  by_cases hk : k < P.length
  · rw [List.getElem?_eq_getElem hk]
    exact h _ (List.getElem_mem hk)
  · rw [List.getElem?_eq_none (by omega)]
    intro x hx; cases hx
theorem PL.getD {n : Nat} {P : Pol} (h : PL n P) (k : Nat) : (P.getD k []).length ≤ n := by
  rw [List.getD_eq_getElem?_getD]
  by_cases hk : k < P.length
  · rw [List.getElem?_eq_getElem hk]
    exact h _ (List.getElem_mem hk)
  · rw [List.getElem?_eq_none (by omega)]
    simp
theorem PB.addPP {A B : Nat} : ∀ {P Q : Pol}, PB A P → PB B Q → PB (A + B) (LW.addPP P Q)
  | [], Q, _, hQ => hQ.up (by omega)
  | x :: xs, [], hP, _ => hP.up (by omega)
  | x :: xs, y :: ys, hP, hQ => fun r hr => by
    rcases List.mem_cons.mp hr with rfl | hr
    · exact ((hP x List.mem_cons_self).addP (hQ y List.mem_cons_self)).trim
    · exact PB.addPP (fun r hr => hP r (List.mem_cons_of_mem _ hr)) (fun r hr => hQ r (List.mem_cons_of_mem _ hr)) r hr
theorem PL.addPP {n : Nat} : ∀ {P Q : Pol}, PL n P → PL n Q → PL n (LW.addPP P Q)
  | [], Q, _, hQ => hQ
  | x :: xs, [], hP, _ => hP
  | x :: xs, y :: ys, hP, hQ => fun r hr => by
    rcases List.mem_cons.mp hr with rfl | hr
    · have h1 := trim_len (addP x y)
      have h2 := hP x List.mem_cons_self
      have h3 := hQ y List.mem_cons_self
      rw [addP_len] at h1
      omega
    · exact PL.addPP (fun r hr => hP r (List.mem_cons_of_mem _ hr)) (fun r hr => hQ r (List.mem_cons_of_mem _ hr)) r hr
theorem PB.addAtP {M L : Nat} {c : Pol} {k : Nat} {v : List Int} (h : PB M c) (hv : BM L v) : PB (M + L) (LW.addAtP c k v) := fun r hr => by
  unfold LW.addAtP at hr
  rcases List.mem_or_eq_of_mem_set hr with hr | rfl
  · exact (h r hr).up (by omega)
  · exact ((h.getD k).addP hv).trim
theorem PL.addAtP {n : Nat} {c : Pol} {k : Nat} {v : List Int} (h : PL n c) (hv : v.length ≤ n) : PL n (LW.addAtP c k v) := fun r hr => by
  unfold LW.addAtP at hr
  rcases List.mem_or_eq_of_mem_set hr with hr | rfl
  · exact h r hr
  · have h1 := trim_len (addP (c.getD k []) v)
    have h2 := h.getD k
    rw [addP_len] at h1
    omega
theorem PB.innerP {i : Nat} {x : List Int} {M A B n : Nat} (hx : BM A x) (lx : x.length ≤ n) : ∀ {ys : Pol} {j : Nat} {c : Pol}, PB B ys → PL n ys → PB M c → PB (M + ys.length * (n * (n * (A * B)))) (LW.innerP i x j ys c)
  | [], j, c, _, _, h => by simpa [LW.innerP] using h
  | y :: ys, j, c, hy, ly, h => by
    unfold LW.innerP
    have hxy := hx.mulP (hy y List.mem_cons_self)
    have hl : x.length * (y.length * (A * B)) ≤ n * (n * (A * B)) := Nat.mul_le_mul lx (Nat.mul_le_mul_right _ (ly y List.mem_cons_self))
    refine (PB.innerP (i := i) (j := j + 1) hx lx (fun z hz => hy z (List.mem_cons_of_mem _ hz)) (fun z hz => ly z (List.mem_cons_of_mem _ hz)) (h.addAtP (k := i + j) (hxy.up hl))).up ?_
    rw [List.length_cons, Nat.succ_mul]
    omega
theorem PB.outerP {b : Pol} {M A B n : Nat} (hb : PB B b) (lb : PL n b) : ∀ {xs : Pol} {i : Nat} {c : Pol}, PB A xs → PL n xs → PB M c → PB (M + xs.length * (b.length * (n * (n * (A * B))))) (LW.outerP b i xs c)
  | [], i, c, _, _, h => by simpa [LW.outerP] using h
  | x :: xs, i, c, ha, la, h => by
    unfold LW.outerP
    refine (PB.outerP hb lb (i := i + 1) (fun z hz => ha z (List.mem_cons_of_mem _ hz)) (fun z hz => la z (List.mem_cons_of_mem _ hz)) (PB.innerP (i := i) (j := 0) (ha x List.mem_cons_self) (la x List.mem_cons_self) hb lb h)).up ?_
    rw [List.length_cons, Nat.succ_mul]
    omega
theorem PB.mulPP {P Q : Pol} {A B n : Nat} (hP : PB A P) (hQ : PB B Q) (lP : PL n P) (lQ : PL n Q) : PB (P.length * (Q.length * (n * (n * (A * B))))) (LW.mulPP P Q) := by
  have z : PB 0 (List.replicate (P.length + Q.length) []) := fun r hr => by rw [List.eq_of_mem_replicate hr]; intro x hx; cases hx
  have := (PB.outerP (i := 0) hQ lQ hP lP z).trimP
  rw [Nat.zero_add] at this
  exact this
theorem PL.innerP {i : Nat} {x : List Int} {n m : Nat} (lx : x.length ≤ n) (hm : n + n ≤ m + 1) : ∀ {ys : Pol} {j : Nat} {c : Pol}, PL n ys → PL m c → PL m (LW.innerP i x j ys c)
  | [], j, c, _, h => h
  | y :: ys, j, c, ly, h => by
    unfold LW.innerP
    have := mulP_len x y
    have := ly y List.mem_cons_self
    exact PL.innerP lx hm (fun z hz => ly z (List.mem_cons_of_mem _ hz)) (h.addAtP (by omega))
theorem PL.outerP {b : Pol} {n m : Nat} (lb : PL n b) (hm : n + n ≤ m + 1) : ∀ {xs : Pol} {i : Nat} {c : Pol}, PL n xs → PL m c → PL m (LW.outerP b i xs c)
  | [], i, c, _, h => h
  | x :: xs, i, c, la, h => by
    unfold LW.outerP
    exact PL.outerP lb hm (fun z hz => la z (List.mem_cons_of_mem _ hz)) (PL.innerP (la x List.mem_cons_self) hm lb h)
theorem PL.mulPP {P Q : Pol} {n m : Nat} (lP : PL n P) (lQ : PL n Q) (hm : n + n ≤ m + 1) : PL m (LW.mulPP P Q) := by
  have z : PL m (List.replicate (P.length + Q.length) []) := fun r hr => by rw [List.eq_of_mem_replicate hr]; simp
  exact (PL.outerP (i := 0) lQ hm lP z).trimP
theorem mulPP_len (P Q : Pol) : (mulPP P Q).length ≤ P.length + Q.length := by
  unfold mulPP
  have := trimP_len (outerP Q 0 P (List.replicate (P.length + Q.length) []))
  rwa [outerP_len, List.length_replicate] at this
theorem col_BM {P : Pol} {M : Nat} (h : PB M P) (j : Nat) : BM M (col P j) := fun x hx => by
  obtain ⟨r, hr, rfl⟩ := List.mem_map.mp hx
  exact (h r hr).getD j
theorem PB.exch {P : Pol} {M : Nat} (h : PB M P) : PB M (LW.exch P) := PB.trimP fun r hr => by
  obtain ⟨j, _, rfl⟩ := List.mem_map.mp hr
  exact (col_BM h j).trim
theorem PL.exch {P : Pol} {n : Nat} (h : P.length ≤ n) : PL n (LW.exch P) := PL.trimP fun r hr => by
  obtain ⟨j, _, rfl⟩ := List.mem_map.mp hr
  have := trim_len (col P j)
  unfold col at this
  rw [List.length_map] at this
  exact Nat.le_trans this h
theorem exch_len {P : Pol} {n : Nat} (h : PL n P) : (exch P).length ≤ n := by
  have := trimP_len ((List.range (wid P)).map fun j => trim (col P j))
  rw [List.length_map, List.length_range] at this
  exact Nat.le_trans this (wid_most h)
/-- the derivative in y -/
def ledF : Nat → Pol → Pol
  | _, [] => []
  | k, r :: P => trim (r.map ((k : Int) * ·)) :: ledF (k + 1) P
def led (P : Pol) : Pol := trimP (ledF 1 (P.drop 1))
theorem ledF_len : ∀ (k : Nat) (P : Pol), (ledF k P).length = P.length
  | _, [] => rfl
  | k, r :: P => by simp [ledF, ledF_len (k + 1) P]
theorem ledF_get : ∀ (i : Nat) (P : Pol) (k : Nat), (ledF i P)[k]? = P[k]?.map fun r => trim (r.map (((i + k : Nat) : Int) * ·))
  | i, [], k => by simp [ledF]
  | i, r :: P, 0 => by simp [ledF]
  | i, r :: P, k + 1 => by
    have := ledF_get (i + 1) P k
    simp only [ledF, List.getElem?_cons_succ]
    rw [this, show i + 1 + k = i + (k + 1) by omega]
theorem led_TP (P : Pol) : TP (led P) := TR.trimP fun r hr => by
  obtain ⟨k, hk, e⟩ := List.getElem_of_mem hr
  have := ledF_get 1 (P.drop 1) k
  rw [List.getElem?_eq_getElem hk, e] at this
  rw [ledF_len] at hk
  rw [List.getElem?_eq_getElem hk] at this
  cases this
  exact trim_idem _
theorem PB.led {P : Pol} {M N : Nat} (h : PB M P) (hl : P.length ≤ N) : PB (N * M) (LW.led P) := PB.trimP fun r hr => by
  obtain ⟨k, hk, e⟩ := List.getElem_of_mem hr
  have := ledF_get 1 (P.drop 1) k
  rw [List.getElem?_eq_getElem hk, e] at this
  rw [ledF_len] at hk
  rw [List.getElem?_eq_getElem hk] at this
  cases this
  refine BM.trim fun x hx => ?_
  obtain ⟨y, hy, rfl⟩ := List.mem_map.mp hx
  rw [List.length_drop] at hk
  show (((1 + k : Nat) : Int) * y).natAbs ≤ N * M
  rw [Int.natAbs_mul]
  exact Nat.mul_le_mul (by omega) (h _ (List.mem_of_mem_drop (List.getElem_mem _)) y hy)
theorem PL.led {P : Pol} {n : Nat} (h : PL n P) : PL n (LW.led P) := PL.trimP fun r hr => by
  obtain ⟨k, hk, e⟩ := List.getElem_of_mem hr
  have := ledF_get 1 (P.drop 1) k
  rw [List.getElem?_eq_getElem hk, e] at this
  rw [ledF_len] at hk
  rw [List.getElem?_eq_getElem hk] at this
  cases this
  have := trim_len ((P.drop 1)[k].map (((1 + k : Nat) : Int) * ·))
  rw [List.length_map] at this
  exact Nat.le_trans this (h _ (List.mem_of_mem_drop (List.getElem_mem _)))
theorem led_len (P : Pol) : (led P).length ≤ P.length := by
  unfold led
  have := trimP_len (ledF 1 (P.drop 1))
  rw [ledF_len, List.length_drop] at this
  omega
theorem RB.ev2 {kx ky m n : Nat} {x y : Rat} (hx : RB kx x) (hy : RB ky y) : ∀ {P : Pol}, PB (2 ^ m) P → PL n P → RB (P.length * (n * (kx + m + 1) + ky + 1)) (LW.ev2 x y P)
  | [], _, _ => by simpa [LW.ev2] using RB.zero
  | r :: P, h, l => by
    have h1 := RB.ev2 hx hy (P := P) (fun s hs => h s (List.mem_cons_of_mem _ hs)) (fun s hs => l s (List.mem_cons_of_mem _ hs))
    have h2 := RB.ev hx (h r List.mem_cons_self)
    have h3 : r.length * (kx + m + 1) ≤ n * (kx + m + 1) := Nat.mul_le_mul_right _ (l r List.mem_cons_self)
    refine (h2.add (hy.mul h1)).up ?_
    rw [List.length_cons, Nat.succ_mul]
    omega
end LW
/-! MR6: the least number under fractions. -/
namespace LW
/-- the least whole number that makes fractions whole, step by step -/
def und (qs : List Rat) : Nat := qs.foldl (fun f q => f / Nat.gcd f q.den * q.den) 1
theorem und_snoc (qs : List Rat) (q : Rat) : und (qs ++ [q]) = und qs / Nat.gcd (und qs) q.den * q.den := by
  unfold und
  rw [List.foldl_append]
  rfl
theorem und_le {K : Nat} : ∀ (qs : List Rat), (∀ q ∈ qs, RB K q) → und qs ≤ 2 ^ (qs.length * K) := by
  have gen : ∀ (n : Nat) (qs : List Rat), qs.length = n → (∀ q ∈ qs, RB K q) → und qs ≤ 2 ^ (qs.length * K) := by
    intro n
    induction n with
    | zero => intro qs h _; rw [List.length_eq_zero_iff.mp h]; show 1 ≤ 2 ^ (0 * K); rw [Nat.zero_mul]; exact Nat.le_refl _
    | succ n ih =>
      intro qs h hq
      rcases List.eq_nil_or_concat qs with e | ⟨l, z, e⟩
      · subst e; simp at h
      · rw [List.concat_eq_append] at e
        subst e
        have h1 := ih l (by simpa using h) fun q hq' => hq q (List.mem_append_left _ hq')
        have h2 := (hq z (by simp)).2
        rw [und_snoc, List.length_append, List.length_singleton, Nat.succ_mul, Nat.pow_add]
        exact Nat.mul_le_mul (Nat.le_trans (Nat.div_le_self _ _) h1) h2
  exact fun qs => gen _ qs rfl
theorem und_law (f e : Nat) : f / Nat.gcd f e * e = f * e / Nat.gcd f e := by
  obtain ⟨c, hc⟩ := Nat.gcd_dvd_left f e
  by_cases h0 : Nat.gcd f e = 0
  · rw [h0]; simp
  · have hp : 0 < Nat.gcd f e := Nat.pos_of_ne_zero h0
    rw [Nat.mul_comm f e, Nat.mul_div_assoc e (Nat.gcd_dvd_left f e), Nat.mul_comm]
def vals (P : Pol) (x : Rat) : List Rat := P.map (ev x)
/-- the row of the values, cleared -/
def clr (P : Pol) (x : Rat) : List Int := (vals P x).map fun q => q.num * ((und (vals P x) : Int) / (q.den : Int))
theorem vals_RB {P : Pol} {x : Rat} {k m n : Nat} (hx : RB k x) (hP : PB (2 ^ m) P) (hl : PL n P) : ∀ q ∈ vals P x, RB (n * (k + m + 1)) q := by
  intro q hq
  obtain ⟨r, hr, rfl⟩ := List.mem_map.mp hq
  exact (hx.ev (hP r hr)).up (Nat.mul_le_mul_right _ (hl r hr))
theorem clr_BM {P : Pol} {x : Rat} {K : Nat} (h : ∀ q ∈ vals P x, RB K q) : BM (2 ^ (K + P.length * K)) (clr P x) := by
  intro y hy
  obtain ⟨q, hq, rfl⟩ := List.mem_map.mp hy
  have h1 := und_le _ h
  unfold vals at h1
  rw [List.length_map] at h1
  have h2 := (h q hq).1
  have h3 : ((und (vals P x) : Int) / (q.den : Int)).natAbs ≤ und (vals P x) := by
    have := Int.natAbs_ediv_le_natAbs (und (vals P x) : Int) (q.den : Int)
    simpa using this
  show (q.num * ((und (vals P x) : Int) / (q.den : Int))).natAbs ≤ _
  rw [Int.natAbs_mul, Nat.pow_add]
  exact Nat.mul_le_mul h2 (Nat.le_trans h3 h1)
end LW
/-! MR7: a fraction put for a letter, times a power of its low. -/
namespace LW
theorem snoc_all {A : Type} {C : List A → Prop} (h0 : C []) (h1 : ∀ l z, C l → C (l ++ [z])) : ∀ l, C l := by
  have gen : ∀ (n : Nat) (l : List A), l.length = n → C l := by
    intro n
    induction n with
    | zero => intro l h; rw [List.length_eq_zero_iff.mp h]; exact h0
    | succ n ih =>
      intro l h
      rcases List.eq_nil_or_concat l with e | ⟨l', z, e⟩
      · subst e; simp at h
      · rw [List.concat_eq_append] at e
        subst e
        exact h1 _ _ (ih _ (by simpa using h))
  exact fun l => gen _ l rfl
/-- from the last: the number and the low's power -/
def hs (t l : Int) : List Int → Int × Int
  | [] => (0, 1)
  | x :: r => ((hs t l r).1 * t + x * (hs t l r).2, (hs t l r).2 * l)
def sc (t l : Int) (a : List Int) : Int := (hs t l a).1
theorem hs_two {t l : Int} : ∀ a : List Int, (hs t l a).2 = l ^ a.length
  | [] => by simp [hs]
  | x :: r => by
    show (hs t l r).2 * l = l ^ (r.length + 1)
    rw [hs_two r, Int.pow_succ]
/-- the program's sum, from the place k -/
def sput (t l : Int) (d : Nat) : Nat → List Int → Int
  | _, [] => 0
  | k, x :: r => x * t ^ k * l ^ (d - k) + sput t l d (k + 1) r
theorem sput_hs {t l : Int} {d : Nat} : ∀ (a : List Int) (k : Nat), k + a.length ≤ d + 1 → sput t l d k a = (hs t l a).1 * t ^ k * l ^ (d + 1 - k - a.length)
  | [], k, _ => by simp [sput, hs]
  | x :: r, k, h => by
    rw [List.length_cons] at h
    have ih := sput_hs (t := t) (l := l) (d := d) r (k + 1) (by omega)
    show x * t ^ k * l ^ (d - k) + sput t l d (k + 1) r = ((hs t l r).1 * t + x * (hs t l r).2) * t ^ k * l ^ (d + 1 - k - (r.length + 1))
    rw [ih, hs_two, Int.pow_succ, show d + 1 - (k + 1) - r.length = d + 1 - k - (r.length + 1) by omega, show d - k = r.length + (d + 1 - k - (r.length + 1)) by omega, Int.pow_add]
    have e : r.length + (d + 1 - k - (r.length + 1)) + 1 - (r.length + 1) = d + 1 - k - (r.length + 1) := by omega
    generalize l ^ (d + 1 - k - (r.length + 1)) = q
    generalize l ^ r.length = p
    generalize t ^ k = s
    grind
def pad (n : Nat) (a : List Int) : List Int := a ++ List.replicate (n - a.length) 0
theorem hs_zeros {t l : Int} : ∀ m : Nat, hs t l (List.replicate m 0) = (0, l ^ m)
  | 0 => by simp [hs]
  | m + 1 => by
    rw [List.replicate_succ]
    show ((hs t l (List.replicate m 0)).1 * t + 0 * (hs t l (List.replicate m 0)).2, (hs t l (List.replicate m 0)).2 * l) = _
    rw [hs_zeros m]
    simp [Int.pow_succ]
theorem hs_app0 {t l : Int} (m : Nat) : ∀ a : List Int, (hs t l (a ++ List.replicate m 0)).1 = (hs t l a).1 * l ^ m
  | [] => by
    rw [List.nil_append, hs_zeros]
    simp [hs]
  | x :: r => by
    show (hs t l (r ++ List.replicate m 0)).1 * t + x * (hs t l (r ++ List.replicate m 0)).2 = ((hs t l r).1 * t + x * (hs t l r).2) * l ^ m
    rw [hs_app0 m r, hs_two, hs_two, List.length_append, List.length_replicate, Int.pow_add]
    grind
theorem sput_pad {t l : Int} {d : Nat} {a : List Int} (h : a.length ≤ d + 1) : sput t l d 0 a = sc t l (pad (d + 1) a) := by
  rw [sput_hs a 0 (by omega)]
  unfold sc pad
  rw [hs_app0]
  simp
theorem pad_trim {n : Nat} {a : List Int} (h : a.length = n) : pad n (trim a) = a := by
  subst h
  induction a using snoc_all with
  | h0 => rfl
  | h1 l z ih =>
    rw [trim_snoc]
    by_cases hz : z = 0
    · rw [if_pos hz]
      have hl := trim_len l
      have : pad (l ++ [z]).length (trim l) = pad l.length (trim l) ++ [0] := by
        unfold pad
        rw [List.length_append, List.length_singleton, List.append_assoc, show l.length + 1 - (trim l).length = (l.length - (trim l).length) + 1 by omega, List.replicate_succ']
      rw [this, ih, hz]
    · rw [if_neg hz]
      unfold pad
      simp
/-- a number as a row -/
def one (v : Int) : List Int := if v = 0 then [] else [v]
theorem trim_one (v : Int) : trim [v] = one v := by
  have := trim_snoc [] v
  rw [List.nil_append] at this
  rw [this]
  unfold one
  rfl
theorem trimP_one (vs : List Int) : trimP (vs.map fun v => trim [v]) = (trim vs).map one := by
  induction vs using snoc_all with
  | h0 => rfl
  | h1 l z ih =>
    rw [List.map_append, List.map_singleton, trimP_snoc, trim_snoc, trim_one]
    by_cases hz : z = 0
    · rw [if_pos hz, if_pos (by rw [hz]; rfl)]
      exact ih
    · rw [if_neg hz, if_neg (by unfold one; rw [if_neg hz]; simp), List.map_append, List.map_singleton]
      congr 1
theorem wid_get {P : Pol} (h : 0 < wid P) : ∃ r ∈ P, r.length = wid P := by
  have gen : ∀ (P : Pol) (m : Nat), P.foldl (fun m r => max m r.length) m = m ∨ ∃ r ∈ P, r.length = P.foldl (fun m r => max m r.length) m := by
    intro P
    induction P with
    | nil => intro m; exact .inl rfl
    | cons r P ih =>
      intro m
      rw [List.foldl_cons]
      rcases ih (max m r.length) with e | ⟨s, hs, e⟩
      · by_cases hm : r.length ≤ m
        · exact .inl (by rw [e]; omega)
        · exact .inr ⟨r, List.mem_cons_self, by rw [e]; omega⟩
      · exact .inr ⟨s, List.mem_cons_of_mem _ hs, e⟩
  rcases gen P 0 with e | q
  · unfold wid at h
    omega
  · exact q
theorem trim_nil {a : List Int} (h : trim a = []) : ∀ x ∈ a, x = 0 := by
  induction a using snoc_all with
  | h0 => intro x hx; cases hx
  | h1 l z ih =>
    rw [trim_snoc] at h
    by_cases hz : z = 0
    · rw [if_pos hz] at h
      intro x hx
      rcases List.mem_append.mp hx with hx | hx
      · exact ih h x hx
      · rw [List.mem_singleton.mp hx, hz]
    · rw [if_neg hz] at h
      simp at h
theorem last_ne {a : List Int} (h : trim a = a) (hn : 0 < a.length) : a.getD (a.length - 1) 0 ≠ 0 := by
  rcases List.eq_nil_or_concat a with e | ⟨l, z, e⟩
  · subst e; simp at hn
  · rw [List.concat_eq_append] at e
    subst e
    intro hz
    have hz : z = 0 := by simpa using hz
    rw [trim_snoc, if_pos hz] at h
    have h1 := trim_len l
    have h2 : (l ++ [z]).length ≤ l.length := by rw [← h]; exact h1
    simp at h2
    omega
theorem exch_rows {P : Pol} (h : TR P) : exch P = (List.range (wid P)).map fun j => trim (col P j) := by
  unfold exch
  cases hw : wid P with
  | zero => rfl
  | succ n =>
    rw [List.range_succ, List.map_append, List.map_singleton]
    refine trimP_last _ _ fun hz => ?_
    obtain ⟨r, hr, hl⟩ := wid_get (P := P) (by omega)
    have h1 := last_ne (h r hr) (by omega)
    refine h1 (trim_nil hz _ ?_)
    unfold col
    refine List.mem_map.mpr ⟨r, hr, ?_⟩
    rw [hl, hw]
    rfl
theorem exch_length {P : Pol} (h : TR P) : (exch P).length = wid P := by rw [exch_rows h, List.length_map, List.length_range]
theorem wid_exch {P : Pol} (h : TP P) : wid (exch P) = P.length := by
  have := exch_length (P := exch P) (exch_TP P).2
  rw [exch_exch h] at this
  exact this.symm
/-- put for x -/
def putX (t l : Int) (P : Pol) : Pol := (trim (P.map fun r => sc t l (pad (wid P) r))).map one
/-- put for y -/
def putR (t l : Int) (P : Pol) : List Int := trim ((List.range (wid P)).map fun j => sc t l (col P j))
def rowP1 (a : List Int) : Pol := if a = [] then [] else [a]
theorem exch_one {a : List Int} (h : trim a = a) : exch (a.map one) = rowP1 a := by
  unfold rowP1
  by_cases ha : a = []
  · subst ha
    rfl
  · rw [if_neg ha]
    have tp : TP [a] := by
      refine ⟨?_, fun r hr => by rw [List.mem_singleton.mp hr]; exact h⟩
      have := trimP_last [] a ha
      rwa [List.nil_append] at this
    have e : exch [a] = a.map one := by
      rw [exch_rows tp.2]
      have hw : wid [a] = a.length := by unfold wid; simp
      rw [hw]
      apply List.ext_getElem
      · simp
      · intro i h1 h2
        simp only [List.getElem_map, List.getElem_range]
        have : col [a] i = [a[i]'(by simpa using h2)] := by
          unfold col
          rw [List.map_singleton, List.getD_eq_getElem?_getD, List.getElem?_eq_getElem (by simpa using h2)]
          rfl
        rw [this, trim_one]
    rw [← e, exch_exch tp]
theorem putY {t l : Int} {P : Pol} (h : TP P) : exch (putX t l (exch P)) = rowP1 (putR t l P) := by
  have e : (exch P).map (fun r => sc t l (pad (wid (exch P)) r)) = (List.range (wid P)).map fun j => sc t l (col P j) := by
    rw [wid_exch h, exch_rows h.2, List.map_map]
    refine List.map_congr_left fun j _ => ?_
    show sc t l (pad P.length (trim (col P j))) = _
    rw [pad_trim (by unfold col; rw [List.length_map])]
  unfold putX
  rw [e]
  exact exch_one (trim_idem _)
end LW
namespace LW
open PySem PySem.Spec TL
open L2 (atI ixN)
def Li (xs : List Int) : List PyData := xs.map PyData.int
@[simp] theorem Li_len {xs : List Int} : (Li xs).length = xs.length := List.length_map _
theorem Li_get {xs : List Int} {n : Nat} : (Li xs)[n]? = xs[n]?.map PyData.int := List.getElem?_map ..
@[simp] theorem Li_one {x : Int} : Li [x] = [.int x] := rfl
theorem Li_app {a b : List Int} : Li (a ++ b) = Li a ++ Li b := List.map_append
theorem Li_empty {xs : List Int} : (Li xs).isEmpty = xs.isEmpty := by cases xs <;> rfl
theorem Li_mem {xs : List Int} {y : PyData} (h : y ∈ Li xs) : ∃ x ∈ xs, y = .int x := by
  obtain ⟨x, hx, rfl⟩ := List.mem_map.mp h
  exact ⟨x, hx, rfl⟩
abbrev Rw' (xs : List Int) : PyData := .tuple (Li xs)
def Lp (P : Pol) : List PyData := P.map Rw'
@[simp] theorem Lp_len {P : Pol} : (Lp P).length = P.length := List.length_map _
theorem Lp_get {P : Pol} {n : Nat} : (Lp P)[n]? = P[n]?.map Rw' := List.getElem?_map ..
theorem Lp_empty {P : Pol} : (Lp P).isEmpty = P.isEmpty := by cases P <;> rfl
theorem Lp_mem {P : Pol} {y : PyData} (h : y ∈ Lp P) : ∃ x ∈ P, y = Rw' x := by
  obtain ⟨x, hx, rfl⟩ := List.mem_map.mp h
  exact ⟨x, hx, rfl⟩
abbrev Pl (P : Pol) : PyData := .tuple (Lp P)
def Fq (q : Rat) : PyData := .tuple [.int q.num, .int (q.den : Int)]
theorem cut_take {β : Type} {xs : List β} {n : Nat} (h : n ≤ xs.length) : cutL xs none (some (n : Int)) = xs.take n := by
  unfold cutL
  rw [show HT.sIx xs.length 0 none = 0 from rfl, show HT.sIx xs.length xs.length (some (n : Int)) = min n xs.length from HT.sIx_nat xs.length xs.length n]
  rw [List.drop_zero, Nat.sub_zero, Nat.min_eq_left h]
/-- a list or a tuple -/
def SqD (μ : Mu) (w : Wv) (xs : List PyData) : Prop := dataOf μ w = some (.list xs) ∨ dataOf μ w = some (.tuple xs)
theorem sqd_len {μ : Mu} {w : Wv} {xs : List PyData} (h : SqD μ w xs) : gLen [w] μ = .ok (.d (.int xs.length)) μ := by
  rcases h with h | h <;> (unfold gLen; simp only [h] <;> rfl)
theorem sqd_ix {μ : Mu} {w : Wv} {xs : List PyData} (h : SqD μ w xs) {n : Nat} {x : PyData} (hn : xs[n]? = some x) : gIx w (.d (.int n)) μ = .ok (.d x) μ := by
  have e : atI xs (n : Int) = some x := at_n hn
  rcases h with h | h <;> (unfold gIx; simp only [h, e])
theorem sqd_take {μ : Mu} {w : Wv} {xs : List PyData} (h : SqD μ w xs) {n : Nat} (hn : n ≤ xs.length) : ∃ u, gSl w none (some (n : Int)) μ = .ok u μ ∧ gTuple [u] μ = .ok (.d (.tuple (xs.take n))) μ := by
  have e : cutL xs none (some (n : Int)) = xs.take n := cut_take hn
  rcases h with h | h
  · refine ⟨.d (.list (xs.take n)), ?_, rfl⟩
    unfold gSl
    simp only [h, e] <;> rfl
  · refine ⟨.d (.tuple (xs.take n)), ?_, rfl⟩
    unfold gSl
    simp only [h, e] <;> rfl
theorem sqd_list {μ : Mu} {w : Wv} {xs : List PyData} (h : SqD μ w xs) : gList [w] μ = .ok xs μ := by
  rcases h with h | h <;> (unfold gList; simp only [h])
theorem sqd_it {ρ : Rho} {μ : Mu} {f : Ev} {xs : List PyData} {x : PyData} (h : f ρ μ = .ok (.d x) μ) (hx : x = .list xs ∨ x = .tuple xs) : iAny f ρ μ = .ok ⟨xs, []⟩ μ := by
  rw [x_iany, h]
  rcases hx with rfl | rfl <;> rfl
theorem bits_le {i : Int} {n : Nat} (h : i.natAbs < 2 ^ n) : Builtin.Int.intBits i ≤ n + 1 := by
  unfold Builtin.Int.intBits
  split
  · omega
  · by_cases h0 : i.natAbs = 0
    · rw [h0]
      simp
    · have := (Nat.log2_lt h0).mpr h
      omega
/-- small enough for products and quotients -/
def Sml (x : Int) : Prop := x.natAbs < 2 ^ 8000
def Sm (xs : List Int) : Prop := ∀ x ∈ xs, Sml x
theorem Sml.of {x : Int} {k : Nat} (h : x.natAbs ≤ 2 ^ k) (hk : k ≤ 7900) : Sml x := Nat.lt_of_le_of_lt h (Nat.pow_lt_pow_right (by omega) (by omega))
theorem BM.sm {a : List Int} {M k : Nat} (h : BM M a) (hM : M ≤ 2 ^ k) (hk : k ≤ 7900) : Sm a := fun x hx => .of (Nat.le_trans (h x hx) hM) hk
theorem w_times {μ : Mu} {i j : Int} (h1 : Sml i) (h2 : Sml j) : gTimes (.d (.int i)) (.d (.int j)) μ = .ok (.d (.int (i * j))) μ := by
  show (if mulOk i j = true then Out.ok (wI (i * j)) μ else Out.bad) = _
  rw [if_pos]
  unfold mulOk
  have a := bits_le h1
  have b := bits_le h2
  exact @decide_eq_true _ (Classical.propDecidable _) (by omega)
theorem w_nolong {i j : Int} (h : 0 < j) (h2 : Sml j) : Builtin.divisionGoesByPylong i j = false := by
  unfold Builtin.divisionGoesByPylong
  have hj : (j == 0) = false := by
    rw [beq_eq_false_iff_ne]
    omega
  have hl : j.natAbs.log2 < 8000 := (Nat.log2_lt (by omega)).mpr h2
  simp only [hj]
  have : ¬ (j.natAbs.log2 / 30 + 1 > 300) := by omega
  simp [this]
theorem w_div {μ : Mu} {i j : Int} (h : 0 < j) (h2 : Sml j) : gDiv (.d (.int i)) (.d (.int j)) μ = .ok (.d (.int (i / j))) μ := by
  show (if j = 0 ∨ Builtin.divisionGoesByPylong i j = true then Out.bad else Out.ok (wI (i.fdiv j)) μ) = _
  rw [if_neg, Int.fdiv_eq_ediv_of_nonneg _ (by omega)]
  · rw [w_nolong h h2]
    simp
    omega
theorem lc_ints {g : Int → Int} {it : TL.Iv} {xs : List Int} {i : Nat} {e : Ev} {ρ : Rho} {μ μ1 : Mu} (hit : it ρ μ = .ok ⟨Li xs, []⟩ μ1) (hl : xs.length ≤ 16777216)
    (he : ∀ x ∈ xs, e ((ρ.set i none).set i (some (.d (.int x)))) μ1 = .ok (.d (.int (g x))) μ1) : lLc it (gNm i) bYes e [i] ρ μ = .ok (Li (xs.map g)) μ1 := by
  have z : (Li xs).map (fun x => match x with | .int a => PyData.int (g a) | y => y) = Li (xs.map g) := by
    unfold Li
    rw [List.map_map, List.map_map]
    rfl
  rw [← z]
  refine lc_map (g := fun x => match x with | .int a => PyData.int (g a) | y => y) hit (by rw [Li_len]; exact hl) fun y hy => ?_
  obtain ⟨x, hx, rfl⟩ := Li_mem hy
  exact he x hx
/-- .. any function on a mapped list -/
theorem lc_of {A : Type} {f : A → PyData} {g : A → PyData} {it : TL.Iv} {xs : List A} {i : Nat} {e : Ev} {ρ : Rho} {μ μ1 : Mu} (hit : it ρ μ = .ok ⟨xs.map f, []⟩ μ1) (hl : xs.length ≤ 16777216)
    (he : ∀ x ∈ xs, e ((ρ.set i none).set i (some (.d (f x)))) μ1 = .ok (.d (g x)) μ1) : lLc it (gNm i) bYes e [i] ρ μ = .ok (xs.map g) μ1 := by
  refine lcT_eq hit (by rw [List.length_map]; exact hl) (by rw [List.length_map, List.length_map]) fun k x z hx hz => ?_
  rw [List.getElem?_map] at hx hz
  cases hk : xs[k]? with
  | none => rw [hk] at hx; cases hx
  | some a =>
    rw [hk] at hx hz
    cases hx
    cases hz
    refine ⟨_, rfl, ?_⟩
    have := he a (List.mem_of_getElem? hk)
    exact this
theorem asg_ok {f : Ev} {i : Nat} {ρ : Rho} {μ μ' : Mu} {w : Wv} (h : f ρ μ = .ok w μ') : sAsg f (gNm i) ρ μ = .ok (.nx (ρ.set i (some w))) μ' := by
  rw [x_asg, h]
  rfl
theorem seq_ok {a b : Sv} {ρ ρ' : Rho} {μ μ' : Mu} (h : a ρ μ = .ok (.nx ρ') μ') : sSeq a b ρ μ = b ρ' μ' := by
  rw [x_seq, h]
  rfl
theorem run_rt {n : Nat} {b : Sv} {ws : List Wv} {μ μ' : Mu} {x : PyData} (h : b (initR n ws) μ = .ok (.rt (.d x)) μ') : runD n b ws μ = .ok (.d x) (μ'.take μ.length) := by
  unfold runD
  rw [h]
  rfl
theorem intL_at {lo : Int} {n k : Nat} (h : k < n) : (intL lo n 1)[k]? = some (.int (lo + k)) := by
  unfold intL
  rw [List.getElem?_map, List.getElem?_range h]
  simp
theorem nat_abs_int (a : Int) : (if a < 0 then -a else a) = (a.natAbs : Int) := by split <;> omega
theorem max_two {μ : Mu} {a b : Nat} : gMax [.d (.int a), .d (.int b)] μ = .ok (.d (.int ((max a b : Nat) : Int))) μ := by
  show Out.ok (wI (if (b : Int) > (a : Int) then (b : Int) else (a : Int))) μ = _
  have : (if (b : Int) > (a : Int) then (b : Int) else (a : Int)) = ((max a b : Nat) : Int) := by split <;> omega
  rw [this] <;> rfl
theorem v_slt' {μ : Mu} {xs : List PyData} {lo hi : Option Int} : gSl (.d (.tuple xs)) lo hi μ = .ok (.d (.tuple (cutL xs lo hi))) μ := rfl
end LW
namespace LW
open PySem PySem.Spec TL
open L2 (atI ixN)
/-- may be shown: N parts, D deep -/
structure Shb (N D : Nat) (x : PyData) : Prop where
  sh : x.showable = true
  ls : x.leavesShort 1921 = true
  w : x.bulk ≤ N
  d : x.depth ≤ D
  nd : x.hasDict = false
structure ShbAll (N D : Nat) (xs : List PyData) : Prop where
  sh : PyData.showableAll xs = true
  ls : PyData.leavesShortAll 1921 xs = true
  w : PyData.bulkAll xs ≤ N
  d : PyData.depthAll xs ≤ D
  nd : PyData.hasDictAll xs = false
theorem Shb.ok {N D : Nat} {x : PyData} (h : Shb N D x) (hN : N ≤ 8000) (hD : D ≤ 60) : reprOk x = true := by
  have h1 := PyData.shown_le_bulk 1921 (by omega) x h.ls
  have h2 : (1921 + 2) * x.bulk ≤ 1923 * 8000 := Nat.mul_le_mul_left _ (Nat.le_trans h.w hN)
  unfold reprOk
  rw [h.sh, h.nd, decide_eq_true (show x.shown.length ≤ 16777216 by omega), decide_eq_true (show x.depth ≤ 60 from Nat.le_trans h.d hD)]
  rfl
theorem Shb.repr {N D : Nat} {x : PyData} {μ : Mu} (h : Shb N D x) (hN : N ≤ 8000) (hD : D ≤ 60) : gRepr [.d x] μ = .ok (.d (.str x.shown)) μ := by
  show (if reprOk x = true then Out.ok (wS x.shown) μ else Out.bad) = _
  rw [if_pos (h.ok hN hD)]
theorem Shb.reprC {N D : Nat} {xs : List PyData} {μ : Mu} {k : Nat} (h : Shb N D (.list xs)) (hN : N ≤ 8000) (hD : D ≤ 60) (hk : μ[k]? = some (some xs)) : gRepr [.r k] μ = .ok (.d (.str (PyData.list xs).shown)) μ := by
  show (match dataOf μ (.r k) with
    | some x => if reprOk x = true then Out.ok (wS x.shown) μ else .bad
    | none => .bad) = _
  rw [x_dr hk]
  show (if reprOk (.list xs) = true then Out.ok (wS (PyData.list xs).shown) μ else Out.bad) = _
  rw [if_pos (h.ok hN hD)]
theorem ShbAll.nil {N D : Nat} : ShbAll N D [] := ⟨rfl, rfl, Nat.zero_le _, Nat.zero_le _, rfl⟩
theorem ShbAll.cons {N D N2 : Nat} {x : PyData} {xs : List PyData} (h : Shb N D x) (t : ShbAll N2 D xs) : ShbAll (N + 1 + N2) D (x :: xs) := by
  refine ⟨?_, ?_, ?_, ?_, ?_⟩
  · simp [PyData.showableAll, h.sh, t.sh]
  · simp [PyData.leavesShortAll, h.ls, t.ls]
  · have := h.w
    have := t.w
    simp only [PyData.bulkAll]
    omega
  · have := h.d
    have := t.d
    simp only [PyData.depthAll]
    omega
  · simp [PyData.hasDictAll, h.nd, t.nd]
theorem ShbAll.of {N D : Nat} : ∀ {xs : List PyData}, (∀ x ∈ xs, Shb N D x) → ShbAll (xs.length * (N + 1)) D xs
  | [], _ => .nil
  | x :: xs, h => by
    have := ShbAll.cons (h x List.mem_cons_self) (ShbAll.of fun y hy => h y (List.mem_cons_of_mem _ hy))
    rw [List.length_cons, Nat.succ_mul]
    rwa [Nat.add_comm (N + 1)] at this
theorem Shb.list {N D : Nat} {xs : List PyData} (t : ShbAll N D xs) : Shb N (D + 1) (.list xs) := by
  refine ⟨t.sh, t.ls, ?_, ?_, t.nd⟩
  · simp only [PyData.bulk]
    exact t.w
  · have := t.d
    simp only [PyData.depth]
    omega
theorem Shb.tuple {N D : Nat} {xs : List PyData} (t : ShbAll N D xs) : Shb N (D + 1) (.tuple xs) := by
  refine ⟨t.sh, t.ls, ?_, ?_, t.nd⟩
  · simp only [PyData.bulk]
    exact t.w
  · have := t.d
    simp only [PyData.depth]
    omega
theorem Shb.up {N D N2 D2 : Nat} {x : PyData} (h : Shb N D x) (hN : N ≤ N2) (hD : D ≤ D2) : Shb N2 D2 x := ⟨h.sh, h.ls, Nat.le_trans h.w hN, Nat.le_trans h.d hD, h.nd⟩
theorem ShbAll.up {N D N2 D2 : Nat} {x : List PyData} (h : ShbAll N D x) (hN : N ≤ N2) (hD : D ≤ D2) : ShbAll N2 D2 x := ⟨h.sh, h.ls, Nat.le_trans h.w hN, Nat.le_trans h.d hD, h.nd⟩
theorem Shb.bool {b : Bool} : Shb 0 0 (.bool b) := ⟨rfl, rfl, Nat.le_refl _, Nat.le_refl _, rfl⟩
theorem Shb.none : Shb 0 0 .none := ⟨rfl, rfl, Nat.le_refl _, Nat.le_refl _, rfl⟩
theorem Shb.int {i : Int} (h : i.natAbs < 2 ^ 1920) : Shb 0 0 (.int i) := by
  have hl2 : i.natAbs.log2 < 1920 := by
    by_cases hz : i.natAbs = 0
    · rw [hz]
      decide
    · exact (Nat.log2_lt hz).mpr h
  refine ⟨by simp [PyData.showable, hl2], ?_, Nat.le_refl _, Nat.le_refl _, rfl⟩
  simp only [PyData.leavesShort, decide_eq_true_eq]
  exact PyProof.Rows.int_text_len_1921 hl2
theorem Shb.row {a : List Int} {M k n : Nat} (h : BM M a) (hM : M ≤ 2 ^ k) (hk : k ≤ 1915) (hn : a.length ≤ n) : Shb n 1 (Rw' a) := by
  have := ShbAll.of (N := 0) (D := 0) (xs := Li a) fun x hx => by
    obtain ⟨i, hi, rfl⟩ := Li_mem hx
    exact Shb.int (Nat.lt_of_le_of_lt (Nat.le_trans (h i hi) hM) (Nat.pow_lt_pow_right (by omega) (by omega)))
  rw [Li_len] at this
  exact (Shb.tuple this).up (by omega) (by omega)
theorem Shb.pol {P : Pol} {M k l n : Nat} (h : PB M P) (hM : M ≤ 2 ^ k) (hk : k ≤ 1915) (hn : PL n P) (hl : P.length ≤ l) : Shb (l * (n + 1)) 2 (Pl P) := by
  have := ShbAll.of (N := n) (D := 1) (xs := Lp P) fun x hx => by
    obtain ⟨r, hr, rfl⟩ := Lp_mem hx
    exact Shb.row (h r hr) hM hk (hn r hr)
  rw [Lp_len] at this
  exact (Shb.tuple this).up (Nat.mul_le_mul_right _ hl) (by omega)
theorem Shb.frac {q : Rat} {k : Nat} (h : RB k q) (hk : k ≤ 1915) : Shb 2 1 (Fq q) := by
  have i1 : q.num.natAbs < 2 ^ 1920 := Nat.lt_of_le_of_lt h.1 (Nat.pow_lt_pow_right (by omega) (by omega))
  have i2 : ((q.den : Nat) : Int).natAbs < 2 ^ 1920 := by
    rw [Int.natAbs_natCast]
    exact Nat.lt_of_le_of_lt h.2 (Nat.pow_lt_pow_right (by omega) (by omega))
  exact (Shb.tuple (ShbAll.cons (Shb.int i1) (ShbAll.cons (Shb.int i2) (ShbAll.nil (N := 0))))).up (by omega) (by omega)
end LW
namespace LW
open PySem PySem.Spec TL
open L2 (atI ixN)
theorem intsOf_Li (xs : List Int) : intsOf (Li xs) = some xs := by
  induction xs with
  | nil => rfl
  | cons x xs ih =>
    show intsOf (.int x :: Li xs) = _
    unfold intsOf
    rw [ih]
    rfl
theorem gMax_li {μ : Mu} {m : Int} {xs : List Int} : gMax [.d (.list (.int m :: Li xs))] μ = .ok (.d (.int (maxI m xs))) μ := by
  have : intsOf (.int m :: Li xs) = some (m :: xs) := intsOf_Li (m :: xs)
  show (match dataOf μ (.d (.list (.int m :: Li xs))) with
    | some (.list xs) => match intsOf xs with
      | some (m :: r) => Out.ok (wI (maxI m r)) μ
      | _ => .bad
    | _ => .bad) = _
  simp only [x_dd, this]
end LW
namespace LW
open PySem PySem.Spec TL
open L2 (atI ixN)
/-- data that laws draw: not too wide, not too deep, whole numbers not too great, texts that are texts -/
def Dz (n : Nat) : Nat → PyData → Prop
  | 0, .tuple _ => False
  | d + 1, .tuple xs => xs.length ≤ n ∧ ∀ x ∈ xs, Dz n d x
  | _, .int i => i.natAbs ≤ 2 ^ 1000
  | _, .str s => PyData.canLay0 (.str s) = true
  | _, _ => True
theorem dz_tup {n d : Nat} {xs : List PyData} : Dz n (d + 1) (.tuple xs) ↔ xs.length ≤ n ∧ ∀ x ∈ xs, Dz n d x := Iff.rfl
theorem dz_int {n d : Nat} {i : Int} : Dz n d (.int i) ↔ i.natAbs ≤ 2 ^ 1000 := by cases d <;> exact Iff.rfl
theorem dz_str {n d : Nat} {s : Str} : Dz n d (.str s) ↔ PyData.canLay0 (.str s) = true := by cases d <;> exact Iff.rfl
theorem dz_none {n d : Nat} : Dz n d .none := by cases d <;> exact trivial
theorem dz_bool {n d : Nat} {b : Bool} : Dz n d (.bool b) := by cases d <;> exact trivial
theorem dz_list {n d : Nat} {xs : List PyData} : Dz n d (.list xs) := by cases d <;> exact trivial
theorem dz_dict {n d : Nat} {xs : List (PyData × PyData)} : Dz n d (.dict xs) := by cases d <;> exact trivial
theorem dz_len {n d : Nat} {xs : List PyData} (h : Dz n d (.tuple xs)) : xs.length ≤ n := by
  cases d with
  | zero => exact h.elim
  | succ d => exact h.1
theorem dz_in {n d : Nat} {xs : List PyData} {x : PyData} (h : Dz n d (.tuple xs)) (hx : x ∈ xs) : ∃ d', d = d' + 1 ∧ Dz n d' x := by
  cases d with
  | zero => exact h.elim
  | succ d => exact ⟨d, rfl, h.2 x hx⟩
theorem Dz.up {n n' : Nat} (hn : n ≤ n') : ∀ {d d' : Nat} {x : PyData}, d ≤ d' → Dz n d x → Dz n' d' x
  | d, d', .int i, _, h => dz_int.mpr (dz_int.mp h)
  | d, d', .str s, _, h => dz_str.mpr (dz_str.mp h)
  | d, d', .none, _, h => dz_none
  | d, d', .bool b, _, h => dz_bool
  | d, d', .list xs, _, h => dz_list
  | d, d', .dict xs, _, h => dz_dict
  | 0, d', .tuple xs, _, h => h.elim
  | d + 1, 0, .tuple xs, hd, _ => absurd hd (by omega)
  | d + 1, d' + 1, .tuple xs, hd, h => ⟨Nat.le_trans h.1 hn, fun x hx => (h.2 x hx).up hn (by omega)⟩
def intB : PyData → Bool
  | .int _ => true
  | _ => false
def rowB : PyData → Bool
  | .tuple xs => xs.all intB && (match xs.getLast? with
    | some (.int i) => !(i == 0)
    | _ => true)
  | _ => false
def polyB : PyData → Bool
  | .tuple xs => xs.all rowB && (match xs.getLast? with
    | some (.tuple ys) => !ys.isEmpty
    | _ => true)
  | _ => false
def lenD : PyData → Nat
  | .tuple xs => xs.length
  | _ => 0
/-- a POLY of degrees up to 4 -/
def lowB : PyData → Bool
  | .tuple xs => polyB (.tuple xs) && decide (xs.length ≤ 5) && xs.all fun r => decide (lenD r ≤ 5)
  | _ => false
theorem row_of {n d : Nat} {x : PyData} (h : rowB x = true) (hd : Dz n d x) : ∃ a : List Int, x = Rw' a ∧ trim a = a ∧ BM (2 ^ 1000) a := by
  cases x with
  | tuple xs =>
    unfold rowB at h
    rw [Bool.and_eq_true] at h
    have gints : ∀ (xs : List PyData), xs.all intB = true → ∃ a : List Int, xs = Li a := by
      intro xs
      induction xs with
      | nil => intro _; exact ⟨[], rfl⟩
      | cons y r ih =>
        intro h
        rw [List.all_cons, Bool.and_eq_true] at h
        obtain ⟨a, rfl⟩ := ih h.2
        cases y with
        | int i => exact ⟨i :: a, rfl⟩
        | _ => cases h.1
    obtain ⟨a, rfl⟩ := gints xs h.1
    refine ⟨a, rfl, ?_, fun i hi => ?_⟩
    · rcases List.eq_nil_or_concat a with rfl | ⟨l, z, rfl⟩
      · rfl
      · rw [List.concat_eq_append] at *
        have h2 := h.2
        rw [Li_app, Li_one, List.getLast?_append] at h2
        have hz : z ≠ 0 := by simpa using h2
        exact trim_last _ _ hz
    · obtain ⟨d', _, h'⟩ := dz_in hd (List.mem_map_of_mem hi)
      exact dz_int.mp h'
  | _ => cases h
theorem pol_of {n d : Nat} {x : PyData} (h : polyB x = true) (hd : Dz n d x) : ∃ P : Pol, x = Pl P ∧ TP P ∧ PB (2 ^ 1000) P := by
  cases x with
  | tuple xs =>
    unfold polyB at h
    rw [Bool.and_eq_true] at h
    have rows : ∀ (xs : List PyData), xs.all rowB = true → (∀ x ∈ xs, ∃ d', Dz n d' x) → ∃ P : Pol, xs = Lp P ∧ TR P ∧ PB (2 ^ 1000) P := by
      intro xs
      induction xs with
      | nil => intro _ _; exact ⟨[], rfl, TP.nil.2, by intro r hr; cases hr⟩
      | cons y r ih =>
        intro h hd
        rw [List.all_cons, Bool.and_eq_true] at h
        obtain ⟨P, rfl, h1, h2⟩ := ih h.2 fun x hx => hd x (List.mem_cons_of_mem _ hx)
        obtain ⟨d', hd'⟩ := hd y List.mem_cons_self
        obtain ⟨a, rfl, h3, h4⟩ := row_of h.1 hd'
        refine ⟨a :: P, rfl, h1.cons h3, fun s hs => ?_⟩
        rcases List.mem_cons.mp hs with rfl | hs
        · exact h4
        · exact h2 s hs
    obtain ⟨P, rfl, h1, h2⟩ := rows xs h.1 fun x hx => (dz_in hd hx).imp fun _ h => h.2
    refine ⟨P, rfl, ⟨?_, h1⟩, h2⟩
    rcases List.eq_nil_or_concat P with rfl | ⟨l, z, rfl⟩
    · rfl
    · rw [List.concat_eq_append] at *
      have h3 := h.2
      have e : Lp (l ++ [z]) = Lp l ++ [Rw' z] := List.map_append
      rw [e, List.getLast?_append] at h3
      have hz : z ≠ [] := by
        intro hz
        subst hz
        simp [Li] at h3
      exact trimP_last _ _ hz
  | _ => cases h
theorem low_of {n d : Nat} {x : PyData} (h : lowB x = true) (hd : Dz n d x) : ∃ P : Pol, x = Pl P ∧ TP P ∧ PB (2 ^ 1000) P ∧ P.length ≤ 5 ∧ PL 5 P := by
  cases x with
  | tuple xs =>
    unfold lowB at h
    rw [Bool.and_eq_true, Bool.and_eq_true, decide_eq_true_eq] at h
    obtain ⟨P, e, h1, h2⟩ := pol_of h.1.1 hd
    cases e
    refine ⟨P, rfl, h1, h2, by simpa using h.1.2, fun r hr => ?_⟩
    have := List.all_eq_true.mp h.2 (Rw' r) (List.mem_map_of_mem hr)
    rw [decide_eq_true_eq] at this
    simpa [lenD] using this
  | _ => cases h
end LW
namespace LW
open PySem PySem.Spec TL
open L2 (atI ixN)
theorem t_whole {x : PyData} {μ : Mu} : f_is_whole [.d x] μ = .ok (.d (.bool (intB x))) μ := by
  cases x <;> simp [f_is_whole, b_is_whole, runD, initR, kinds, subTy, tyName, intB]
theorem last_mem {xs : List PyData} {x : PyData} {r : List PyData} (e : xs = x :: r) : ∃ y, atI xs (-1) = some y ∧ y ∈ xs ∧ xs.getLast? = some y := by
  subst e
  exact ⟨_, at_last, List.getLast_mem _, List.getLast?_eq_getLast _⟩
theorem t_mapall {μ : Mu} {xs : List PyData} {e : Ev} {p : PyData → Bool} (hl : xs.length ≤ 1000) (he : ∀ x ∈ xs, e [some (.d (.tuple xs)), some (.d x)] μ = .ok (.d (.bool (p x))) μ) :
    ∃ ms, lLc (iAny (eVar 0)) (gNm 1) bYes e [1] [some (.d (.tuple xs)), none] μ = .ok ms μ ∧ gAll [.d (.list ms)] μ = .ok (.d (.bool (xs.all p))) μ :=
  ⟨_, lc_map (g := fun x => .bool (p x)) rfl (by omega) he, v_allm⟩
theorem t_rowed {x : PyData} {μ : Mu} {n d : Nat} (h : Dz n d x) (hn : n ≤ 1000) : f_is_rowed [.d x] μ = .ok (.d (.bool (rowB x))) μ := by
  by_cases hx : ∃ xs, x = .tuple xs
  · obtain ⟨xs, rfl⟩ := hx
    obtain ⟨ms, e1, e2⟩ := t_mapall (μ := μ) (p := intB) (e := cF 1 f_is_whole (aCons (eVar 1) aNil)) (Nat.le_trans (dz_len h) hn) fun x hx => by simp [t_whole]
    by_cases ha : xs.all intB = true
    · rw [ha] at e2
      cases hxs : xs with
      | nil =>
        subst hxs
        simp [f_is_rowed, b_is_rowed, runD, initR, kinds, subTy, tyName, e1, e2, rowB]
      | cons y r =>
        obtain ⟨z, e3, hz, e4⟩ := last_mem hxs
        have hi := List.all_eq_true.mp ha z hz
        rw [← hxs]
        have hne : xs.isEmpty = false := by rw [hxs]; rfl
        cases z with
        | int i => simp [f_is_rowed, b_is_rowed, runD, initR, kinds, subTy, tyName, e1, e2, rowB, ha, e3, e4, hne]
        | _ => cases hi
    · rw [Bool.not_eq_true] at ha
      rw [ha] at e2
      simp [f_is_rowed, b_is_rowed, runD, initR, kinds, subTy, tyName, e1, e2, rowB, ha]
  · have hr : rowB x = false := by
      cases x <;> first | rfl | exact (hx ⟨_, rfl⟩).elim
    rw [hr]
    cases x <;> first | exact (hx ⟨_, rfl⟩).elim | simp [f_is_rowed, b_is_rowed, runD, initR, kinds, subTy, tyName]
theorem t_polyed {x : PyData} {μ : Mu} {n d : Nat} (h : Dz n d x) (hn : n ≤ 1000) : f_is_polyed [.d x] μ = .ok (.d (.bool (polyB x))) μ := by
  by_cases hx : ∃ xs, x = .tuple xs
  · obtain ⟨xs, rfl⟩ := hx
    obtain ⟨ms, e1, e2⟩ := t_mapall (μ := μ) (p := rowB) (e := cF 1 f_is_rowed (aCons (eVar 1) aNil)) (Nat.le_trans (dz_len h) hn) fun x hx => by
      obtain ⟨d', _, h'⟩ := dz_in h hx
      simp [t_rowed h' hn]
    by_cases ha : xs.all rowB = true
    · rw [ha] at e2
      cases hxs : xs with
      | nil =>
        subst hxs
        simp [f_is_polyed, b_is_polyed, runD, initR, kinds, subTy, tyName, e1, e2, polyB]
      | cons y r =>
        obtain ⟨z, e3, hz, e4⟩ := last_mem hxs
        have hi := List.all_eq_true.mp ha z hz
        rw [← hxs]
        have hne : xs.isEmpty = false := by rw [hxs]; rfl
        cases z with
        | tuple zs => simp [f_is_polyed, b_is_polyed, runD, initR, kinds, subTy, tyName, e1, e2, polyB, ha, e3, e4, hne]
        | _ => cases hi
    · rw [Bool.not_eq_true] at ha
      rw [ha] at e2
      simp [f_is_polyed, b_is_polyed, runD, initR, kinds, subTy, tyName, e1, e2, polyB, ha]
  · have hr : polyB x = false := by
      cases x <;> first | rfl | exact (hx ⟨_, rfl⟩).elim
    rw [hr]
    cases x <;> first | exact (hx ⟨_, rfl⟩).elim | simp [f_is_polyed, b_is_polyed, runD, initR, kinds, subTy, tyName]
end LW
namespace LW
open PySem PySem.Spec TL
open L2 (atI ixN)
theorem t_low {x : PyData} {μ : Mu} {n d : Nat} (h : Dz n d x) (hn : n ≤ 1000) : f_is_low_poly [.d x] μ = .ok (.d (.bool (lowB x))) μ := by
  have p := t_polyed (μ := μ) h hn
  by_cases hx : ∃ xs, x = .tuple xs
  · obtain ⟨xs, rfl⟩ := hx
    by_cases hp : polyB (.tuple xs) = true
    · by_cases hl : xs.length ≤ 5
      · obtain ⟨ms, e1, e2⟩ := t_mapall (μ := μ) (xs := xs) (p := fun r => decide (lenD r ≤ 5)) (e := e2 (gCmp fun i j => decide (i ≤ j)) (en gLen (aCons (eVar 1) aNil)) (e2 gPlus (eK (.int 4)) (eK (.int 1)))) (by omega) fun r hr => by
          unfold polyB at hp
          rw [Bool.and_eq_true] at hp
          have := List.all_eq_true.mp hp.1 r hr
          cases r with
          | tuple ys =>
            simp [lenD]
            exact decide_eq_decide.mpr (by omega)
          | _ => cases this
        have h5 : ¬ ((5 : Int) < xs.length) := by omega
        simp [f_is_low_poly, b_is_low_poly, runD, initR, p, hp, h5, e1, e2, lowB, hl]
      · have h5 : (5 : Int) < xs.length := by omega
        simp [f_is_low_poly, b_is_low_poly, runD, initR, p, hp, h5, lowB, hl]
    · rw [Bool.not_eq_true] at hp
      simp [f_is_low_poly, b_is_low_poly, runD, initR, p, hp, lowB]
  · have hp : polyB x = false := by cases x <;> first | rfl | exact (hx ⟨_, rfl⟩).elim
    have hl : lowB x = false := by cases x <;> first | rfl | exact (hx ⟨_, rfl⟩).elim
    simp [f_is_low_poly, b_is_low_poly, runD, initR, p, hp, hl]
end LW
namespace LW
open PySem PySem.Spec TL
open L2 (atI ixN)
/-- the kinds of words of sayings -/
inductive WK where
  | tf | rel | no | bin | qu | oth
deriving DecidableEq
def allW : List Str := ["true", "false", "below", "at", "above", "not below", "not at", "not above", "not", "both", "either", "all", "some"]
def wk (w : Str) : WK :=
  if w = "true" ∨ w = "false" then .tf else if w = "below" ∨ w = "at" ∨ w = "above" ∨ w = "not below" ∨ w = "not at" ∨ w = "not above" then .rel else if w = "not" then .no else if w = "both" ∨ w = "either" then .bin else if w = "all" ∨ w = "some" then .qu else .oth
theorem not_all {w : Str} (h : w ∉ allW) : w ≠ "true" ∧ w ≠ "false" ∧ w ≠ "below" ∧ w ≠ "at" ∧ w ≠ "above" ∧ w ≠ "not below" ∧ w ≠ "not at" ∧ w ≠ "not above" ∧ w ≠ "not" ∧ w ≠ "both" ∧ w ≠ "either" ∧ w ≠ "all" ∧ w ≠ "some" := by
  unfold allW at h
  simp only [List.mem_cons, List.not_mem_nil, or_false, not_or] at h
  exact h
theorem wk_oth {w : Str} (h : w ∉ allW) : wk w = .oth := by
  obtain ⟨h1, h2, h3, h4, h5, h6, h7, h8, h9, h10, h11, h12, h13⟩ := not_all h
  unfold wk
  simp only [h1, h2, h3, h4, h5, h6, h7, h8, h9, h10, h11, h12, h13, or_self, if_false]
theorem w_all {p : Str → Bool} (hl : allW.all p = true) (ho : ∀ w, w ∉ allW → p w = true) (w : Str) : p w = true := by
  by_cases h : w ∈ allW
  · exact List.all_eq_true.mp hl w h
  · exact ho w h
theorem beq_ne {a w : Str} (h : w ≠ a) : (a == w) = false := by
  rw [beq_eq_false_iff_ne]
  exact fun e => h e.symm
theorem is_tf (w : Str) : ("true" == w || ("false" == w || false)) = decide (wk w = .tf) := by
  have := w_all (p := fun w => ("true" == w || ("false" == w || false)) == decide (wk w = .tf)) (by decide +kernel) (fun w h => by
    obtain ⟨h1, h2, h3, h4, h5, h6, h7, h8, h9, h10, h11, h12, h13⟩ := not_all h
    simp [wk_oth h, beq_ne h1, beq_ne h2]) w
  simpa using this
theorem is_rel (w : Str) : ("below" == w || ("at" == w || ("above" == w || ("not below" == w || ("not at" == w || ("not above" == w || false)))))) = decide (wk w = .rel) := by
  have := w_all (p := fun w => ("below" == w || ("at" == w || ("above" == w || ("not below" == w || ("not at" == w || ("not above" == w || false)))))) == decide (wk w = .rel)) (by decide +kernel) (fun w h => by
    obtain ⟨h1, h2, h3, h4, h5, h6, h7, h8, h9, h10, h11, h12, h13⟩ := not_all h
    simp [wk_oth h, beq_ne h3, beq_ne h4, beq_ne h5, beq_ne h6, beq_ne h7, beq_ne h8]) w
  simpa using this
theorem is_qu (w : Str) : ("all" == w || ("some" == w || false)) = decide (wk w = .qu) := by
  have := w_all (p := fun w => ("all" == w || ("some" == w || false)) == decide (wk w = .qu)) (by decide +kernel) (fun w h => by
    obtain ⟨h1, h2, h3, h4, h5, h6, h7, h8, h9, h10, h11, h12, h13⟩ := not_all h
    simp [wk_oth h, beq_ne h12, beq_ne h13]) w
  simpa using this
theorem is_nb (w : Str) : ("not" == w || ("both" == w || ("either" == w || false))) = decide (wk w = .no ∨ wk w = .bin) := by
  have := w_all (p := fun w => ("not" == w || ("both" == w || ("either" == w || false))) == decide (wk w = .no ∨ wk w = .bin)) (by decide +kernel) (fun w h => by
    obtain ⟨h1, h2, h3, h4, h5, h6, h7, h8, h9, h10, h11, h12, h13⟩ := not_all h
    simp [wk_oth h, beq_ne h9, beq_ne h10, beq_ne h11]) w
  simpa using this
theorem is_no (w : Str) : decide (w = "not") = decide (wk w = .no) := by
  have := w_all (p := fun w => decide (w = "not") == decide (wk w = .no)) (by decide +kernel) (fun w h => by
    obtain ⟨h1, h2, h3, h4, h5, h6, h7, h8, h9, h10, h11, h12, h13⟩ := not_all h
    simp [wk_oth h, h9]) w
  simpa using this
abbrev partsAt : List (Str × PyData) := [("not", (.tuple [(.int 1)])), ("both", (.tuple [(.int 1), (.int 2)])), ("either", (.tuple [(.int 1), (.int 2)])), ("all", (.tuple [(.int 2)])), ("some", (.tuple [(.int 2)]))]
def partsOf : WK → Option PyData
  | .no => some (.tuple [.int 1])
  | .bin => some (.tuple [.int 1, .int 2])
  | .qu => some (.tuple [.int 2])
  | _ => none
theorem parts_look (w : Str) : partsAt.lookup w = partsOf (wk w) := by
  by_cases h : w ∈ allW
  · unfold allW at h
    simp only [List.mem_cons, List.not_mem_nil, or_false] at h
    rcases h with rfl | rfl | rfl | rfl | rfl | rfl | rfl | rfl | rfl | rfl | rfl | rfl | rfl <;> rfl
  · obtain ⟨h1, h2, h3, h4, h5, h6, h7, h8, h9, h10, h11, h12, h13⟩ := not_all h
    rw [wk_oth h]
    have c : ∀ a : Str, w ≠ a → (w == a) = false := fun a h => by rw [beq_eq_false_iff_ne]; exact h
    simp only [partsAt, List.lookup_cons, c _ h9, c _ h10, c _ h11, c _ h12, c _ h13, List.lookup_nil]
    rfl
theorem shaped_strs : ∀ {ws : List Str}, (∀ w ∈ ws, PyData.canLay0 (.str w) = true) → SeqAt.shaped (.tuple (ws.map PyData.str)) = true := by
  intro ws h
  have key : ∀ (ws : List Str), (∀ w ∈ ws, PyData.canLay0 (.str w) = true) → PyData.canLayAll0 (ws.map PyData.str) = true ∧ PyData.depthAll (ws.map PyData.str) = 0 := by
    intro ws
    induction ws with
    | nil => intro _; exact ⟨rfl, rfl⟩
    | cons w ws ih =>
      intro h
      obtain ⟨a, b⟩ := ih fun v hv => h v (List.mem_cons_of_mem _ hv)
      refine ⟨?_, ?_⟩
      · simp only [List.map_cons, PyData.canLayAll0, a, h w List.mem_cons_self, Bool.and_self]
      · simp only [List.map_cons, PyData.depthAll, PyData.depth, b]
        rfl
  obtain ⟨a, b⟩ := key ws h
  unfold SeqAt.shaped
  simp [PyData.canLay0, PyData.depth, a, b]
theorem shaped_str {w : Str} (h : PyData.canLay0 (.str w) = true) : SeqAt.shaped (.str w) = true := by
  unfold SeqAt.shaped
  rw [h]
  rfl
/-- a text in a tuple of texts -/
theorem g_in {neg : Bool} {w : Str} {ws : List Str} {ys : List PyData} {μ : Mu} (he : ys = ws.map PyData.str) (h : PyData.canLay0 (.str w) = true) (hs : (ws.all fun w => PyData.canLay0 (.str w)) = true) :
    gIn neg (.d (.str w)) (.d (.tuple ys)) μ = .ok (.d (.bool (if neg then !(ws.any fun z => z == w) else ws.any fun z => z == w))) μ := by
  subst he
  have e : inP (.str w) (.tuple (ws.map PyData.str)) = some (ws.any fun z => z == w) := by
    show (if SeqAt.shaped (.str w) = true ∧ SeqAt.shaped (.tuple (ws.map PyData.str)) = true then some ((ws.map PyData.str).any fun z => PyData.eqv z (.str w)) else none) = _
    rw [if_pos ⟨shaped_str h, shaped_strs fun v hv => List.all_eq_true.mp hs v hv⟩, List.any_map]
    rfl
  show (match dataOf μ (.d (.str w)), dataOf μ (.d (.tuple (ws.map PyData.str))) with
    | some x, some y => match inP x y with
      | some c => Out.ok (wBl (if neg then !c else c)) μ
      | none => .bad
    | _, _ => .bad) = _
  simp only [x_dd, e]
theorem g_tf {neg : Bool} {w : Str} {μ : Mu} (h : PyData.canLay0 (.str w) = true) : gIn neg (.d (.str w)) (.d (.tuple [.str "true", .str "false"])) μ = .ok (.d (.bool (if neg then !decide (wk w = .tf) else decide (wk w = .tf)))) μ := by
  refine (g_in (ws := ["true", "false"]) rfl h (by decide +kernel)).trans ?_
  rw [← is_tf]
  rfl
theorem g_rel {neg : Bool} {w : Str} {μ : Mu} (h : PyData.canLay0 (.str w) = true) : gIn neg (.d (.str w)) (.d (.tuple [.str "below", .str "at", .str "above", .str "not below", .str "not at", .str "not above"])) μ = .ok (.d (.bool (if neg then !decide (wk w = .rel) else decide (wk w = .rel)))) μ := by
  refine (g_in (ws := ["below", "at", "above", "not below", "not at", "not above"]) rfl h (by decide +kernel)).trans ?_
  rw [← is_rel]
  rfl
theorem g_qu {neg : Bool} {w : Str} {μ : Mu} (h : PyData.canLay0 (.str w) = true) : gIn neg (.d (.str w)) (.d (.tuple [.str "all", .str "some"])) μ = .ok (.d (.bool (if neg then !decide (wk w = .qu) else decide (wk w = .qu)))) μ := by
  refine (g_in (ws := ["all", "some"]) rfl h (by decide +kernel)).trans ?_
  rw [← is_qu]
  rfl
theorem g_nb {neg : Bool} {w : Str} {μ : Mu} (h : PyData.canLay0 (.str w) = true) : gIn neg (.d (.str w)) (.d (.tuple [.str "not", .str "both", .str "either"])) μ = .ok (.d (.bool (if neg then !decide (wk w = .no ∨ wk w = .bin) else decide (wk w = .no ∨ wk w = .bin)))) μ := by
  refine (g_in (ws := ["not", "both", "either"]) rfl h (by decide +kernel)).trans ?_
  rw [← is_nb]
  rfl
def isXY (w : Str) : Bool := "x" == w || ("y" == w || false)
theorem g_xy {neg : Bool} {w : Str} {μ : Mu} (h : PyData.canLay0 (.str w) = true) : gIn neg (.d (.str w)) (.d (.tuple [.str "x", .str "y"])) μ = .ok (.d (.bool (if neg then !isXY w else isXY w))) μ := by
  exact (g_in (ws := ["x", "y"]) rfl h (by decide +kernel)).trans rfl
theorem g_eqno {neg : Bool} {w : Str} {μ : Mu} : gEq neg (.d (.str w)) (.d (.str "not")) μ = .ok (.d (.bool (if neg then !decide (wk w = .no) else decide (wk w = .no)))) μ := by
  rw [v_eqd, eq_ss, is_no]
/-! ### sayings -/
inductive Say where
  | tf (w : Str)
  | rel (w : Str) (x : PyData)
  | no (a : Say)
  | bin (w : Str) (a b : Say)
  | qu (w l : Str) (a : Say)
def Say.dep : Say → Nat
  | .tf _ => 1
  | .rel _ _ => 1
  | .no a => a.dep + 1
  | .bin _ a b => max a.dep b.dep + 1
  | .qu _ _ a => a.dep + 1
def Say.toD : Say → PyData
  | .tf w => .tuple [.str w]
  | .rel w x => .tuple [.str w, x]
  | .no a => .tuple [.str "not", a.toD]
  | .bin w a b => .tuple [.str w, a.toD, b.toD]
  | .qu w l a => .tuple [.str w, .str l, a.toD]
def strL (l : Str) : PyData → Bool
  | .str z => isXY z && z == l
  | _ => false
/-- the saying that data tell -/
def parse : Nat → PyData → Option Say
  | 0, _ => none
  | n + 1, .tuple (.str w :: r) => match wk w with
    | .tf => match r with
      | [] => some (.tf w)
      | _ => none
    | .rel => match r with
      | [x] => if lowB x = true then some (.rel w x) else none
      | _ => none
    | .no => match r with
      | [a] => (parse n a).map .no
      | _ => none
    | .bin => match r with
      | [a, b] => (parse n a).bind fun s => (parse n b).map (.bin w s)
      | _ => none
    | .qu => match r with
      | [.str l, a] => if isXY l = true then (parse n a).map (.qu w l) else none
      | _ => none
    | .oth => none
  | _ + 1, _ => none
def depO : Option Say → Nat
  | some s => s.dep
  | none => 0
theorem dep_pos : ∀ s : Say, 0 < s.dep
  | .tf _ => Nat.one_pos
  | .rel _ _ => Nat.one_pos
  | .no _ => Nat.succ_pos _
  | .bin _ _ _ => Nat.succ_pos _
  | .qu _ _ _ => Nat.succ_pos _
theorem run_ret {n : Nat} {b : Sv} {ws : List Wv} {μ : Mu} {x : PyData} (h : b (initR n ws) μ = .ok (.rt (.d x)) μ) : runD n b ws μ = .ok (.d x) μ := by
  rw [run_rt h, take_self]
end LW
namespace LW
open PySem PySem.Spec TL
open L2 (atI ixN)
noncomputable def SY1 : Sv :=
  (sIf (bOr (tB' (e2 (gEq false) (eVar 1) (eK (.int 0)))) (bOr (bNot (tB' (e1 (gIsi "tuple") (eVar 0)))) (bOr (tB' (e2 (gEq false) (eVar 0) (eTup aNil))) (bNot (tB' (e1 (gIsi "str") (e2 gIx (eVar 0) (eK (.int 0))))))))) (sRet (eK (.bool false))) sNext)
noncomputable def SY2 : Sv :=
  (sAsg (e2 gIx (eVar 0) (eK (.int 0))) (gNm 2))
noncomputable def SY3 : Sv :=
  (sIf (tB' (e2 (gIn false) (eVar 2) (eTup (aCons (eK (.str "true")) (aCons (eK (.str "false")) aNil))))) (sRet (e2 (gEq false) (en gLen (aCons (eVar 0) aNil)) (eK (.int 1)))) sNext)
noncomputable def SY4 : Sv :=
  (sIf (tB' (e2 (gIn false) (eVar 2) (eK (.tuple [(.str "below"), (.str "at"), (.str "above"), (.str "not below"), (.str "not at"), (.str "not above")])))) (sRet (eAnd (e2 (gEq false) (en gLen (aCons (eVar 0) aNil)) (eK (.int 2))) (cF 1 f_is_low_poly (aCons (e2 gIx (eVar 0) (eK (.int 1))) aNil)))) sNext)
noncomputable def SY5 : Sv :=
  (sIf (bOr (tB' (e1 (gInD true [("not", (.tuple [(.int 1)])), ("both", (.tuple [(.int 1), (.int 2)])), ("either", (.tuple [(.int 1), (.int 2)])), ("all", (.tuple [(.int 2)])), ("some", (.tuple [(.int 2)]))]) (eVar 2))) (tB' (e2 (gEq true) (en gLen (aCons (eVar 0) aNil)) (e2 gPlus (e2 gIx (e1 (gItD [("not", (.tuple [(.int 1)])), ("both", (.tuple [(.int 1), (.int 2)])), ("either", (.tuple [(.int 1), (.int 2)])), ("all", (.tuple [(.int 2)])), ("some", (.tuple [(.int 2)]))]) (eVar 2)) (e1 gNeg (eK (.int 1)))) (eK (.int 1)))))) (sRet (eK (.bool false))) sNext)
noncomputable def SY6 : Sv :=
  (sIf (bAnd (tB' (e2 (gIn false) (eVar 2) (eTup (aCons (eK (.str "all")) (aCons (eK (.str "some")) aNil))))) (bNot (tB' (cF 1 f_is_letter (aCons (e2 gIx (eVar 0) (eK (.int 1))) aNil))))) (sRet (eK (.bool false))) sNext)
noncomputable def SY7 (rec : GF) : Sv :=
  (sRet (en gAll (aCons (eFrz (lLc (iAny (e1 (gItD [("not", (.tuple [(.int 1)])), ("both", (.tuple [(.int 1), (.int 2)])), ("either", (.tuple [(.int 1), (.int 2)])), ("all", (.tuple [(.int 2)])), ("some", (.tuple [(.int 2)]))]) (eVar 2))) (gNm 3) bYes (cF 2 rec (aCons (e2 gIx (eVar 0) (eVar 3)) (aCons (e2 gSub (eVar 1) (eK (.int 1))) aNil))) [3])) aNil)))
theorem SY_is (rec : GF) : b_is_sayinged rec = sSeq SY1 (sSeq SY2 (sSeq SY3 (sSeq SY4 (sSeq SY5 (sSeq SY6 ((SY7 rec))))))) := rfl
theorem part_at {w : Str} {c : PyData} {μ : Mu} (h : partsOf (wk w) = some c) : gItD partsAt (.d (.str w)) μ = .ok (.d c) μ := x_itD ((parts_look w).trans h)
theorem part_in {neg : Bool} {w : Str} {μ : Mu} : gInD neg partsAt (.d (.str w)) μ = .ok (.d (.bool (if neg then !(partsOf (wk w)).isSome else (partsOf (wk w)).isSome))) μ := by rw [x_inD, parts_look]
def letB : PyData → Bool
  | .str l => isXY l
  | _ => false
theorem t_letter {n d : Nat} {x : PyData} {μ : Mu} (h : Dz n d x) : f_is_letter [.d x] μ = .ok (.d (.bool (letB x))) μ := by
  cases x with
  | str l =>
    have g := g_xy (neg := false) (μ := μ) (dz_str.mp h)
    simp [f_is_letter, b_is_letter, runD, initR, kinds, subTy, tyName, g, letB]
  | _ => simp [f_is_letter, b_is_letter, runD, initR, kinds, subTy, tyName, letB]
theorem say_end {rec : GF} {xs : List PyData} {w : Str} {d : Nat} {μ : Mu} {ns : List Nat} {p : Nat → Bool} (hp : partsOf (wk w) = some (.tuple (ns.map fun n : Nat => PyData.int (n : Int)))) (hl : ns.length ≤ 2) (h : ∀ n ∈ ns, ∃ y, xs[n]? = some y ∧ rec [.d y, .d (.int (d : Int))] μ = .ok (.d (.bool (p n))) μ) :
    SY7 rec [some (.d (.tuple xs)), some (.d (.int ((d + 1 : Nat) : Int))), some (.d (.str w)), none] μ = .ok (.rt (.d (.bool (ns.all p)))) μ := by
  have it := part_at (μ := μ) hp
  have lc := lc_of (f := fun n : Nat => PyData.int (n : Int)) (g := fun n => PyData.bool (p n)) (it := iAny (e1 (gItD partsAt) (eVar 2))) (xs := ns) (i := 3) (e := cF 2 rec (aCons (e2 gIx (eVar 0) (eVar 3)) (aCons (e2 gSub (eVar 1) (eK (.int 1))) aNil))) (ρ := [some (.d (.tuple xs)), some (.d (.int ((d + 1 : Nat) : Int))), some (.d (.str w)), none]) (μ := μ) (μ1 := μ) (by
      rw [x_iany, x_e1, x_vs, x_vs, x_v0]
      simp only [Out.bind_ok, it, x_calm]
      rfl) (by omega) fun n hn => by
      obtain ⟨y, h1, h2⟩ := h n hn
      have a := at_n h1
      simp [a, h2]
  show (en gAll (aCons (eFrz (lLc (iAny (e1 (gItD partsAt) (eVar 2))) (gNm 3) bYes (cF 2 rec (aCons (e2 gIx (eVar 0) (eVar 3)) (aCons (e2 gSub (eVar 1) (eK (.int 1))) aNil))) [3])) aNil) |> sRet) _ μ = _
  have ga := v_allm (xs := ns) (p := p) (μ := μ)
  rw [show ((d + 1 : Nat) : Int) = (d : Int) + 1 from rfl] at lc
  simp [lc, ga]
theorem sy_tuple {rec : GF} {w : Str} {r : List PyData} {d : Nat} {μ : Mu} : sSeq SY1 (sSeq SY2 (sSeq SY3 (sSeq SY4 (sSeq SY5 (sSeq SY6 ((SY7 rec))))))) [some (.d (.tuple (.str w :: r))), some (.d (.int ((d + 1 : Nat) : Int))), none, none] μ =
    sSeq SY3 (sSeq SY4 (sSeq SY5 (sSeq SY6 (SY7 rec)))) [some (.d (.tuple (.str w :: r))), some (.d (.int ((d + 1 : Nat) : Int))), some (.d (.str w)), none] μ := by
  have l0 : ¬ ((d : Int) + 1 = 0) := by omega
  have s1 : SY1 [some (.d (.tuple (.str w :: r))), some (.d (.int ((d + 1 : Nat) : Int))), none, none] μ = .ok (.nx [some (.d (.tuple (.str w :: r))), some (.d (.int ((d + 1 : Nat) : Int))), none, none]) μ := by
    simp [SY1, kinds, subTy, tyName, l0]
  have s2 : SY2 [some (.d (.tuple (.str w :: r))), some (.d (.int ((d + 1 : Nat) : Int))), none, none] μ = .ok (.nx [some (.d (.tuple (.str w :: r))), some (.d (.int ((d + 1 : Nat) : Int))), some (.d (.str w)), none]) μ := by
    simp [SY2]
  rw [seq_ok s1, seq_ok s2]
theorem seq_rt {a b : Sv} {ρ : Rho} {μ μ' : Mu} {w : Wv} (h : a ρ μ = .ok (.rt w) μ') : sSeq a b ρ μ = .ok (.rt w) μ' := by
  rw [x_seq, h]
  rfl
theorem parse_nontup {d : Nat} {x : PyData} (hx : ¬ ∃ w r, x = .tuple (.str w :: r)) : parse d x = none := by
  cases d with
  | zero => rfl
  | succ d =>
    cases x with
    | tuple xs =>
      cases xs with
      | nil => rfl
      | cons y r =>
        cases y with
        | str w => exact (hx ⟨w, r, rfl⟩).elim
        | _ => rfl
    | _ => rfl
theorem t_sayinged {n : Nat} (hn : n ≤ 1000) : ∀ (f : Nat) {d k : Nat} {x : PyData} {μ : Mu}, Dz n k x → d < f → f_is_sayinged f [.d x, .d (.int (d : Int))] μ = .ok (.d (.bool (parse d x).isSome)) μ := by
  intro f
  induction f with
  | zero => intro d k x μ _ h; omega
  | succ f ih =>
    intro d k x μ hd hf
    show runD 4 (b_is_sayinged (f_is_sayinged f)) _ μ = _
    refine run_ret ?_
    rw [SY_is]
    show sSeq _ _ [some (.d x), some (.d (.int (d : Int))), none, none] μ = _
    cases d with
    | zero =>
      have e : SY1 [some (.d x), some (.d (.int ((0 : Nat) : Int))), none, none] μ = .ok (.rt (.d (.bool false))) μ := by simp [SY1]
      rw [seq_rt e]
      rfl
    | succ d =>
      have l0 : ¬ ((d : Int) + 1 = 0) := by omega
      by_cases hx : ∃ w r, x = .tuple (.str w :: r)
      · obtain ⟨w, r, rfl⟩ := hx
        rw [sy_tuple]
        have hin : ∀ y ∈ (PyData.str w :: r), ∃ k, Dz n k y := fun y hy => (dz_in hd hy).imp fun _ h => h.2
        have hw : PyData.canLay0 (.str w) = true := dz_str.mp (hin _ List.mem_cons_self).choose_spec
        have hr : ∀ y ∈ r, ∃ k, Dz n k y := fun y hy => hin y (List.mem_cons_of_mem _ hy)
        have tf := g_tf (neg := false) (μ := μ) hw
        have rl := g_rel (neg := false) (μ := μ) hw
        have qu := g_qu (neg := false) (μ := μ) hw
        have pin := part_in (neg := true) (w := w) (μ := μ)
        have pat := fun c => part_at (w := w) (c := c) (μ := μ)
        have s3 : wk w ≠ .tf → SY3 [some (.d (.tuple (.str w :: r))), some (.d (.int ((d + 1 : Nat) : Int))), some (.d (.str w)), none] μ = .ok (.nx [some (.d (.tuple (.str w :: r))), some (.d (.int ((d + 1 : Nat) : Int))), some (.d (.str w)), none]) μ := fun h => by simp [SY3, tf, h]
        have s4 : wk w ≠ .rel → SY4 [some (.d (.tuple (.str w :: r))), some (.d (.int ((d + 1 : Nat) : Int))), some (.d (.str w)), none] μ = .ok (.nx [some (.d (.tuple (.str w :: r))), some (.d (.int ((d + 1 : Nat) : Int))), some (.d (.str w)), none]) μ := fun h => by simp [SY4, rl, h]
        have s6 : wk w ≠ .qu → SY6 [some (.d (.tuple (.str w :: r))), some (.d (.int ((d + 1 : Nat) : Int))), some (.d (.str w)), none] μ = .ok (.nx [some (.d (.tuple (.str w :: r))), some (.d (.int ((d + 1 : Nat) : Int))), some (.d (.str w)), none]) μ := fun h => by simp [SY6, qu, h]
        cases hk : wk w with
        | tf =>
          rw [hk] at tf
          have e : SY3 [some (.d (.tuple (.str w :: r))), some (.d (.int ((d + 1 : Nat) : Int))), some (.d (.str w)), none] μ = .ok (.rt (.d (.bool (parse (d + 1) (.tuple (.str w :: r))).isSome))) μ := by
            cases r with
            | nil => simp [SY3, tf, parse, hk]
            | cons y r =>
              have l1 : ¬ ((r.length : Int) + 1 + 1 = 1) := by omega
              simp [SY3, tf, parse, hk, l1]
          rw [seq_rt e]
        | rel =>
          rw [hk] at rl
          have e : SY4 [some (.d (.tuple (.str w :: r))), some (.d (.int ((d + 1 : Nat) : Int))), some (.d (.str w)), none] μ = .ok (.rt (.d (.bool (parse (d + 1) (.tuple (.str w :: r))).isSome))) μ := by
            match r, hr with
            | [], _ => simp [SY4, rl, parse, hk]
            | [y], hr =>
              obtain ⟨k', hy⟩ := hr y List.mem_cons_self
              have lp := t_low (μ := μ) hy hn
              cases hb : lowB y <;> simp [SY4, rl, lp, parse, hk, hb]
            | y :: z :: r, _ =>
              have l1 : ¬ ((r.length : Int) + 1 + 1 + 1 = 2) := by omega
              simp [SY4, rl, l1, parse, hk]
          rw [seq_ok (s3 (by rw [hk]; decide)), seq_rt e]
        | oth =>
          rw [hk] at pin
          have e : SY5 [some (.d (.tuple (.str w :: r))), some (.d (.int ((d + 1 : Nat) : Int))), some (.d (.str w)), none] μ = .ok (.rt (.d (.bool false))) μ := by simp [SY5, pin, partsOf]
          rw [seq_ok (s3 (by rw [hk]; decide)), seq_ok (s4 (by rw [hk]; decide)), seq_rt e]
          simp only [parse, hk]
          rfl
        | no =>
          rw [hk] at pin
          have pa := pat (.tuple [.int 1]) (by rw [hk]; rfl)
          rw [seq_ok (s3 (by rw [hk]; decide)), seq_ok (s4 (by rw [hk]; decide))]
          match r, hr with
          | [y], hr =>
            have s5 : SY5 [some (.d (.tuple (.str w :: [y]))), some (.d (.int ((d + 1 : Nat) : Int))), some (.d (.str w)), none] μ = .ok (.nx [some (.d (.tuple (.str w :: [y]))), some (.d (.int ((d + 1 : Nat) : Int))), some (.d (.str w)), none]) μ := by simp [SY5, pin, pa, partsOf, at_last]
            obtain ⟨k', hy⟩ := hr y List.mem_cons_self
            have iy := ih (d := d) (μ := μ) hy (by omega)
            rw [seq_ok s5, seq_ok (s6 (by rw [hk]; decide)), say_end (ns := [1]) (p := fun _ => (parse d y).isSome) (by rw [hk]; rfl) (by decide) fun m hm => by
              rw [List.mem_singleton] at hm
              subst hm
              exact ⟨y, rfl, iy⟩]
            simp [parse, hk]
          | [], _ =>
            have e : SY5 [some (.d (.tuple (.str w :: []))), some (.d (.int ((d + 1 : Nat) : Int))), some (.d (.str w)), none] μ = .ok (.rt (.d (.bool false))) μ := by simp [SY5, pin, pa, partsOf, at_last]
            rw [seq_rt e]
            simp only [parse, hk]
            rfl
          | y :: z :: r, _ =>
            have l1 : ¬ ((r.length : Int) + 1 + 1 + 1 = 2) := by omega
            have e : SY5 [some (.d (.tuple (.str w :: y :: z :: r))), some (.d (.int ((d + 1 : Nat) : Int))), some (.d (.str w)), none] μ = .ok (.rt (.d (.bool false))) μ := by simp [SY5, pin, pa, partsOf, at_last, l1]
            rw [seq_rt e]
            simp only [parse, hk]
            rfl
        | bin =>
          rw [hk] at pin
          have pa := pat (.tuple [.int 1, .int 2]) (by rw [hk]; rfl)
          rw [seq_ok (s3 (by rw [hk]; decide)), seq_ok (s4 (by rw [hk]; decide))]
          match r, hr with
          | [y, u], hr =>
            have s5 : SY5 [some (.d (.tuple (.str w :: [y, u]))), some (.d (.int ((d + 1 : Nat) : Int))), some (.d (.str w)), none] μ = .ok (.nx [some (.d (.tuple (.str w :: [y, u]))), some (.d (.int ((d + 1 : Nat) : Int))), some (.d (.str w)), none]) μ := by simp [SY5, pin, pa, partsOf, at_last]
            obtain ⟨k', hy⟩ := hr y List.mem_cons_self
            obtain ⟨k2, hu⟩ := hr u (List.mem_cons_of_mem _ List.mem_cons_self)
            have iy := ih (d := d) (μ := μ) hy (by omega)
            have iu := ih (d := d) (μ := μ) hu (by omega)
            rw [seq_ok s5, seq_ok (s6 (by rw [hk]; decide)), say_end (ns := [1, 2]) (p := fun m => if m = 1 then (parse d y).isSome else (parse d u).isSome) (by rw [hk]; rfl) (by decide) fun m hm => by
              simp only [List.mem_cons, List.not_mem_nil, or_false] at hm
              rcases hm with rfl | rfl
              · exact ⟨y, rfl, iy⟩
              · exact ⟨u, rfl, iu⟩]
            simp only [parse, hk]
            cases parse d y <;> cases parse d u <;> rfl
          | [], _ =>
            have e : SY5 [some (.d (.tuple (.str w :: []))), some (.d (.int ((d + 1 : Nat) : Int))), some (.d (.str w)), none] μ = .ok (.rt (.d (.bool false))) μ := by simp [SY5, pin, pa, partsOf, at_last]
            rw [seq_rt e]
            simp only [parse, hk]
            rfl
          | [y], _ =>
            have e : SY5 [some (.d (.tuple (.str w :: [y]))), some (.d (.int ((d + 1 : Nat) : Int))), some (.d (.str w)), none] μ = .ok (.rt (.d (.bool false))) μ := by simp [SY5, pin, pa, partsOf, at_last]
            rw [seq_rt e]
            simp only [parse, hk]
            rfl
          | y :: z :: v :: r, _ =>
            have l1 : ¬ ((r.length : Int) + 1 + 1 + 1 + 1 = 3) := by omega
            have e : SY5 [some (.d (.tuple (.str w :: y :: z :: v :: r))), some (.d (.int ((d + 1 : Nat) : Int))), some (.d (.str w)), none] μ = .ok (.rt (.d (.bool false))) μ := by simp [SY5, pin, pa, partsOf, at_last, l1]
            rw [seq_rt e]
            simp only [parse, hk]
            rfl
        | qu =>
          rw [hk] at pin qu
          have pa := pat (.tuple [.int 2]) (by rw [hk]; rfl)
          rw [seq_ok (s3 (by rw [hk]; decide)), seq_ok (s4 (by rw [hk]; decide))]
          match r, hr with
          | [l, y], hr =>
            have s5 : SY5 [some (.d (.tuple (.str w :: [l, y]))), some (.d (.int ((d + 1 : Nat) : Int))), some (.d (.str w)), none] μ = .ok (.nx [some (.d (.tuple (.str w :: [l, y]))), some (.d (.int ((d + 1 : Nat) : Int))), some (.d (.str w)), none]) μ := by simp [SY5, pin, pa, partsOf, at_last]
            obtain ⟨k', hl⟩ := hr l List.mem_cons_self
            obtain ⟨k2, hy⟩ := hr y (List.mem_cons_of_mem _ List.mem_cons_self)
            have tl := t_letter (μ := μ) hl
            have iy := ih (d := d) (μ := μ) hy (by omega)
            rw [seq_ok s5]
            cases hb : letB l with
            | true =>
              rw [hb] at tl
              have s6 : SY6 [some (.d (.tuple (.str w :: [l, y]))), some (.d (.int ((d + 1 : Nat) : Int))), some (.d (.str w)), none] μ = .ok (.nx [some (.d (.tuple (.str w :: [l, y]))), some (.d (.int ((d + 1 : Nat) : Int))), some (.d (.str w)), none]) μ := by simp [SY6, qu, tl]
              rw [seq_ok s6, say_end (ns := [2]) (p := fun _ => (parse d y).isSome) (by rw [hk]; rfl) (by decide) fun m hm => by
                rw [List.mem_singleton] at hm
                subst hm
                exact ⟨y, rfl, iy⟩]
              cases l with
              | str z =>
                have hz : isXY z = true := hb
                simp only [parse, hk, hz, if_true]
                cases parse d y <;> rfl
              | _ => cases hb
            | false =>
              rw [hb] at tl
              have e : SY6 [some (.d (.tuple (.str w :: [l, y]))), some (.d (.int ((d + 1 : Nat) : Int))), some (.d (.str w)), none] μ = .ok (.rt (.d (.bool false))) μ := by simp [SY6, qu, tl]
              rw [seq_rt e]
              cases l with
              | str z =>
                have hz : isXY z = false := hb
                simp only [parse, hk, hz]
                rfl
              | _ =>
                simp only [parse, hk]
                rfl
          | [], _ =>
            have e : SY5 [some (.d (.tuple (.str w :: []))), some (.d (.int ((d + 1 : Nat) : Int))), some (.d (.str w)), none] μ = .ok (.rt (.d (.bool false))) μ := by simp [SY5, pin, pa, partsOf, at_last]
            rw [seq_rt e]
            simp only [parse, hk]
            rfl
          | [y], _ =>
            have e : SY5 [some (.d (.tuple (.str w :: [y]))), some (.d (.int ((d + 1 : Nat) : Int))), some (.d (.str w)), none] μ = .ok (.rt (.d (.bool false))) μ := by simp [SY5, pin, pa, partsOf, at_last]
            rw [seq_rt e]
            simp only [parse, hk]
            rfl
          | y :: z :: v :: r, _ =>
            have l1 : ¬ ((r.length : Int) + 1 + 1 + 1 + 1 = 3) := by omega
            have e : SY5 [some (.d (.tuple (.str w :: y :: z :: v :: r))), some (.d (.int ((d + 1 : Nat) : Int))), some (.d (.str w)), none] μ = .ok (.rt (.d (.bool false))) μ := by simp [SY5, pin, pa, partsOf, at_last, l1]
            rw [seq_rt e]
            have : parse (d + 1) (.tuple (.str w :: y :: z :: v :: r)) = none := by
              simp only [parse, hk]
            rw [this]
            rfl
      · rw [parse_nontup hx]
        have e : SY1 [some (.d x), some (.d (.int ((d + 1 : Nat) : Int))), none, none] μ = .ok (.rt (.d (.bool false))) μ := by
          cases x with
          | tuple xs =>
            cases xs with
            | nil => simp [SY1, kinds, subTy, tyName, l0]
            | cons y r =>
              cases y with
              | str w => exact (hx ⟨w, r, rfl⟩).elim
              | _ => simp [SY1, kinds, subTy, tyName, l0]
          | _ => simp [SY1, kinds, subTy, tyName, l0]
        rw [seq_rt e]
        rfl
end LW
namespace LW
open PySem PySem.Spec TL
open L2 (atI ixN)
/-- a comprehension that leaves out -/
theorem loopC_filter {p : PyData → Bool} {xs0 : Cell} {i : Nat} {c : Bv} {e : Ev} {ρ : Rho} {μ : Mu} (hi : ∀ x, e (ρ.set i (some (.d x))) μ = .ok (.d x) μ) : ∀ (xs acc : Cell), acc.length + xs.length ≤ 16777216 → (∀ x ∈ xs, c (ρ.set i (some (.d x))) μ = .ok (p x) μ) →
    loopC ⟨xs0, []⟩ (gNm i) c e ρ xs acc μ = .ok (acc ++ xs.filter p) μ
  | [], acc, _, _ => by
    unfold loopC
    rw [if_pos tied_nil, List.filter_nil, List.append_nil]
  | x :: xs, acc, hl, hc => by
    rw [List.length_cons] at hl
    unfold loopC
    rw [if_pos tied_nil]
    simp only [x_nm, x_calm, Out.bind_ok, hc x List.mem_cons_self, hi]
    cases hp : p x with
    | true =>
      rw [if_pos rfl]
      unfold lcPut
      simp only [x_calm, Out.bind_ok]
      rw [if_pos (by omega)]
      simp only [Out.bind_ok]
      rw [loopC_filter hi xs _ (by rw [List.length_append, List.length_singleton]; omega) fun y hy => hc y (List.mem_cons_of_mem _ hy), List.filter_cons, hp, if_pos rfl, List.append_assoc, List.singleton_append]
    | false =>
      rw [if_neg (by decide), loopC_filter hi xs _ (by omega) fun y hy => hc y (List.mem_cons_of_mem _ hy), List.filter_cons, hp, if_neg (by decide)]
theorem lc_filter {p : PyData → Bool} {it : TL.Iv} {xs : Cell} {i : Nat} {c : Bv} {e : Ev} {ρ : Rho} {μ μ1 : Mu} (hit : it ρ μ = .ok ⟨xs, []⟩ μ1) (hl : xs.length ≤ 16777216) (hi : ∀ x, e ((ρ.set i none).set i (some (.d x))) μ1 = .ok (.d x) μ1)
    (hc : ∀ x ∈ xs, c ((ρ.set i none).set i (some (.d x))) μ1 = .ok (p x) μ1) : lLc it (gNm i) c e [i] ρ μ = .ok (xs.filter p) μ1 := by
  have := loopC_filter (p := p) (xs0 := xs) (i := i) (c := c) (e := e) (ρ := ρ.set i none) (μ := μ1) hi xs [] (by simpa using hl) hc
  rw [List.nil_append] at this
  show (it ρ μ).bind (fun i1 μ1 => loopC i1 (gNm i) c e (wipeR ρ [i]) i1.xs [] μ1) = _
  rw [hit]
  exact this
/-- short loops -/
theorem for_nil {it : TL.Iv} {t : Gv} {b : Sv} {ρ : Rho} {μ μ1 : Mu} (hit : it ρ μ = .ok ⟨[], []⟩ μ1) : sFor it t b ρ μ = .ok (.nx ρ) μ1 := by
  unfold sFor
  rw [hit]
  show loopF _ _ _ _ _ _ = _
  unfold loopF
  rw [if_pos tied_nil]
theorem for_one {it : TL.Iv} {i : Nat} {b : Sv} {ρ ρ' : Rho} {μ μ1 μ2 : Mu} {x : PyData} (hit : it ρ μ = .ok ⟨[x], []⟩ μ1) (hb : b (ρ.set i (some (.d x))) μ1 = .ok (.nx ρ') μ2) : sFor it (gNm i) b ρ μ = .ok (.nx ρ') μ2 := by
  unfold sFor
  rw [hit]
  show loopF _ _ _ _ _ _ = _
  unfold loopF
  rw [if_pos tied_nil]
  simp only [x_nm, x_calm, Out.bind_ok, hb]
  unfold loopF
  rw [if_pos tied_nil]
theorem for_two {it : TL.Iv} {i : Nat} {b : Sv} {ρ ρ1 ρ' : Rho} {μ μ1 μ2 μ3 : Mu} {x y : PyData} (hit : it ρ μ = .ok ⟨[x, y], []⟩ μ1) (h1 : b (ρ.set i (some (.d x))) μ1 = .ok (.nx ρ1) μ2) (h2 : b (ρ1.set i (some (.d y))) μ2 = .ok (.nx ρ') μ3) : sFor it (gNm i) b ρ μ = .ok (.nx ρ') μ3 := by
  unfold sFor
  rw [hit]
  show loopF _ _ _ _ _ _ = _
  unfold loopF
  rw [if_pos tied_nil]
  simp only [x_nm, x_calm, Out.bind_ok, h1]
  unfold loopF
  rw [if_pos tied_nil]
  simp only [x_nm, x_calm, Out.bind_ok, h2]
  unfold loopF
  rw [if_pos tied_nil]
theorem g_inS {neg : Bool} {x : PyData} {ys : List PyData} {μ : Mu} (hx : SeqAt.shaped x = true) (hy : SeqAt.shaped (.tuple ys) = true) : gIn neg (.d x) (.d (.tuple ys)) μ = .ok (.d (.bool (if neg then !(ys.any fun z => PyData.eqv z x) else ys.any fun z => PyData.eqv z x))) μ := by
  have e : inP x (.tuple ys) = some (ys.any fun z => PyData.eqv z x) := by
    have : inP x (.tuple ys) = if SeqAt.shaped x = true ∧ SeqAt.shaped (.tuple ys) = true then some (ys.any fun z => PyData.eqv z x) else none := by cases x <;> rfl
    rw [this, if_pos ⟨hx, hy⟩]
  show (match dataOf μ (.d x), dataOf μ (.d (.tuple ys)) with
    | some x, some y => match inP x y with
      | some c => Out.ok (wBl (if neg then !c else c)) μ
      | none => .bad
    | _, _ => .bad) = _
  simp only [x_dd, e]
theorem g_inL {neg : Bool} {x : PyData} {ys : List PyData} {μ : Mu} (hx : SeqAt.shaped x = true) (hy : SeqAt.shaped (.tuple ys) = true) : gIn neg (.d x) (.d (.list ys)) μ = .ok (.d (.bool (if neg then !(ys.any fun z => PyData.eqv z x) else ys.any fun z => PyData.eqv z x))) μ := by
  have e : inP x (.list ys) = some (ys.any fun z => PyData.eqv z x) := by
    have : inP x (.list ys) = if SeqAt.shaped x = true ∧ SeqAt.shaped (.list ys) = true then some (ys.any fun z => PyData.eqv z x) else none := by cases x <;> rfl
    rw [this, if_pos ⟨hx, hy⟩]
  show (match dataOf μ (.d x), dataOf μ (.d (.list ys)) with
    | some x, some y => match inP x y with
      | some c => Out.ok (wBl (if neg then !c else c)) μ
      | none => .bad
    | _, _ => .bad) = _
  simp only [x_dd, e]
end LW
namespace LW
open PySem PySem.Spec TL
open L2 (atI ixN)
/-- the form of a saying; L: what is known of its polynomials -/
def Say.WF (L : PyData → Prop) : Say → Prop
  | .tf w => wk w = .tf
  | .rel w x => wk w = .rel ∧ L x
  | .no a => a.WF L
  | .bin w a b => wk w = .bin ∧ a.WF L ∧ b.WF L
  | .qu w l a => wk w = .qu ∧ isXY l = true ∧ a.WF L
theorem Say.WF.mono {L M : PyData → Prop} (h : ∀ x, L x → M x) : ∀ {s : Say}, s.WF L → s.WF M
  | .tf _, w => w
  | .rel _ _, w => ⟨w.1, h _ w.2⟩
  | .no a, w => Say.WF.mono h (s := a) w
  | .bin _ _ _, w => ⟨w.1, w.2.1.mono h, w.2.2.mono h⟩
  | .qu _ _ _, w => ⟨w.1, w.2.1, w.2.2.mono h⟩
theorem wk_no {w : Str} (h : wk w = .no) : w = "not" := of_decide_eq_true ((is_no w).trans (by rw [h]; rfl))
theorem wk_not : wk "not" = .no := by decide +kernel
theorem parse_ok {n : Nat} : ∀ {d k : Nat} {x : PyData} {s : Say}, Dz n k x → parse d x = some s → s.toD = x ∧ s.dep ≤ d ∧ s.WF fun x => lowB x = true ∧ ∃ k, Dz n k x := by
  intro d
  induction d with
  | zero => intro k x s _ h; cases h
  | succ d ih =>
    intro k x s hd h
    by_cases hx : ∃ w r, x = .tuple (.str w :: r)
    · obtain ⟨w, r, rfl⟩ := hx
      have hin : ∀ y ∈ (PyData.str w :: r), ∃ k, Dz n k y := fun y hy => (dz_in hd hy).imp fun _ h => h.2
      have hr : ∀ y ∈ r, ∃ k, Dz n k y := fun y hy => hin y (List.mem_cons_of_mem _ hy)
      cases hk : wk w with
      | tf =>
        match r with
        | [] =>
          simp only [parse, hk, Option.some.injEq] at h
          subst h
          exact ⟨rfl, Nat.succ_le_succ (Nat.zero_le _), hk⟩
        | y :: r => simp [parse, hk] at h
      | rel =>
        match r, hr with
        | [y], hr =>
          simp only [parse, hk] at h
          by_cases hl : lowB y = true
          · rw [if_pos hl] at h
            cases h
            exact ⟨rfl, Nat.succ_le_succ (Nat.zero_le _), hk, hl, hr y List.mem_cons_self⟩
          · rw [if_neg hl] at h
            cases h
        | [], _ => simp [parse, hk] at h
        | y :: z :: r, _ => simp [parse, hk] at h
      | no =>
        match r, hr with
        | [y], hr =>
          simp only [parse, hk, Option.map_eq_some_iff] at h
          obtain ⟨a, ha, rfl⟩ := h
          obtain ⟨k', hy⟩ := hr y List.mem_cons_self
          obtain ⟨h1, h2, h3⟩ := ih hy ha
          refine ⟨?_, Nat.succ_le_succ h2, h3⟩
          rw [wk_no hk, ← h1]
          rfl
        | [], _ => simp [parse, hk] at h
        | y :: z :: r, _ => simp [parse, hk] at h
      | bin =>
        match r, hr with
        | [y, u], hr =>
          simp only [parse, hk, Option.bind_eq_some_iff, Option.map_eq_some_iff] at h
          obtain ⟨a, ha, b, hb, rfl⟩ := h
          obtain ⟨k', hy⟩ := hr y List.mem_cons_self
          obtain ⟨k2, hu⟩ := hr u (List.mem_cons_of_mem _ List.mem_cons_self)
          obtain ⟨h1, h2, h3⟩ := ih hy ha
          obtain ⟨g1, g2, g3⟩ := ih hu hb
          refine ⟨?_, ?_, hk, h3, g3⟩
          · rw [← h1, ← g1]
            rfl
          · show max a.dep b.dep + 1 ≤ d + 1
            omega
        | [], _ => simp [parse, hk] at h
        | [y], _ => simp [parse, hk] at h
        | y :: z :: v :: r, _ => simp [parse, hk] at h
      | qu =>
        match r, hr with
        | [l, y], hr =>
          cases l with
          | str l =>
            simp only [parse, hk] at h
            by_cases hl : isXY l = true
            · rw [if_pos hl, Option.map_eq_some_iff] at h
              obtain ⟨a, ha, rfl⟩ := h
              obtain ⟨k', hy⟩ := hr y (List.mem_cons_of_mem _ List.mem_cons_self)
              obtain ⟨h1, h2, h3⟩ := ih hy ha
              refine ⟨?_, Nat.succ_le_succ h2, hk, hl, h3⟩
              rw [← h1]
              rfl
            · rw [if_neg hl] at h
              cases h
          | _ => simp [parse, hk] at h
        | [], _ => simp [parse, hk] at h
        | [y], _ => simp [parse, hk] at h
        | y :: z :: v :: r, _ => simp [parse, hk] at h
      | oth => simp [parse, hk] at h
    · rw [parse_nontup hx] at h
      cases h
theorem parse_toD : ∀ {s : Say} {d : Nat}, s.WF (fun x => lowB x = true) → s.dep ≤ d → parse d s.toD = some s
  | s, 0, _, h => by have := dep_pos s; omega
  | .tf w, d + 1, hw, _ => by
    have hw : wk w = .tf := hw
    simp only [Say.toD, parse, hw]
  | .rel w x, d + 1, hw, _ => by
    simp only [Say.toD, parse, hw.1, if_pos hw.2]
  | .no a, d + 1, hw, h => by
    have := parse_toD (s := a) (d := d) hw (Nat.le_of_succ_le_succ h)
    simp only [Say.toD, parse, wk_not, this, Option.map_some]
  | .bin w a b, d + 1, hw, h => by
    have h : max a.dep b.dep + 1 ≤ d + 1 := h
    have h1 := parse_toD (s := a) (d := d) hw.2.1 (by omega)
    have h2 := parse_toD (s := b) (d := d) hw.2.2 (by omega)
    simp only [Say.toD, parse, hw.1, h1, h2, Option.bind_some, Option.map_some]
  | .qu w l a, d + 1, hw, h => by
    have h1 := parse_toD (s := a) (d := d) hw.2.2 (Nat.le_of_succ_le_succ h)
    simp only [Say.toD, parse, hw.1, if_pos hw.2.1, h1, Option.map_some]
theorem parse_up {n d d' k : Nat} {x : PyData} {s : Say} (hd : Dz n k x) (h : parse d x = some s) (h' : s.dep ≤ d') : parse d' x = some s := by
  obtain ⟨e, _, w⟩ := parse_ok hd h
  rw [← e]
  exact parse_toD (w.mono fun _ h => h.1) h'
/-- some put behind, each once -/
def addN (f xs : List PyData) : List PyData := f ++ xs.filter fun x => !f.any fun z => PyData.eqv z x
theorem addN_nil {xs : List PyData} : addN [] xs = xs := by simp [addN]
theorem addN_len {f xs : List PyData} : (addN f xs).length ≤ f.length + xs.length := by
  unfold addN
  have := List.length_filter_le (fun x => !f.any fun z => PyData.eqv z x) xs
  rw [List.length_append]
  omega
theorem addN_mem {f xs : List PyData} {x : PyData} (h : x ∈ addN f xs) : x ∈ f ∨ x ∈ xs := by
  unfold addN at h
  rcases List.mem_append.mp h with h | h
  · exact .inl h
  · exact .inr (List.mem_filter.mp h).1
def Say.pls : Say → List PyData
  | .tf _ => []
  | .rel _ x => [x]
  | .no a => a.pls
  | .bin _ a b => addN a.pls b.pls
  | .qu _ _ a => a.pls
theorem pls_len : ∀ {s : Say}, s.pls.length ≤ 2 ^ s.dep
  | .tf _ => Nat.zero_le _
  | .rel _ _ => (by decide : 1 ≤ 2 ^ 1)
  | .no a => by
    have := pls_len (s := a)
    show a.pls.length ≤ 2 ^ (a.dep + 1)
    rw [Nat.pow_succ]
    omega
  | .bin _ a b => by
    have h1 := pls_len (s := a)
    have h2 := pls_len (s := b)
    have h3 := addN_len (f := a.pls) (xs := b.pls)
    have h4 : 2 ^ a.dep ≤ 2 ^ (max a.dep b.dep) := Nat.pow_le_pow_right (by decide) (by omega)
    have h5 : 2 ^ b.dep ≤ 2 ^ (max a.dep b.dep) := Nat.pow_le_pow_right (by decide) (by omega)
    show (addN a.pls b.pls).length ≤ 2 ^ (max a.dep b.dep + 1)
    rw [Nat.pow_succ]
    omega
  | .qu _ _ a => by
    have := pls_len (s := a)
    show a.pls.length ≤ 2 ^ (a.dep + 1)
    rw [Nat.pow_succ]
    omega
theorem pls_L {L : PyData → Prop} : ∀ {s : Say}, s.WF L → ∀ x ∈ s.pls, L x
  | .tf _, _, _, h => by cases h
  | .rel _ _, w, x, h => by
    rw [List.mem_singleton.mp h]
    exact w.2
  | .no a, w, x, h => pls_L (s := a) w x h
  | .bin _ _ _, w, x, h => (addN_mem h).elim (pls_L w.2.1 x) (pls_L w.2.2 x)
  | .qu _ _ _, w, x, h => pls_L w.2.2 x h
def hasX : PyData → Bool
  | .tuple rows => rows.any fun r => decide (1 < lenD r)
  | _ => false
def hasY (x : PyData) : Bool := decide (1 < lenD x)
def Say.fr : Say → Str → Bool
  | .tf _, _ => false
  | .rel _ x, l => if l = "y" then hasY x else hasX x
  | .no a, l => a.fr l
  | .bin _ a b, l => a.fr l || b.fr l
  | .qu _ m a, l => !decide (m = l) && a.fr l
def XY : List Str := ["x", "y"]
def Say.lts (s : Say) : List Str := XY.filter s.fr
/-- what is known of the polynomials of a saying that was drawn -/
def LowD (n : Nat) (x : PyData) : Prop := lowB x = true ∧ ∃ k, Dz n k x
theorem low_can {x : PyData} (h : lowB x = true) {n k : Nat} (hd : Dz n k x) : PyData.canLay0 x = true ∧ PyData.depth x ≤ 2 := by
  obtain ⟨P, rfl, -⟩ := low_of h hd
  have ri : ∀ a : List Int, PyData.canLayAll0 (Li a) = true ∧ PyData.depthAll (Li a) = 0 := by
    intro a
    induction a with
    | nil => exact ⟨rfl, rfl⟩
    | cons i a ih =>
      show PyData.canLayAll0 (.int i :: Li a) = true ∧ PyData.depthAll (.int i :: Li a) = 0
      exact ⟨by simp only [PyData.canLayAll0, PyData.canLay0, ih.1, Bool.and_self], by simp only [PyData.depthAll, PyData.depth, ih.2]; rfl⟩
  have rp : ∀ P : Pol, PyData.canLayAll0 (Lp P) = true ∧ PyData.depthAll (Lp P) ≤ 1 := by
    intro P
    induction P with
    | nil => exact ⟨rfl, Nat.zero_le _⟩
    | cons a P ih =>
      show PyData.canLayAll0 (Rw' a :: Lp P) = true ∧ PyData.depthAll (Rw' a :: Lp P) ≤ 1
      obtain ⟨h1, h2⟩ := ri a
      refine ⟨?_, ?_⟩
      · simp only [PyData.canLayAll0, PyData.canLay0, h1, ih.1, Bool.and_self]
      · simp only [PyData.depthAll, PyData.depth, h2]
        have := ih.2
        omega
  obtain ⟨h1, h2⟩ := rp P
  refine ⟨?_, ?_⟩
  · simp only [PyData.canLay0, h1]
  · simp only [PyData.depth]
    omega
theorem low_shaped {n : Nat} {x : PyData} (h : LowD n x) : SeqAt.shaped x = true := by
  obtain ⟨h1, k, h2⟩ := h
  obtain ⟨a, b⟩ := low_can h1 h2
  unfold SeqAt.shaped
  rw [a, decide_eq_true (show x.depth ≤ 64 by omega)]
  rfl
theorem lows_shaped {n : Nat} {xs : List PyData} (h : ∀ x ∈ xs, LowD n x) : SeqAt.shaped (.tuple xs) = true := by
  have key : PyData.canLayAll0 xs = true ∧ PyData.depthAll xs ≤ 2 := by
    induction xs with
    | nil => exact ⟨rfl, Nat.zero_le _⟩
    | cons x xs ih =>
      obtain ⟨h1, k, h2⟩ := h x List.mem_cons_self
      obtain ⟨a, b⟩ := low_can h1 h2
      obtain ⟨c, e⟩ := ih fun y hy => h y (List.mem_cons_of_mem _ hy)
      refine ⟨?_, ?_⟩
      · simp only [PyData.canLayAll0, a, c, Bool.and_self]
      · simp only [PyData.depthAll]
        omega
  unfold SeqAt.shaped
  have : PyData.depth (.tuple xs) ≤ 64 := by
    simp only [PyData.depth]
    omega
  rw [decide_eq_true this]
  simp only [PyData.canLay0, key.1]
  rfl
end LW
namespace LW
open PySem PySem.Spec TL
open L2 (atI ixN)
/-- the parts of a saying -/
def Say.parts : Say → List Say
  | .tf _ => []
  | .rel _ _ => []
  | .no a => [a]
  | .bin _ a b => [a, b]
  | .qu _ _ a => [a]
theorem parts_end {w : Str} {r : List PyData} {ns : List Nat} {g : Nat → PyData} {μ : Mu} (hp : (partsOf (wk w)).getD (.tuple []) = .tuple (ns.map fun n : Nat => PyData.int (n : Int))) (hl : ns.length ≤ 2) (h : ∀ n ∈ ns, (PyData.str w :: r)[n]? = some (g n)) :
    f_parts_of [.d (.tuple (.str w :: r))] μ = .ok (.d (.list (ns.map g))) μ := by
  have it : gGetD partsAt (.d (.str w)) (.d (.tuple [])) μ = .ok (.d (.tuple (ns.map fun n : Nat => PyData.int (n : Int)))) μ := by
    show (match partsAt.lookup w with
      | some c => Out.ok (Wv.d c) μ
      | none => Out.ok (Wv.d (.tuple [])) μ) = _
    rw [parts_look]
    cases hk : partsOf (wk w) with
    | none =>
      rw [hk] at hp
      rw [← hp]
      rfl
    | some c =>
      rw [hk] at hp
      rw [← hp]
      rfl
  have lc := lc_of (f := fun n : Nat => PyData.int (n : Int)) (g := g) (it := iAny (e2 (gGetD partsAt) (e2 gIx (eVar 0) (eK (.int 0))) (eTup aNil))) (xs := ns) (i := 1) (e := e2 gIx (eVar 0) (eVar 1)) (ρ := [some (.d (.tuple (.str w :: r))), none]) (μ := μ) (μ1 := μ) (by
      rw [x_iany]
      simp [it]
      rfl) (by omega) fun n hn => by
      have a := at_n (h n hn)
      simp [a]
  show runD 2 (sRet (eFrz (lLc (iAny (e2 (gGetD partsAt) (e2 gIx (eVar 0) (eK (.int 0))) (eTup aNil))) (gNm 1) bYes (e2 gIx (eVar 0) (eVar 1)) [1]))) _ μ = _
  refine run_ret ?_
  simp [initR, lc]
theorem t_parts {L : PyData → Prop} {s : Say} {μ : Mu} (w : s.WF L) : f_parts_of [.d s.toD] μ = .ok (.d (.list (s.parts.map Say.toD))) μ := by
  cases s with
  | tf v =>
    have hk : wk v = .tf := w
    exact parts_end (ns := []) (g := fun _ => .none) (by rw [hk]; rfl) (by decide) (fun n hn => by cases hn)
  | rel v x =>
    have hk : wk v = .rel := w.1
    exact parts_end (ns := []) (g := fun _ => .none) (by rw [hk]; rfl) (by decide) (fun n hn => by cases hn)
  | no a =>
    refine parts_end (ns := [1]) (g := fun _ => a.toD) (by rw [wk_not]; rfl) (by decide) (fun n hn => ?_)
    rw [List.mem_singleton] at hn
    subst hn
    rfl
  | bin v a b =>
    have hk : wk v = .bin := w.1
    refine parts_end (ns := [1, 2]) (g := fun n => if n = 1 then a.toD else b.toD) (by rw [hk]; rfl) (by decide) (fun n hn => ?_)
    simp only [List.mem_cons, List.not_mem_nil, or_false] at hn
    rcases hn with rfl | rfl <;> rfl
  | qu v l a =>
    have hk : wk v = .qu := w.1
    refine parts_end (ns := [2]) (g := fun _ => a.toD) (by rw [hk]; rfl) (by decide) (fun n hn => ?_)
    rw [List.mem_singleton] at hn
    subst hn
    rfl
theorem it_parts {L : PyData → Prop} {s : Say} {ρ : Rho} {μ : Mu} (w : s.WF L) (h : ρ[0]? = some (some (.d s.toD))) : iAny (cF 1 f_parts_of (aCons (eVar 0) aNil)) ρ μ = .ok ⟨s.parts.map Say.toD, []⟩ μ := by
  rw [x_iany, x_cF, x_cons, x_var h]
  simp only [Out.bind_ok, x_nil]
  show (f_parts_of [.d s.toD] μ).bind _ = _
  rw [t_parts w]
  rfl
theorem t_depth_by {L : PyData → Prop} : ∀ (f : Nat) {s : Say} {μ : Mu}, s.WF L → s.dep ≤ f → f_depth_by f [.d s.toD] μ = .ok (.d (.int (s.dep : Int))) μ := by
  intro f
  induction f with
  | zero => intro s μ _ h; have := dep_pos s; omega
  | succ f ih =>
    intro s μ w h
    show runD 3 (b_depth_by (f_depth_by f)) _ μ = _
    refine run_ret ?_
    have s1 : sAsg (eK (.int 0)) (gNm 1) [some (.d s.toD), none, none] μ = .ok (.nx [some (.d s.toD), some (.d (.int 0)), none]) μ := by simp
    show sSeq _ (sSeq _ _) [some (.d s.toD), none, none] μ = _
    rw [seq_ok s1]
    have it := it_parts (ρ := [some (.d s.toD), some (.d (.int 0)), none]) (μ := μ) w rfl
    have mx : ∀ a b : Nat, gMax [.d (.int a), .d (.int b)] μ = .ok (.d (.int ((max a b : Nat) : Int))) μ := fun a b => max_two
    cases s with
    | tf v =>
      rw [seq_ok (for_nil it)]
      simp [Say.dep]
    | rel v x =>
      rw [seq_ok (for_nil it)]
      simp [Say.dep]
    | no a =>
      have h : a.dep + 1 ≤ f + 1 := h
      have ia := ih (s := a) (μ := μ) w (by omega)
      have m1 := mx 0 a.dep
      rw [Nat.zero_max] at m1
      rw [seq_ok (for_one (i := 2) (ρ' := [some (.d (Say.no a).toD), some (.d (.int (a.dep : Int))), some (.d a.toD)]) (μ2 := μ) it (by
        simp [ia]
        exact m1 ▸ rfl))]
      simp [Say.dep]
      omega
    | bin v a b =>
      have h : max a.dep b.dep + 1 ≤ f + 1 := h
      have ia := ih (s := a) (μ := μ) w.2.1 (by omega)
      have ib := ih (s := b) (μ := μ) w.2.2 (by omega)
      have m1 := mx 0 a.dep
      rw [Nat.zero_max] at m1
      have m2 := mx a.dep b.dep
      rw [seq_ok (for_two (i := 2) (ρ1 := [some (.d (Say.bin v a b).toD), some (.d (.int (a.dep : Int))), some (.d a.toD)]) (ρ' := [some (.d (Say.bin v a b).toD), some (.d (.int ((max a.dep b.dep : Nat) : Int))), some (.d b.toD)]) (μ2 := μ) (μ3 := μ) it (by
        simp [ia]
        exact m1 ▸ rfl) (by
        simp [ib]
        exact m2 ▸ rfl))]
      simp [Say.dep]
      omega
    | qu v l a =>
      have h : a.dep + 1 ≤ f + 1 := h
      have ia := ih (s := a) (μ := μ) w.2.2 (by omega)
      have m1 := mx 0 a.dep
      rw [Nat.zero_max] at m1
      rw [seq_ok (for_one (i := 2) (ρ' := [some (.d (Say.qu v l a).toD), some (.d (.int (a.dep : Int))), some (.d a.toD)]) (μ2 := μ) it (by
        simp [ia]
        exact m1 ▸ rfl))]
      simp [Say.dep]
      omega
end LW
namespace LW
open PySem PySem.Spec TL
open L2 (atI ixN)
noncomputable def PB1 : Sv :=
  (sIf (tB' (e2 (gIn false) (e2 gIx (eVar 0) (eK (.int 0))) (eK (.tuple [(.str "below"), (.str "at"), (.str "above"), (.str "not below"), (.str "not at"), (.str "not above")])))) (sRet (eTup (aCons (e2 gIx (eVar 0) (eK (.int 1))) aNil))) sNext)
noncomputable def PB2 : Sv :=
  (sAsg (eTup aNil) (gNm 1))
noncomputable def PB3 (rec : GF) : Sv :=
  (sFor (iAny (cF 1 f_parts_of (aCons (eVar 0) aNil))) (gNm 2) (sAsg (e2 gPlus (eVar 1) (en gTuple (aCons (eFrz (lLc (iAny (cF 1 rec (aCons (eVar 2) aNil))) (gNm 3) (tB' (e2 (gIn true) (eVar 3) (eVar 1))) (eVar 3) [3])) aNil))) (gNm 1)))
noncomputable def PB4 : Sv :=
  (sRet (eVar 1))
theorem PB_is (rec : GF) : b_polys_by rec = sSeq PB1 (sSeq PB2 (sSeq (PB3 rec) (PB4))) := rfl
theorem wk_can {w : Str} (h : wk w ≠ .oth) : PyData.canLay0 (.str w) = true := by
  by_cases m : w ∈ allW
  · have : allW.all (fun w => PyData.canLay0 (.str w)) = true := by decide +kernel
    exact List.all_eq_true.mp this w m
  · exact absurd (wk_oth m) h
def Say.word : Say → Str
  | .tf w => w
  | .rel w _ => w
  | .no _ => "not"
  | .bin w _ _ => w
  | .qu w _ _ => w
def Say.rest : Say → List PyData
  | .tf _ => []
  | .rel _ x => [x]
  | .no a => [a.toD]
  | .bin _ a b => [a.toD, b.toD]
  | .qu _ l a => [.str l, a.toD]
theorem toD_word (s : Say) : s.toD = .tuple (.str s.word :: s.rest) := by cases s <;> rfl
theorem word_can {L : PyData → Prop} {s : Say} (w : s.WF L) : PyData.canLay0 (.str s.word) = true := by
  cases s with
  | tf v => exact wk_can (by rw [show wk (Say.tf v).word = .tf from w]; decide)
  | rel v x => exact wk_can (by rw [show wk (Say.rel v x).word = .rel from w.1]; decide)
  | no a => exact wk_can (by rw [show wk (Say.no a).word = .no from wk_not]; decide)
  | bin v a b => exact wk_can (by rw [show wk (Say.bin v a b).word = .bin from w.1]; decide)
  | qu v l a => exact wk_can (by rw [show wk (Say.qu v l a).word = .qu from w.1]; decide)
noncomputable def PBb (rec : GF) : Sv := (sAsg (e2 gPlus (eVar 1) (en gTuple (aCons (eFrz (lLc (iAny (cF 1 rec (aCons (eVar 2) aNil))) (gNm 3) (tB' (e2 (gIn true) (eVar 3) (eVar 1))) (eVar 3) [3])) aNil))) (gNm 1))
theorem pb_step {rec : GF} {n : Nat} {x : PyData} {sd : PyData} {found xs : List PyData} {μ : Mu} (hr : rec [.d x] μ = .ok (.d (.tuple xs)) μ) (hf : ∀ y ∈ found, LowD n y) (hx : ∀ y ∈ xs, LowD n y) (hl : found.length + xs.length ≤ 16777216) :
    PBb rec [some (.d sd), some (.d (.tuple found)), some (.d x), none] μ = .ok (.nx [some (.d sd), some (.d (.tuple (addN found xs))), some (.d x), none]) μ := by
  have sf := lows_shaped hf
  have lc := lc_filter (p := fun x => !found.any fun z => PyData.eqv z x) (it := iAny (cF 1 rec (aCons (eVar 2) aNil))) (xs := xs) (i := 3) (c := tB' (e2 (gIn true) (eVar 3) (eVar 1))) (e := eVar 3) (ρ := [some (.d sd), some (.d (.tuple found)), some (.d x), none]) (μ := μ) (μ1 := μ) (by
    rw [x_iany]
    simp [hr]
    rfl) (by omega) (fun y => rfl) fun y hy => by
    have g := g_inS (neg := true) (μ := μ) (low_shaped (hx y hy)) sf
    simp [g]
  have hl2 : found.length + (xs.filter fun x => !found.any fun z => PyData.eqv z x).length ≤ 16777216 := by
    have := List.length_filter_le (fun x => !found.any fun z => PyData.eqv z x) xs
    omega
  unfold PBb addN
  generalize (xs.filter fun x => !found.any fun z => PyData.eqv z x) = ys at *
  simp [lc, hl2]
theorem t_polys_by {n : Nat} : ∀ (f : Nat) {s : Say} {μ : Mu}, f ≤ 24 → s.WF (LowD n) → s.dep ≤ f → f_polys_by f [.d s.toD] μ = .ok (.d (.tuple s.pls)) μ := by
  intro f
  induction f with
  | zero => intro s μ _ _ h; have := dep_pos s; omega
  | succ f ih =>
    intro s μ hf w h
    show runD 4 (b_polys_by (f_polys_by f)) _ μ = _
    refine run_ret ?_
    rw [PB_is]
    show sSeq _ (sSeq _ _) [some (.d s.toD), none, none, none] μ = _
    have rl := g_rel (neg := false) (μ := μ) (word_can w)
    have len : ∀ {a : Say}, a.dep ≤ f → a.pls.length ≤ 8388608 := fun {a} ha => Nat.le_trans pls_len (show 2 ^ a.dep ≤ 2 ^ 23 from Nat.pow_le_pow_right (by decide) (by omega))
    have s1 : wk s.word ≠ .rel → PB1 [some (.d s.toD), none, none, none] μ = .ok (.nx [some (.d s.toD), none, none, none]) μ := fun hk => by
      rw [toD_word s]
      simp [PB1, rl, hk]
    have s2 : PB2 [some (.d s.toD), none, none, none] μ = .ok (.nx [some (.d s.toD), some (.d (.tuple [])), none, none]) μ := by simp [PB2]
    have it := it_parts (ρ := [some (.d s.toD), some (.d (.tuple [])), none, none]) (μ := μ) w rfl
    have nl : ∀ y ∈ ([] : List PyData), LowD n y := fun y hy => by cases hy
    cases s with
    | rel v x =>
      have hk : wk v = .rel := w.1
      have e : PB1 [some (.d (Say.rel v x).toD), none, none, none] μ = .ok (.rt (.d (.tuple [x]))) μ := by
        have rl : gIn false (.d (.str v)) _ μ = _ := rl
        rw [show wk (Say.rel v x).word = .rel from hk] at rl
        simp [PB1, Say.toD, rl]
      rw [seq_rt e]
      rfl
    | tf v =>
      have hk : wk v = .tf := w
      rw [seq_ok (s1 (by rw [show wk (Say.tf v).word = .tf from hk]; decide)), seq_ok s2]
      show sSeq (sFor (iAny (cF 1 f_parts_of (aCons (eVar 0) aNil))) (gNm 2) (PBb (f_polys_by f))) _ _ μ = _
      rw [seq_ok (for_nil it)]
      simp [PB4, Say.pls]
    | no a =>
      have h : a.dep + 1 ≤ f + 1 := h
      have ia := ih (s := a) (μ := μ) (by omega) w (by omega)
      have l := len (a := a) (by omega)
      rw [seq_ok (s1 (by rw [show wk (Say.no a).word = .no from wk_not]; decide)), seq_ok s2]
      show sSeq (sFor (iAny (cF 1 f_parts_of (aCons (eVar 0) aNil))) (gNm 2) (PBb (f_polys_by f))) _ _ μ = _
      rw [seq_ok (for_one (i := 2) it (pb_step ia nl (pls_L (s := a) w) (by simp; omega))), addN_nil]
      simp [PB4, Say.pls]
    | bin v a b =>
      have hk : wk v = .bin := w.1
      have h : max a.dep b.dep + 1 ≤ f + 1 := h
      have ia := ih (s := a) (μ := μ) (by omega) w.2.1 (by omega)
      have ib := ih (s := b) (μ := μ) (by omega) w.2.2 (by omega)
      have l := len (a := a) (by omega)
      have l2 := len (a := b) (by omega)
      rw [seq_ok (s1 (by rw [show wk (Say.bin v a b).word = .bin from hk]; decide)), seq_ok s2]
      show sSeq (sFor (iAny (cF 1 f_parts_of (aCons (eVar 0) aNil))) (gNm 2) (PBb (f_polys_by f))) _ _ μ = _
      have p1 := pb_step (sd := (Say.bin v a b).toD) ia nl (pls_L w.2.1) (by simp; omega)
      rw [addN_nil] at p1
      rw [seq_ok (for_two (i := 2) it p1 (pb_step (sd := (Say.bin v a b).toD) ib (pls_L w.2.1) (pls_L w.2.2) (by omega)))]
      simp [PB4, Say.pls]
    | qu v l a =>
      have hk : wk v = .qu := w.1
      have h : a.dep + 1 ≤ f + 1 := h
      have ia := ih (s := a) (μ := μ) (by omega) w.2.2 (by omega)
      have l' := len (a := a) (by omega)
      rw [seq_ok (s1 (by rw [show wk (Say.qu v l a).word = .qu from hk]; decide)), seq_ok s2]
      show sSeq (sFor (iAny (cF 1 f_parts_of (aCons (eVar 0) aNil))) (gNm 2) (PBb (f_polys_by f))) _ _ μ = _
      rw [seq_ok (for_one (i := 2) it (pb_step ia nl (pls_L w.2.2) (by simp; omega))), addN_nil]
      simp [PB4, Say.pls]
end LW
namespace LW
open PySem PySem.Spec TL
open L2 (atI ixN)
/-- what the program tells of a saying as a whole -/
theorem t_check_saying {n k : Nat} {s : Say} {μ : Mu} (hn : n ≤ 1000) (h : Dz n k s.toD) (w : s.WF (LowD n)) (hd : s.dep ≤ 10) (hl : s.pls.length ≤ 8) : f_check_saying [.d s.toD] μ = .ok (.d .none) μ := by
  have sy := t_sayinged hn 12 (d := 10) (μ := μ) h (by decide)
  rw [parse_toD (w.mono fun _ h => h.1) hd] at sy
  have sy : f_is_sayinged 12 [.d s.toD, .d (.int 10)] μ = .ok (.d (.bool true)) μ := sy
  have pb := t_polys_by (n := n) 24 (μ := μ) (by decide) w (by omega)
  have hl' : ¬ ((8 : Int) < s.pls.length) := by omega
  simp [f_check_saying, b_check_saying, f_check_many, b_check_many, runD, initR, sy, pb, hl']
theorem t_depth_of {n k : Nat} {s : Say} {μ : Mu} (hn : n ≤ 1000) (h : Dz n k s.toD) (w : s.WF (LowD n)) (hd : s.dep ≤ 10) (hl : s.pls.length ≤ 8) : f_depth_of [.d s.toD] μ = .ok (.d (.int (s.dep : Int))) μ := by
  have c := t_check_saying (μ := μ) hn h w hd hl
  have db := t_depth_by 24 (μ := μ) w (by omega)
  simp [f_depth_of, b_depth_of, runD, initR, c, db]
theorem Shb.low {n : Nat} {x : PyData} (h : LowD n x) : Shb 30 2 x := by
  obtain ⟨h1, k, h2⟩ := h
  obtain ⟨P, rfl, _, hb, hl, hp⟩ := low_of h1 h2
  exact Shb.pol hb (Nat.le_refl _) (by decide) hp hl
end LW
namespace LW
open PySem PySem.Spec TL
open L2 (atI ixN)
theorem t_trimmed {μ : Mu} {w : Wv} {xs : List Int} (h : SqD μ w (Li xs)) : f_trimmed [w] μ = .ok (.d (Rw' (trim xs))) μ := by
  have main : ∃ ρ' μ', sWhile (bAnd (tB' (e2 (gCmp fun i j => decide (j < i)) (eVar 1) (eK (.int 0)))) (tB' (e2 (gEq false) (e2 gIx (eVar 0) (e2 gSub (eVar 1) (eK (.int 1)))) (eK (.int 0))))) (sAsg (e2 gSub (eVar 1) (eK (.int 1))) (gNm 1)) [some w, some (.d (.int xs.length))] μ = .ok (.nx ρ') μ' ∧
      μ' = μ ∧ ∃ n : Nat, ρ' = [some w, some (.d (.int n))] ∧ n ≤ xs.length ∧ xs.take n = trim xs := by
    refine wh_run (fun n ρ' μ' => μ' = μ ∧ ρ' = [some w, some (.d (.int n))] ∧ n ≤ xs.length ∧ trim (xs.take n) = trim xs) _ xs.length ⟨rfl, rfl, Nat.le_refl _, by rw [List.take_length]⟩ ?_
    rintro n ρ' μ' ⟨rfl, rfl, hn, ht⟩
    cases n with
    | zero => exact ⟨false, μ', by simp, .inl ⟨rfl, rfl, 0, rfl, hn, by rw [← ht]; rfl⟩⟩
    | succ n =>
      have ei : ((n + 1 : Nat) : Int) - 1 = (n : Int) := by omega
      have e1 := sqd_ix h (n := n) (x := .int xs[n]) (by rw [Li_get, List.getElem?_eq_getElem (show n < xs.length by omega)]; rfl)
      have hp : (0 : Int) < ((n + 1 : Nat) : Int) := by omega
      by_cases hz : xs[n] = 0
      · refine ⟨true, μ', ?_, .inr ⟨rfl, [some w, some (.d (.int n))], μ', n, by omega, ?_, rfl, rfl, by omega, ?_⟩⟩
        · simp only [x_band, x_tB, x_e2, x_v0, x_vs, x_k, Out.bind_ok, v_cmp, x_calm, x_wB, decide_eq_true hp, if_true, v_sub, ei, e1, v_eqd, eq_ii]
          simp [hz]
        · simp only [x_asg, x_e2, x_v0, x_vs, x_k, Out.bind_ok, v_sub, x_calm, liftO_ok, x_nm, ei]
          rfl
        · rw [← ht, trim_take (by omega) hz]
      · refine ⟨false, μ', ?_, .inl ⟨rfl, rfl, n + 1, rfl, hn, ?_⟩⟩
        · simp only [x_band, x_tB, x_e2, x_v0, x_vs, x_k, Out.bind_ok, v_cmp, x_calm, x_wB, decide_eq_true hp, if_true, v_sub, ei, e1, v_eqd, eq_ii]
          simp [hz]
        · rw [← ht, trim_take' (by omega) hz]
  obtain ⟨ρ', μ', e, rfl, n, rfl, hn, ht⟩ := main
  obtain ⟨u, e2, e3⟩ := sqd_take h (n := n) (by rw [Li_len]; exact hn)
  have e4 : (Li xs).take n = Li (trim xs) := by rw [← ht]; exact (List.map_take).symm
  rw [e4] at e3
  have el := sqd_len h
  rw [Li_len] at el
  simp [f_trimmed, b_trimmed, runD, initR, el]
  rw [e]
  simp [e2, e3]
end LW
namespace LW
open PySem PySem.Spec TL
open L2 (atI ixN)
theorem t_cut {μ : Mu} {w : Wv} {P : Pol} (h : SqD μ w (Lp P)) : f_cut [w] μ = .ok (.d (Pl (trimP P))) μ := by
  have main : ∃ ρ' μ', sWhile (bAnd (tB' (e2 (gCmp fun i j => decide (j < i)) (eVar 1) (eK (.int 0)))) (tB' (e2 (gEq false) (e2 gIx (eVar 0) (e2 gSub (eVar 1) (eK (.int 1)))) (eTup aNil)))) (sAsg (e2 gSub (eVar 1) (eK (.int 1))) (gNm 1)) [some w, some (.d (.int P.length))] μ = .ok (.nx ρ') μ' ∧
      μ' = μ ∧ ∃ n : Nat, ρ' = [some w, some (.d (.int n))] ∧ n ≤ P.length ∧ P.take n = trimP P := by
    refine wh_run (fun n ρ' μ' => μ' = μ ∧ ρ' = [some w, some (.d (.int n))] ∧ n ≤ P.length ∧ trimP (P.take n) = trimP P) _ P.length ⟨rfl, rfl, Nat.le_refl _, by rw [List.take_length]⟩ ?_
    rintro n ρ' μ' ⟨rfl, rfl, hn, ht⟩
    cases n with
    | zero => exact ⟨false, μ', by simp, .inl ⟨rfl, rfl, 0, rfl, hn, by rw [← ht]; rfl⟩⟩
    | succ n =>
      have ei : ((n + 1 : Nat) : Int) - 1 = (n : Int) := by omega
      have e1 := sqd_ix h (n := n) (x := Rw' P[n]) (by rw [Lp_get, List.getElem?_eq_getElem (show n < P.length by omega)]; rfl)
      have hp : (0 : Int) < ((n + 1 : Nat) : Int) := by omega
      by_cases hz : P[n] = []
      · have hzz : (Li P[n]).isEmpty = true := by rw [Li_empty, hz]; rfl
        refine ⟨true, μ', ?_, .inr ⟨rfl, [some w, some (.d (.int n))], μ', n, by omega, ?_, rfl, rfl, by omega, ?_⟩⟩
        · simp only [x_band, x_tB, x_e2, x_v0, x_vs, x_k, Out.bind_ok, v_cmp, x_calm, x_wB, decide_eq_true hp, if_true, v_sub, ei, e1, v_eqd, eq_tt, x_tup, x_disp, x_nil, x_all0, hzz]
          simp [hzz]
        · simp only [x_asg, x_e2, x_v0, x_vs, x_k, Out.bind_ok, v_sub, x_calm, liftO_ok, x_nm, ei]
          rfl
        · rw [← ht, trimP_take (by omega) hz]
      · have hzz : (Li P[n]).isEmpty = false := by
          rw [Li_empty]
          cases hP : P[n] with
          | nil => exact absurd hP hz
          | cons x xs => rfl
        refine ⟨false, μ', ?_, .inl ⟨rfl, rfl, n + 1, rfl, hn, ?_⟩⟩
        · simp only [x_band, x_tB, x_e2, x_v0, x_vs, x_k, Out.bind_ok, v_cmp, x_calm, x_wB, decide_eq_true hp, if_true, v_sub, ei, e1, v_eqd, eq_tt, x_tup, x_disp, x_nil, x_all0, hzz]
          simp [hzz]
        · rw [← ht, trimP_take' (by omega) hz]
  obtain ⟨ρ', μ', e, rfl, n, rfl, hn, ht⟩ := main
  obtain ⟨u, e2, e3⟩ := sqd_take h (n := n) (by rw [Lp_len]; exact hn)
  have e4 : (Lp P).take n = Lp (trimP P) := by rw [← ht]; exact (List.map_take).symm
  rw [e4] at e3
  have el := sqd_len h
  rw [Lp_len] at el
  simp [f_cut, b_cut, runD, initR, el]
  rw [e]
  simp [e2, e3]
end LW
namespace LW
open PySem PySem.Spec TL
open L2 (atI ixN)
theorem maxI_lens (P : Pol) : maxI 0 (P.map fun r => (r.length : Int)) = (wid P : Int) := by
  unfold wid
  have gen : ∀ (P : Pol) (m : Nat), maxI (m : Int) (P.map fun r => (r.length : Int)) = ((P.foldl (fun m r => max m r.length) m : Nat) : Int) := by
    intro P
    induction P with
    | nil => intro m; rfl
    | cons r P ih =>
      intro m
      rw [List.map_cons, List.foldl_cons]
      have e : maxI (m : Int) ((r.length : Int) :: P.map fun r => (r.length : Int)) = maxI ((max m r.length : Nat) : Int) (P.map fun r => (r.length : Int)) := by
        show maxI (if (r.length : Int) > (m : Int) then (r.length : Int) else (m : Int)) _ = _
        congr 1
        split <;> omega
      rw [e, ih]
  exact gen P 0
/-- max([0] + lens) -/
theorem t_wid {ρ : Rho} {μ : Mu} {P : Pol} {f : Ev} (hf : f ρ μ = .ok (.d (.list (Li (P.map fun r => (r.length : Int))))) μ) (hl : P.length ≤ 1000) :
    en gMax (aCons (e2 gPlus (eFrz (lDisp (aCons (eK (.int 0)) aNil))) f) aNil) ρ μ = .ok (.d (.int (wid P))) μ := by
  have h1 : 1 + P.length ≤ 16777216 := by omega
  have e := gMax_li (μ := μ) (m := 0) (xs := P.map fun r => (r.length : Int))
  rw [maxI_lens] at e
  simp [hf, h1, e]
theorem lc_lens {μ : Mu} {P : Pol} {ρ : Rho} {i : Nat} {x : Ev} (hit : iAny x ρ μ = .ok ⟨Lp P, []⟩ μ) (hl : P.length ≤ 1000) (hi : ∀ r, eVar i ((ρ.set i none).set i (some (.d (Rw' r)))) μ = .ok (.d (Rw' r)) μ) :
    lLc (iAny x) (gNm i) bYes (en gLen (aCons (eVar i) aNil)) [i] ρ μ = .ok (Li (P.map fun r => (r.length : Int))) μ := by
  have := lc_of (f := Rw') (g := fun r => PyData.int (r.length : Int)) (e := en gLen (aCons (eVar i) aNil)) (i := i) hit (by omega) fun r hr => by
    have h1 := hi r
    generalize (ρ.set i none).set i (some (.d (Rw' r))) = ρ1 at h1 ⊢
    simp [h1]
  rw [this]
  unfold Li
  rw [List.map_map]
  rfl
theorem lc_col {μ : Mu} {P : Pol} {ρ : Rho} {i j k : Nat} {x : Ev} (hit : iAny x ρ μ = .ok ⟨Lp P, []⟩ μ) (hl : P.length ≤ 1000) (hi : ∀ r, eVar i ((ρ.set i none).set i (some (.d (Rw' r)))) μ = .ok (.d (Rw' r)) μ) (hj : ∀ r, eVar j ((ρ.set i none).set i (some (.d (Rw' r)))) μ = .ok (.d (.int (k : Int))) μ) :
    lLc (iAny x) (gNm i) bYes (eIf (tB' (e2 (gCmp fun i j => decide (i < j)) (eVar j) (en gLen (aCons (eVar i) aNil)))) (e2 gIx (eVar i) (eVar j)) (eK (.int 0))) [i] ρ μ = .ok (Li (col P k)) μ := by
  have := lc_of (f := Rw') (g := fun r => PyData.int (r.getD k 0)) (e := eIf (tB' (e2 (gCmp fun i j => decide (i < j)) (eVar j) (en gLen (aCons (eVar i) aNil)))) (e2 gIx (eVar i) (eVar j)) (eK (.int 0))) (i := i) hit (by omega) fun r hr => by
    have h1 := hi r
    have h2 := hj r
    generalize (ρ.set i none).set i (some (.d (Rw' r))) = ρ1 at h1 h2 ⊢
    by_cases hk : k < r.length
    · have e : atI (Li r) (k : Int) = some (.int (r.getD k 0)) := at_n (by rw [Li_get, List.getElem?_eq_getElem hk, List.getD_eq_getElem?_getD, List.getElem?_eq_getElem hk]; rfl)
      simp [h1, h2, hk, e]
    · have e : r.getD k 0 = 0 := by rw [List.getD_eq_getElem?_getD, List.getElem?_eq_none (by omega)]; rfl
      simp [h1, h2, hk, -List.getD_eq_getElem?_getD, e]
  rw [this]
  unfold Li col
  rw [List.map_map]
  rfl
theorem Lp_range {P : Pol} {n : Nat} : Lp ((List.range n).map fun j => trim (col P j)) = (List.range n).map fun j => Rw' (trim (col P j)) := by
  unfold Lp
  rw [List.map_map]
  rfl
end LW
namespace LW
open PySem PySem.Spec TL
open L2 (atI ixN)
theorem t_exchanged_by {μ : Mu} {P : Pol} (hl : P.length ≤ 1000) (hr : PL 1000 P) : f_exchanged_by [.d (Pl P)] μ = .ok (.d (Pl (exch P))) μ := by
  have hw : wid P ≤ 1000 := wid_most hr
  have l1 := lc_lens (μ := μ) (P := P) (ρ := [some (.d (Pl P)), none, none, none]) (i := 3) (x := eVar 0) rfl hl fun r => rfl
  have m1 := t_wid (μ := μ) (P := P) (ρ := [some (.d (Pl P)), none, none, none]) (f := eFrz (lLc (iAny (eVar 0)) (gNm 3) bYes (en gLen (aCons (eVar 3) aNil)) [3])) (by rw [x_frz, l1]; rfl) hl
  have l2 : lLc (iR1 (aCons (eVar 1) aNil)) (gNm 2) bYes (cF 1 f_trimmed (aCons (eFrz (lLc (iAny (eVar 0)) (gNm 3) bYes (eIf (tB' (e2 (gCmp fun i j => decide (i < j)) (eVar 2) (en gLen (aCons (eVar 3) aNil)))) (e2 gIx (eVar 3) (eVar 2)) (eK (.int 0))) [3])) aNil)) [2] [some (.d (Pl P)), some (.d (.int (wid P))), none, none] μ = .ok (Lp ((List.range (wid P)).map fun j => trim (col P j))) μ := by
    refine lcT_eq (xs := intL 0 (wid P) 1) (it_r1 (j := (wid P : Int)) rfl (by omega) (by omega)) (by rw [intL_len]; omega) (by rw [Lp_len, List.length_map, List.length_range, intL_len]) fun k x z hx hz => ?_
    have hk : k < wid P := by
      have := (List.getElem?_eq_some_iff.mp hx).1
      rwa [intL_len] at this
    rw [intL_at hk] at hx
    rw [Lp_range, List.getElem?_map, List.getElem?_range hk] at hz
    cases hx
    cases hz
    refine ⟨_, rfl, ?_⟩
    have l3 := lc_col (μ := μ) (P := P) (ρ := [some (.d (Pl P)), some (.d (.int (wid P))), some (.d (.int ((0 : Int) + (k : Int)))), none]) (i := 3) (j := 2) (k := k) (x := eVar 0) rfl hl (fun r => rfl) (fun r => by simp)
    have tr := t_trimmed (μ := μ) (w := .d (.list (Li (col P k)))) (xs := col P k) (.inl rfl)
    show cF 1 f_trimmed _ [some (.d (Pl P)), some (.d (.int (wid P))), some (.d (.int ((0 : Int) + (k : Int)))), none] μ = _
    simp only [x_cF, x_cons, x_frz, l3, Out.bind_ok, x_nil, List.length_singleton, if_true, tr]
  have cu := t_cut (μ := μ) (w := .d (.list (Lp ((List.range (wid P)).map fun j => trim (col P j))))) (.inl rfl)
  unfold f_exchanged_by
  refine (run_rt (x := Pl (exch P)) (μ' := μ) ?_).trans (by rw [take_self])
  show sSeq _ _ [some (.d (Pl P)), none, none, none] μ = _
  rw [seq_ok (asg_ok m1)]
  show sRet _ [some (.d (Pl P)), some (.d (.int (wid P))), none, none] μ = _
  simp only [x_ret, x_cF, x_cons, x_frz, l2, Out.bind_ok, x_nil, List.length_singleton, if_true, cu, liftO_ok]
  rfl
end LW
namespace LW
open PySem PySem.Spec TL
open L2 (atI ixN)
theorem pw_le {d : Int} {k : Nat} (hd : d.natAbs ≤ 2 ^ k) : ∀ m : Nat, (d ^ m).natAbs ≤ 2 ^ (m * k)
  | 0 => by simp
  | m + 1 => by
    rw [Int.pow_succ, Nat.succ_mul, Nat.pow_add, Int.natAbs_mul]
    exact Nat.mul_le_mul (pw_le hd m) hd
theorem t_power {μ : Mu} {d j : Int} {k : Nat} (hd : d.natAbs ≤ 2 ^ k) (hj : -1000 ≤ j) (hj2 : j ≤ 100000) (hk : k ≤ 7900) (hm : j.toNat * k ≤ 7900) : f_power_of [.d (.int d), .d (.int j)] μ = .ok (.d (.int (d ^ j.toNat))) μ := by
  have main := for_run (it := iR1 (aCons (eVar 1) aNil)) (xs := intL 0 j.toNat 1) (t := gNm 3) (b := sAsg (e2 gTimes (eVar 2) (eVar 0)) (gNm 2)) (ρ := [some (.d (.int d)), some (.d (.int j)), some (.d (.int 1)), none]) (μ := μ)
    (fun k ρ' μ' => μ' = μ ∧ k ≤ j.toNat ∧ ∃ o, ρ' = [some (.d (.int d)), some (.d (.int j)), some (.d (.int (d ^ k))), o]) (it_r1 (j := j) rfl (by omega) (by omega)) ⟨rfl, Nat.zero_le _, none, by rw [Int.pow_zero]⟩ (fun n x ρ' μ' hx ⟨e0, hn, o, e1⟩ => ?_)
  · obtain ⟨ρ', μ', e, rfl, _, o, rfl⟩ := main
    rw [intL_len] at e
    simp [f_power_of, b_power_of, runD, initR]
    rw [e]
    simp
  · subst e0 e1
    have hkl : n < j.toNat := by
      have := (List.getElem?_eq_some_iff.mp hx).1
      rwa [intL_len] at this
    have hb : n * k ≤ j.toNat * k := Nat.mul_le_mul_right _ hn
    have w := w_times (μ := μ') (.of (pw_le hd n) (by omega)) (.of hd hk)
    exact ⟨_, _, [some (.d (.int d)), some (.d (.int j)), some (.d (.int (d ^ n * d))), some (.d x)], μ', rfl, by simp [w], rfl, hkl, _, by rw [Int.pow_succ]⟩
end LW
namespace LW
open PySem PySem.Spec TL
open L2 (atI ixN)
/-- a fraction as data -/
abbrev Fd (t l : Int) : PyData := .tuple [.int t, .int l]
theorem wid_max {μ : Mu} {P : Pol} (h : P ≠ []) : gMax [.d (.list (Li (P.map fun r => (r.length : Int))))] μ = .ok (.d (.int (wid P : Int))) μ := by
  cases P with
  | nil => exact absurd rfl h
  | cons r P =>
    rw [List.map_cons]
    have e := gMax_li (μ := μ) (m := (r.length : Int)) (xs := P.map fun r => (r.length : Int))
    have w := maxI_lens (r :: P)
    rw [List.map_cons] at w
    have w2 : maxI 0 ((r.length : Int) :: P.map fun r => (r.length : Int)) = maxI (r.length : Int) (P.map fun r => (r.length : Int)) := by
      show maxI (if (r.length : Int) > 0 then (r.length : Int) else 0) _ = _
      congr 1
      split <;> omega
    rw [← w, w2]
    exact e
def tms (t l : Int) (d : Nat) : Nat → List Int → List Int
  | _, [] => []
  | k, x :: r => x * t ^ k * l ^ (d - k) :: tms t l d (k + 1) r
theorem tms_sum {t l : Int} {d : Nat} : ∀ (a : List Int) (k : Nat), (tms t l d k a).sum = sput t l d k a
  | [], k => rfl
  | x :: r, k => by
    show (x * t ^ k * l ^ (d - k) :: tms t l d (k + 1) r).sum = x * t ^ k * l ^ (d - k) + sput t l d (k + 1) r
    rw [List.sum_cons, tms_sum r]
theorem tms_len {t l : Int} {d : Nat} : ∀ (a : List Int) (k : Nat), (tms t l d k a).length = a.length
  | [], k => rfl
  | x :: r, k => by
    show (tms t l d (k + 1) r).length + 1 = r.length + 1
    rw [tms_len r]
theorem tms_get {t l : Int} {d : Nat} : ∀ (a : List Int) (k i : Nat), (tms t l d k a)[i]? = a[i]?.map fun x => x * t ^ (k + i) * l ^ (d - (k + i))
  | [], k, i => by simp [tms]
  | x :: r, k, 0 => by simp [tms]
  | x :: r, k, i + 1 => by
    show (x * t ^ k * l ^ (d - k) :: tms t l d (k + 1) r)[i + 1]? = _
    rw [List.getElem?_cons_succ, tms_get r, List.getElem?_cons_succ, show k + 1 + i = k + (i + 1) by omega]
theorem mul_bd {x y : Int} {p q : Nat} (h1 : x.natAbs ≤ 2 ^ p) (h2 : y.natAbs ≤ 2 ^ q) : (x * y).natAbs ≤ 2 ^ (p + q) := by
  rw [Int.natAbs_mul, Nat.pow_add]
  exact Nat.mul_le_mul h1 h2
theorem pow_bd {x : Int} {k n m : Nat} (h : x.natAbs ≤ 2 ^ k) (hn : n ≤ m) : (x ^ n).natAbs ≤ 2 ^ (m * k) := Nat.le_trans (pw_le h n) (Nat.pow_le_pow_right (by decide) (Nat.mul_le_mul_right _ hn))
theorem t_row_put {μ : Mu} {a : List Int} {t l : Int} {d : Nat} (ha : a.length ≤ d + 1) (hd : d ≤ 10) (hb : BM (2 ^ 100) a) (ht : t.natAbs ≤ 2 ^ 30) (hl : l.natAbs ≤ 2 ^ 30) :
    f_row_put [.d (Rw' a), .d (Fd t l), .d (.int (d : Int))] μ = .ok (.d (.int (sput t l d 0 a))) μ := by
  have lc : lLc (iEnumT (aCons (eVar 0) aNil)) (gTp [(gNm 5), (gNm 6)]) bYes (e2 gTimes (e2 gTimes (eVar 6) (cF 2 f_power_of (aCons (eVar 3) (aCons (eVar 5) aNil)))) (cF 2 f_power_of (aCons (eVar 4) (aCons (e2 gSub (eVar 2) (eVar 5)) aNil)))) [5, 6]
      [some (.d (Rw' a)), some (.d (Fd t l)), some (.d (.int (d : Int))), some (.d (.int t)), some (.d (.int l)), none, none] μ = .ok (Li (tms t l d 0 a)) μ := by
    refine lcT_eq (xs := enumL (Li a)) rfl (by simp [enumL]; omega) (by simp [enumL, tms_len]) fun k x z hx hz => ?_
    unfold enumL at hx
    rw [List.getElem?_mapIdx, Li_get] at hx
    rw [Li_get, tms_get] at hz
    cases hk : a[k]? with
    | none => rw [hk] at hx; cases hx
    | some y =>
      rw [hk] at hx hz
      cases hx
      cases hz
      have hkl := (List.getElem?_eq_some_iff.mp hk).1
      have hy := hb y (List.mem_of_getElem? hk)
      refine ⟨_, rfl, ?_⟩
      have p1 := t_power (μ := μ) (d := t) (j := (k : Int)) (k := 30) ht (by omega) (by omega) (by decide) (by rw [Int.toNat_natCast]; omega)
      have ed : ((d : Int) - (k : Int)).toNat = d - k := by omega
      have p2 := t_power (μ := μ) (d := l) (j := (d : Int) - (k : Int)) (k := 30) hl (by omega) (by omega) (by decide) (by rw [ed]; omega)
      rw [Int.toNat_natCast] at p1
      rw [ed] at p2
      have b1 := pow_bd (m := 10) ht (show k ≤ 10 by omega)
      have b2 := pow_bd (m := 10) hl (show d - k ≤ 10 by omega)
      have w1 := w_times (μ := μ) (.of hy (by decide)) (.of b1 (by decide))
      have w2 := w_times (μ := μ) (.of (mul_bd hy b1) (by decide)) (.of b2 (by decide))
      show e2 gTimes _ _ [some (.d (Rw' a)), some (.d (Fd t l)), some (.d (.int (d : Int))), some (.d (.int t)), some (.d (.int l)), some (.d (.int (k : Int))), some (.d (.int y))] μ = .ok (.d (.int (y * t ^ (0 + k) * l ^ (d - (0 + k))))) μ
      rw [Nat.zero_add]
      generalize t ^ k = tk at *
      generalize l ^ (d - k) = lk at *
      simp [p1, p2, w1, w2]
  have sm : gSum [.d (.list (Li (tms t l d 0 a)))] μ = .ok (.d (.int (sput t l d 0 a))) μ := by
    unfold gSum
    simp only [x_dd, intsOf_Li, tms_sum]
  have s1 : sAsg (eVar 1) (gTp [(gNm 3), (gNm 4)]) [some (.d (Rw' a)), some (.d (Fd t l)), some (.d (.int (d : Int))), none, none, none, none] μ = .ok (.nx [some (.d (Rw' a)), some (.d (Fd t l)), some (.d (.int (d : Int))), some (.d (.int t)), some (.d (.int l)), none, none]) μ := by simp
  show runD 7 b_row_put _ μ = _
  refine run_ret ?_
  show sSeq _ _ [some (.d (Rw' a)), some (.d (Fd t l)), some (.d (.int (d : Int))), none, none, none, none] μ = _
  rw [seq_ok s1]
  generalize Li (tms t l d 0 a) = T at *
  simp only [x_ret, x_en, x_cons, x_nil, x_frz, lc, Out.bind_ok, x_calm, sm, liftO_ok]
theorem t_letter_poly {μ : Mu} {a : List Int} (hl : a.length ≤ 1000) : f_letter_poly [.d (Rw' a), .d (.str "y")] μ = .ok (.d (Pl (a.map one))) μ := by
  have lc := lc_of (f := PyData.int) (g := fun v => Rw' (one v)) (it := iAny (eVar 0)) (xs := a) (i := 2) (e := eIf (tB' (e2 (gEq true) (eVar 2) (eK (.int 0)))) (eTup (aCons (eVar 2) aNil)) (eTup aNil)) (ρ := [some (.d (Rw' a)), some (.d (.str "y")), none]) (μ := μ) (μ1 := μ) rfl (by omega) fun v hv => by
    unfold one
    by_cases h0 : v = 0
    · simp [h0, Li]
    · simp [h0, Li]
  have e : (a.map fun v => Rw' (one v)) = Lp (a.map one) := by unfold Lp; rw [List.map_map]; rfl
  rw [e] at lc
  have s1 : sIf (tB' (e2 (gEq false) (eVar 1) (eK (.str "x")))) (sRet (eIf (tB' (e2 (gEq true) (eVar 0) (eTup aNil))) (eTup (aCons (eVar 0) aNil)) (eTup aNil))) sNext [some (.d (Rw' a)), some (.d (.str "y")), none] μ = .ok (.nx [some (.d (Rw' a)), some (.d (.str "y")), none]) μ := by
    have : ¬ (("y" : Str) = "x") := by decide +kernel
    simp [this]
  show runD 3 b_letter_poly _ μ = _
  refine run_ret ?_
  show sSeq _ _ [some (.d (Rw' a)), some (.d (.str "y")), none] μ = _
  rw [seq_ok s1]
  show sRet _ _ μ = .ok (.rt (.d (.tuple (Lp (a.map one))))) μ
  generalize Lp (a.map one) = T at *
  simp only [x_ret, x_en, x_cons, x_nil, x_frz, lc, Out.bind_ok, x_calm, v_tupl, liftO_ok]
theorem one_len (v : Int) : (one v).length ≤ 1 := by
  unfold one
  split <;> simp
theorem putX_len {t l : Int} {P : Pol} : (putX t l P).length ≤ P.length := by
  unfold putX
  rw [List.length_map]
  exact Nat.le_trans (trim_len _) (by rw [List.length_map]; exact Nat.le_refl _)
theorem putX_PL {t l : Int} {P : Pol} : PL 1 (putX t l P) := fun r hr => by
  obtain ⟨v, _, rfl⟩ := List.mem_map.mp hr
  exact one_len v
theorem wid_pos {P : Pol} (h : TP P) (hne : P ≠ []) : 0 < wid P := by
  rcases List.eq_nil_or_concat P with e | ⟨Q, z, e⟩
  · exact absurd e hne
  · rw [List.concat_eq_append] at e
    subst e
    have h1 := h.1
    rw [trimP_snoc] at h1
    by_cases hz : z = []
    · rw [if_pos hz] at h1
      have h2 := trimP_len Q
      rw [h1, List.length_append, List.length_singleton] at h2
      omega
    · have h3 := wid_le (P := Q ++ [z]) (r := z) (by simp)
      have h4 : 0 < z.length := List.length_pos_iff.mpr hz
      omega
noncomputable def PP1 (rec : GF) : Sv :=
  (sIf (tB' (e2 (gEq false) (eVar 1) (eK (.str "y")))) (sRet (cF 1 f_exchanged_by (aCons (cF 3 rec (aCons (cF 1 f_exchanged_by (aCons (eVar 0) aNil)) (aCons (eK (.str "x")) (aCons (eVar 2) aNil)))) aNil))) sNext)
/-- numbers that may be put -/
structure PutOk (t l : Int) : Prop where
  t : t.natAbs ≤ 2 ^ 30
  l : l.natAbs ≤ 2 ^ 30
theorem t_put_x {μ : Mu} {P : Pol} {t l : Int} (f : Nat) (hP : TP P) (h5 : P.length ≤ 6) (hl5 : PL 6 P) (hb : PB (2 ^ 100) P) (ho : PutOk t l) :
    f_poly_put (f + 1) [.d (Pl P), .d (.str "x"), .d (Fd t l)] μ = .ok (.d (Pl (putX t l P))) μ := by
  show runD 5 (b_poly_put (f_poly_put f)) _ μ = _
  refine run_ret ?_
  have hxy : ¬ (("x" : Str) = "y") := by decide +kernel
  have s1 : PP1 (f_poly_put f) [some (.d (Pl P)), some (.d (.str "x")), some (.d (Fd t l)), none, none] μ = .ok (.nx [some (.d (Pl P)), some (.d (.str "x")), some (.d (Fd t l)), none, none]) μ := by
    simp [PP1, hxy]
  show sSeq (PP1 (f_poly_put f)) (sSeq _ (sSeq _ _)) [some (.d (Pl P)), some (.d (.str "x")), some (.d (Fd t l)), none, none] μ = _
  rw [seq_ok s1]
  by_cases hne : P = []
  · subst hne
    have e : sIf (tB' (e2 (gEq false) (eVar 0) (eTup aNil))) (sRet (eVar 0)) sNext [some (.d (Pl [])), some (.d (.str "x")), some (.d (Fd t l)), none, none] μ = .ok (.rt (.d (Pl []))) μ := by simp [Lp]
    rw [seq_rt e]
    rfl
  · have hE : (Lp P).isEmpty = false := by rw [Lp_empty]; cases P with | nil => exact absurd rfl hne | cons a b => rfl
    have s2 : sIf (tB' (e2 (gEq false) (eVar 0) (eTup aNil))) (sRet (eVar 0)) sNext [some (.d (Pl P)), some (.d (.str "x")), some (.d (Fd t l)), none, none] μ = .ok (.nx [some (.d (Pl P)), some (.d (.str "x")), some (.d (Fd t l)), none, none]) μ := by simp [hE]
    rw [seq_ok s2]
    have hw := wid_pos hP hne
    obtain ⟨d, hd⟩ : ∃ d, wid P = d + 1 := ⟨wid P - 1, by omega⟩
    have hw6 : wid P ≤ 6 := wid_most hl5
    have l1 := lc_lens (μ := μ) (P := P) (ρ := [some (.d (Pl P)), some (.d (.str "x")), some (.d (Fd t l)), none, none]) (i := 4) (x := eVar 0) rfl (by omega) fun r => rfl
    have m1 := wid_max (μ := μ) hne
    rw [hd] at m1
    have s3 : sAsg (e2 gSub (en gMax (aCons (eFrz (lLc (iAny (eVar 0)) (gNm 4) bYes (en gLen (aCons (eVar 4) aNil)) [4])) aNil)) (eK (.int 1))) (gNm 3) [some (.d (Pl P)), some (.d (.str "x")), some (.d (Fd t l)), none, none] μ = .ok (.nx [some (.d (Pl P)), some (.d (.str "x")), some (.d (Fd t l)), some (.d (.int (d : Int))), none]) μ := by
      generalize (Li (P.map fun r => (r.length : Int))) = T at *
      simp [l1, m1]
    rw [seq_ok s3]
    have lc := lc_of (f := Rw') (g := fun r => PyData.int (sc t l (pad (wid P) r))) (it := iAny (eVar 0)) (xs := P) (i := 4) (e := cF 3 f_row_put (aCons (eVar 4) (aCons (eVar 2) (aCons (eVar 3) aNil)))) (ρ := [some (.d (Pl P)), some (.d (.str "x")), some (.d (Fd t l)), some (.d (.int (d : Int))), none]) (μ := μ) (μ1 := μ) rfl (by omega) fun r hr => by
      have hlr : r.length ≤ d + 1 := by rw [← hd]; exact wid_le hr
      have := t_row_put (μ := μ) hlr (by omega) (hb r hr) ho.t ho.l
      rw [sput_pad hlr, ← hd] at this
      simp [this]
    have e : (P.map fun r => PyData.int (sc t l (pad (wid P) r))) = Li (P.map fun r => sc t l (pad (wid P) r)) := by unfold Li; rw [List.map_map]; rfl
    rw [e] at lc
    have tr := t_trimmed (μ := μ) (w := .d (.list (Li (P.map fun r => sc t l (pad (wid P) r))))) (xs := P.map fun r => sc t l (pad (wid P) r)) (.inl rfl)
    have lp := t_letter_poly (μ := μ) (a := trim (P.map fun r => sc t l (pad (wid P) r))) (Nat.le_trans (trim_len _) (by rw [List.length_map]; omega))
    show sRet _ _ μ = .ok (.rt (.d (Pl ((trim (P.map fun r => sc t l (pad (wid P) r))).map one)))) μ
    generalize (P.map fun r => sc t l (pad (wid P) r)) = vs at *
    simp only [x_ret, x_cF, x_cons, x_frz, lc, Out.bind_ok, x_nil, List.length_singleton, List.length_cons, List.length_nil, if_true, tr, x_k, lp, liftO_ok]
theorem PB.up' {P : Pol} {M N : Nat} (h : PB M P) (hMN : M ≤ N) : PB N P := fun r hr x hx => Nat.le_trans (h r hr x hx) hMN
theorem t_put_y {μ : Mu} {P : Pol} {t l : Int} (f : Nat) (hP : TP P) (h5 : P.length ≤ 6) (hl5 : PL 6 P) (hb : PB (2 ^ 100) P) (ho : PutOk t l) :
    f_poly_put (f + 2) [.d (Pl P), .d (.str "y"), .d (Fd t l)] μ = .ok (.d (Pl (rowP1 (putR t l P)))) μ := by
  have ex := t_exchanged_by (μ := μ) (P := P) (by omega) (hl5.up (by decide))
  have px := t_put_x (μ := μ) f (exch_TP P) (Nat.le_trans (exch_len hl5) (Nat.le_refl _)) (PL.exch h5) hb.exch ho
  have ey := t_exchanged_by (μ := μ) (P := putX t l (exch P)) (Nat.le_trans putX_len (Nat.le_trans (exch_len hl5) (by decide))) (putX_PL.up (by decide))
  rw [putY hP] at ey
  show runD 5 (b_poly_put (f_poly_put (f + 1))) _ μ = _
  refine run_ret ?_
  have s1 : PP1 (f_poly_put (f + 1)) [some (.d (Pl P)), some (.d (.str "y")), some (.d (Fd t l)), none, none] μ = .ok (.rt (.d (Pl (rowP1 (putR t l P))))) μ := by
    simp [PP1, ex, px, ey]
  show sSeq (PP1 (f_poly_put (f + 1))) (sSeq _ (sSeq _ _)) [some (.d (Pl P)), some (.d (.str "y")), some (.d (Fd t l)), none, none] μ = _
  rw [seq_rt s1]
end LW
namespace LW
open PySem PySem.Spec TL
open L2 (atI ixN)
/-- the law's own well -/
def Wl (m : Nat) (c : Cell) : Prop := ∃ a b n : Int, c = [.int a, .int b, .int n] ∧ 0 ≤ a ∧ 0 ≤ b ∧ b < 2147483563 ∧ 0 ≤ n ∧ n ≤ m
def DrawP (m : Nat) (many : Int) (x : PyData) (c' : Cell) : Prop := ∃ r, x = .int r ∧ 0 ≤ r ∧ r < many ∧ Wl (m + 1) c'
theorem t_draw0 {μ : Mu} {k m : Nat} {many : Int} {c : Cell} (h : μ[k]? = some (some c)) (w : Wl m c) (hm : m < 1000000000) (h1 : 0 < many) (h2 : many < 1000000000) : Tl μ k (f_law_draw [.r k, .d (.int many)] μ) (DrawP m many) := by
  obtain ⟨a, b, n, rfl, ha, hb, hb2, hn, hn2⟩ := w
  by_cases ha0 : 0 < a
  · simp [f_law_draw, b_law_draw, runD, initR, v_ixr h, v_setc h, ha0, v_divmod h1 (by omega : many < 1000000000000000000)]
    exact ⟨_, rfl, _, rfl, Int.emod_nonneg _ (by omega), Int.emod_lt_of_pos _ h1, _, _, _, rfl, Int.ediv_nonneg ha (by omega), hb, hb2, hn, by omega⟩
  · have h3 : ∀ c1 : Cell, (μ.set k (some c1))[k]? = some (some c1) := fun c1 => get_set h
    simp (disch := omega) [f_law_draw, b_law_draw, runD, initR, v_ixr h, v_setc h, ha0, v_ixr (h3 _), v_setc (h3 _), TL.v_times, TL.v_mod, TL.v_div]
    exact ⟨_, rfl, _, rfl, Int.emod_nonneg _ (by omega), Int.emod_lt_of_pos _ h1, _, _, _, rfl, ha, Int.emod_nonneg _ (by omega), Int.emod_lt_of_pos _ (by omega), by omega, by omega⟩
theorem t_draw {μ : Mu} {k m : Nat} {many : Int} {c : Cell} (h : μ[k]? = some (some c)) (w : Wl m c) (hm : m < 1000000000) (h1 : 0 < many) (h2 : many < 1000000000) :
    ∃ r c', f_law_draw [.r k, .d (.int many)] μ = .ok (.d (.int r)) (μ.set k (some c')) ∧ 0 ≤ r ∧ r < many ∧ Wl (m + 1) c' := by
  obtain ⟨x, c', e, r, rfl, p⟩ := (t_draw0 h w hm h1 h2).ok
  exact ⟨r, c', e, p⟩

theorem Wl.up {m n : Nat} {c : Cell} (w : Wl m c) (h : m ≤ n) : Wl n c := by
  obtain ⟨a, b, i, rfl, q1, q2, q3, q4, q5⟩ := w
  exact ⟨a, b, i, rfl, q1, q2, q3, q4, by omega⟩
theorem t_pick {μ : Mu} {k m : Nat} {xs : List PyData} {c : Cell} (h : μ[k]? = some (some c)) (w : Wl m c) (hm : m < 900000000) (h0 : 0 < xs.length) (h1 : xs.length < 100000) :
    ∃ x c', f_law_pick [.r k, .d (.tuple xs)] μ = .ok (.d x) (μ.set k (some c')) ∧ Wl (m + 1) c' ∧ x ∈ xs := by
  obtain ⟨r, c1, e1, r0, r1, w1⟩ := t_draw (many := xs.length) h w (by omega) (by omega) (by omega)
  obtain ⟨x, e2, hx⟩ := at_nat r0 r1
  exact ⟨x, c1, by simp [f_law_pick, b_law_pick, runD, initR, e1, e2], w1, hx⟩
theorem cut_in {xs : List PyData} {lo hi : Option Int} : (cutL xs lo hi).length ≤ xs.length ∧ ∀ y ∈ cutL xs lo hi, y ∈ xs := by
  unfold cutL
  refine ⟨?_, fun y hy => List.mem_of_mem_drop (List.mem_of_mem_take hy)⟩
  rw [List.length_take, List.length_drop]
  omega
@[simp] theorem v_slt {μ : Mu} {xs : List PyData} {lo hi : Option Int} : gSl (.d (.tuple xs)) lo hi μ = .ok (.d (.tuple (cutL xs lo hi))) μ := rfl
@[simp] theorem v_sll {μ : Mu} {xs : List PyData} {lo hi : Option Int} : gSl (.d (.list xs)) lo hi μ = .ok (.d (.list (cutL xs lo hi))) μ := rfl
@[simp] theorem v_revt {μ : Mu} {xs : List PyData} : gRev (.d (.tuple xs)) μ = .ok (.d (.tuple xs.reverse)) μ := rfl
theorem t_wstep {sc a : Wv} {y v p q : Int} {μ : Mu} (v0 : 0 ≤ v) (v1 : v < 1000000000000) (hp : 0 < p) (hq : 0 < q) :
    (sAsg (e2 gMod (en gInt (aCons (e2 gPlus (e2 gPlus (e2 gTimes (eVar 2) (eK (.int 47903))) (e2 gMod (en gInt (aCons (eVar 3) aNil)) (eK (.int p)))) (eK (.int 5))) aNil)) (eK (.int q))) (gNm 2))
      [some sc, some a, some (.d (.int v)), some (.d (.int y)), none] μ = .ok (.nx [some sc, some a, some (.d (.int ((v * 47903 + y % p + 5) % q))), some (.d (.int y)), none]) μ := by
  simp (disch := omega) [TL.v_times, TL.v_mod]
theorem t_wloop {ns : List Int} {a : Wv} {v p q : Int} {μ : Mu} (v0 : 0 ≤ v) (v1 : v < q) (hp : 0 < p) (hq : 0 < q) (hq2 : q < 1000000000000) : ∃ v' o, sFor (iAny (eSl (eVar 0) none (some (eK (.int 9))))) (gNm 3)
    (sAsg (e2 gMod (en gInt (aCons (e2 gPlus (e2 gPlus (e2 gTimes (eVar 2) (eK (.int 47903))) (e2 gMod (en gInt (aCons (eVar 3) aNil)) (eK (.int p)))) (eK (.int 5))) aNil)) (eK (.int q))) (gNm 2))
    [some (.d (.list (ns.map PyData.int))), some a, some (.d (.int v)), none, none] μ = .ok (.nx [some (.d (.list (ns.map PyData.int))), some a, some (.d (.int v')), o, none]) μ ∧ 0 ≤ v' ∧ v' < q := by
  have main := for_run (it := (iAny (eSl (eVar 0) none (some (eK (.int 9)))))) (xs := cutL (ns.map PyData.int) none (some 9)) (t := gNm 3)
    (b := (sAsg (e2 gMod (en gInt (aCons (e2 gPlus (e2 gPlus (e2 gTimes (eVar 2) (eK (.int 47903))) (e2 gMod (en gInt (aCons (eVar 3) aNil)) (eK (.int p)))) (eK (.int 5))) aNil)) (eK (.int q))) (gNm 2)))
    (ρ := [some (.d (.list (ns.map PyData.int))), some a, some (.d (.int v)), none, none]) (μ := μ) (μ1 := μ)
    (fun _ ρ' μ' => μ' = μ ∧ ∃ v x, ρ' = [some (.d (.list (ns.map PyData.int))), some a, some (.d (.int v)), x, none] ∧ 0 ≤ v ∧ v < q)
    rfl ⟨rfl, _, none, rfl, v0, v1⟩ (fun n x ρ' μ' hx ⟨e0, v, o, e1, v0, v1⟩ => ?_)
  · obtain ⟨ρ', μ', e, rfl, v, o, rfl, v0, v1⟩ := main
    exact ⟨v, o, e, v0, v1⟩
  · subst e0 e1
    have hm := cut_in.2 x (List.mem_of_getElem? hx)
    obtain ⟨y, _, rfl⟩ := List.mem_map.mp hm
    exact ⟨_, _, _, _, rfl, t_wstep v0 (by omega) hp hq, rfl, _, _, rfl, Int.emod_nonneg _ (by omega), Int.emod_lt_of_pos _ hq⟩
theorem t_wown {ns : List Int} {i : Nat} {o2 o3 o4 : Option Wv} {μ : Mu} : ∃ z : Int, (eIf (tB' (e2 (gCmp fun i j => decide (i < j)) (eVar 1) (en gLen (aCons (eVar 0) aNil)))) (en gInt (aCons (e2 gIx (eVar 0) (eVar 1)) aNil)) (eK (.int 0))) [some (.d (.list (ns.map PyData.int))), some (.d (.int i)), o2, o3, o4] μ = .ok (.d (.int z)) μ := by
  by_cases hl : i < ns.length
  · have : atI (ns.map PyData.int) (i : Int) = some (.int ns[i]) := at_n (by rw [List.getElem?_map, List.getElem?_eq_getElem hl]; rfl)
    exact ⟨ns[i], by simp [this, hl]⟩
  · exact ⟨0, by simp [hl]⟩
noncomputable def M_well (p q : Int) : Ev :=
  (e2 gMod (en gInt (aCons (e2 gPlus (e2 gPlus (e2 gTimes (eVar 2) (eK (.int 43))) (e2 gTimes (e2 gMod (en gInt (aCons (eVar 4) aNil)) (eK (.int p))) (eK (.int 20187)))) (eK (.int 7))) aNil)) (eK (.int q)))
noncomputable def U_well : Sv :=
  (sRet (eNew (lDisp (aCons (eIf (bOr (tB' (e2 (gCmp fun i j => decide (i < j)) (eVar 4) (eK (.int 0)))) (tB' (e2 (gCmp fun i j => decide (j ≤ i)) (eVar 4) (e2 gPow (eK (.int 10)) (eK (.int 14)))))) (en gAbs (aCons (eVar 4) aNil)) (eK (.int 0))) (aCons (eVar 2) (aCons (eK (.int 0)) aNil))))))
theorem t_wmix {sc a : Wv} {v z p q : Int} {o o4 : Option Wv} {μ : Mu} (v0 : 0 ≤ v) (v1 : v < 1000000000000) (hp : 0 < p) (hp2 : p < 1000000000000) (hq : 0 < q) :
    sAsg (M_well p q) (gNm 2) [some sc, some a, some (.d (.int v)), o, some (.d (.int z))] μ = .ok (.nx [some sc, some a, some (.d (.int ((v * 43 + z % p * 20187 + 7) % q))), o, some (.d (.int z))]) μ := by
  have h1 := Int.emod_nonneg z (show p ≠ 0 by omega)
  have h2 := Int.emod_lt_of_pos z hp
  simp (disch := omega) [M_well, TL.v_times, TL.v_mod]
theorem t_wret {sc a : Wv} {v z : Int} {o : Option Wv} {μ : Mu} : U_well [some sc, some a, some (.d (.int v)), o, some (.d (.int z))] μ = .ok (.rt (.r μ.length)) (μ ++ [some [.int (if z < 0 ∨ 10 ^ 14 ≤ z then (if z < 0 then -z else z) else 0), .int v, .int 0]]) := by
  have p : gPow (.d (.int 10)) (.d (.int 14)) μ = .ok (.d (.int (10 ^ 14))) μ := rfl
  generalize (10 : Int) ^ 14 = big at p ⊢
  by_cases hz : z < 0
  · simp [-v_pow, U_well, hz, p]
  · by_cases hz2 : big ≤ z
    · simp [-v_pow, U_well, hz, hz2, p]
    · simp [-v_pow, U_well, hz, hz2, p]
theorem well_is : b_law_well = sSeq (sAsg (e2 gPlus (eK (.int 1138813)) (e2 gTimes (eK (.int 6447)) (eVar 1))) (gNm 2)) (sSeq (sFor (iAny (eSl (eVar 0) none (some (eK (.int 9))))) (gNm 3) (sAsg (e2 gMod (en gInt (aCons (e2 gPlus (e2 gPlus (e2 gTimes (eVar 2) (eK (.int 47903))) (e2 gMod (en gInt (aCons (eVar 3) aNil)) (eK (.int 2147483587)))) (eK (.int 5))) aNil)) (eK (.int 2147483563))) (gNm 2))) (sSeq (sAsg (eIf (tB' (e2 (gCmp fun i j => decide (i < j)) (eVar 1) (en gLen (aCons (eVar 0) aNil)))) (en gInt (aCons (e2 gIx (eVar 0) (eVar 1)) aNil)) (eK (.int 0))) (gNm 4)) (sSeq (sAsg (M_well 2147483587 2147483563) (gNm 2)) U_well))) := rfl
theorem t_well {ns : List Int} {i : Nat} {μ : Mu} (hi : i ≤ 100) : ∃ c, f_law_well [.d (.list (ns.map PyData.int)), .d (.int i)] μ = .ok (.r μ.length) (μ ++ [some c]) ∧ Wl 0 c := by
  have t1 := TL.v_times (μ := μ) (i := 6447) (j := i) (by omega) (by omega) (by omega) (by omega)
  obtain ⟨v, o, e, v0, v1⟩ := t_wloop (ns := ns) (a := .d (.int i)) (v := 1138813 + 6447 * i) (p := 2147483587) (q := 2147483563) (μ := μ) (by omega) (by omega) (by omega) (by omega) (by omega)
  obtain ⟨z, ez⟩ := t_wown (ns := ns) (i := i) (o2 := some (.d (.int v))) (o3 := o) (o4 := none) (μ := μ)
  have em := t_wmix (sc := .d (.list (ns.map PyData.int))) (a := .d (.int i)) (v := v) (z := z) (p := 2147483587) (q := 2147483563) (o := o) (o4 := none) (μ := μ) v0 (by omega) (by omega) (by omega) (by omega)
  have er := t_wret (sc := .d (.list (ns.map PyData.int))) (a := .d (.int i)) (v := (v * 43 + z % 2147483587 * 20187 + 7) % 2147483563) (z := z) (o := o) (μ := μ)
  have q : b_law_well [some (.d (.list (ns.map PyData.int))), some (.d (.int i)), none, none, none] μ = .ok (.rt (.r μ.length)) (μ ++ [some [.int (if z < 0 ∨ 10 ^ 14 ≤ z then (if z < 0 then -z else z) else 0), .int ((v * 43 + z % 2147483587 * 20187 + 7) % 2147483563), .int 0]]) := by
    rw [well_is, seq_ok (asg_ok (w := .d (.int (1138813 + 6447 * i))) (μ' := μ) (by simp [t1]))]
    show sSeq _ _ [some (.d (.list (ns.map PyData.int))), some (.d (.int i)), some (.d (.int (1138813 + 6447 * i))), none, none] μ = _
    rw [seq_ok e, seq_ok (asg_ok ez)]
    show sSeq _ _ [some (.d (.list (ns.map PyData.int))), some (.d (.int i)), some (.d (.int v)), o, some (.d (.int z))] μ = _
    rw [seq_ok em]
    exact er
  have q2 : f_law_well [.d (.list (ns.map PyData.int)), .d (.int i)] μ = .ok (.r μ.length) (μ ++ [some [.int (if z < 0 ∨ 10 ^ 14 ≤ z then (if z < 0 then -z else z) else 0), .int ((v * 43 + z % 2147483587 * 20187 + 7) % 2147483563), .int 0]]) := by
    show (match b_law_well [some (.d (.list (ns.map PyData.int))), some (.d (.int i)), none, none, none] μ with
      | .ok (.rt w) μ' => leave μ.length w μ'
      | .ok (.nx _) μ' => leave μ.length (.d .none) μ'
      | .ok (.er x us _) μ' => match allD us with
        | some c => .err x (c.map Wv.d) (μ'.take μ.length)
        | none => .bad
      | _ => .bad) = _
    rw [q]
    simp [leave]
  have hz : (0 : Int) ≤ (if z < 0 ∨ 10 ^ 14 ≤ z then (if z < 0 then -z else z) else 0) := by
    split
    · split <;> omega
    · omega
  exact ⟨_, q2, _, _, _, rfl, hz, Int.emod_nonneg _ (by omega), Int.emod_lt_of_pos _ (by omega), by omega, by omega⟩
end LW
namespace LW
open PySem PySem.Spec TL
open L2 (atI ixN)
/-- a list filled from the well -/
theorem fillG {μ : Mu} {k d m j : Nat} {mk : Option Wv → Rho} {it : TL.Iv} {t : Gv} {b : Sv} {R : PyData → Prop} {c : Cell} {μ1 : Mu} {o0 : Option Wv} (hj : j ≤ 1000) (hit : it (mk o0) μ1 = .ok ⟨intL 0 j 1, []⟩ (μ.set k (some c) ++ [some []])) (w : Wl m c)
    (ht : ∀ w o μ, t w (mk o) μ = .ok (mk (some w)) μ)
    (hb : ∀ o c n l, n ≤ 1000 → Wl (m + n * d) c → l.length = n → (∀ y ∈ l, R y) → ∃ y c', b (mk o) (μ.set k (some c) ++ [some l]) = .ok (.nx (mk o)) (μ.set k (some c') ++ [some (l ++ [y])]) ∧ Wl (m + n * d + d) c' ∧ R y) :
    ∃ o c' l, sFor it t b (mk o0) μ1 = .ok (.nx (mk o)) (μ.set k (some c') ++ [some l]) ∧ Wl (m + j * d) c' ∧ l.length = j ∧ ∀ y ∈ l, R y := by
  have main := for_run (t := t) (b := b) (fun n ρ' μ' => n ≤ j ∧ ∃ o c' l, ρ' = mk o ∧ μ' = μ.set k (some c') ++ [some l] ∧ Wl (m + n * d) c' ∧ l.length = n ∧ ∀ y ∈ l, R y) hit
    ⟨Nat.zero_le _, o0, c, [], rfl, rfl, by simpa using w, rfl, fun y hy => by cases hy⟩ (fun n x ρ' μ' hx ⟨hn, o, c', l, e1, e2, w', hl, hr⟩ => ?_)
  · obtain ⟨ρ', μ', e, hn, o, c', l, rfl, rfl, w', hl, hr⟩ := main
    rw [intL_len] at hl w'
    exact ⟨o, c', l, e, w', hl, hr⟩
  · subst e1 e2
    have hn2 : n < j := by
      have := (List.getElem?_eq_some_iff.mp hx).1
      rwa [intL_len] at this
    obtain ⟨y, c2, eb, w2, r2⟩ := hb (some (.d x)) c' n l (by omega) w' hl hr
    refine ⟨_, _, _, _, ht (.d x) o _, eb, hn2, some (.d x), c2, l ++ [y], rfl, rfl, ?_, by rw [List.length_append, hl]; rfl, fun z hz => ?_⟩
    · rw [Nat.succ_mul, ← Nat.add_assoc]
      exact w2
    · rcases List.mem_append.mp hz with hz | hz
      · exact hr z hz
      · simp at hz
        rw [hz]
        exact r2
/-- whole numbers in a list -/
theorem ints_list {M : Nat} : ∀ {l : Cell}, (∀ y ∈ l, ∃ i : Int, y = .int i ∧ i.natAbs ≤ M) → ∃ xs, l = Li xs ∧ BM M xs
  | [], _ => ⟨[], rfl, fun x hx => by cases hx⟩
  | y :: l, h => by
    obtain ⟨i, rfl, hi⟩ := h y List.mem_cons_self
    obtain ⟨xs, rfl, hx⟩ := ints_list (l := l) fun z hz => h z (List.mem_cons_of_mem _ hz)
    exact ⟨i :: xs, rfl, fun x hm => by
      rcases List.mem_cons.mp hm with rfl | hm
      · exact hi
      · exact hx x hm⟩
/-- a row as laws draw them -/
def RowO (n M : Nat) (x : PyData) : Prop := ∃ a : List Int, x = Rw' a ∧ trim a = a ∧ a.length ≤ n ∧ BM M a
def PolO (l n M : Nat) (x : PyData) : Prop := ∃ P : Pol, x = Pl P ∧ TP P ∧ P.length ≤ l ∧ PL n P ∧ PB M P
theorem rows_list {n M : Nat} : ∀ {l : Cell}, (∀ y ∈ l, RowO n M y) → ∃ P : Pol, l = Lp P ∧ TR P ∧ PL n P ∧ PB M P
  | [], _ => ⟨[], rfl, TP.nil.2, (by intro r hr; cases hr), (by intro r hr; cases hr)⟩
  | y :: l, h => by
    obtain ⟨a, rfl, h1, h2, h3⟩ := h y List.mem_cons_self
    obtain ⟨P, rfl, p1, p2, p3⟩ := rows_list (l := l) fun z hz => h z (List.mem_cons_of_mem _ hz)
    refine ⟨a :: P, rfl, p1.cons h1, fun r hr => ?_, fun r hr => ?_⟩
    · rcases List.mem_cons.mp hr with rfl | hr
      · exact h2
      · exact p2 r hr
    · rcases List.mem_cons.mp hr with rfl | hr
      · exact h3
      · exact p3 r hr
end LW
namespace LW
open PySem PySem.Spec TL
open L2 (atI ixN)
theorem t_lawrow {μ : Mu} {w : Wv} {xs : List Int} (h : SqD μ w (Li xs)) : f_law_row [w] μ = .ok (.d (Rw' (trim xs))) μ := by
  have main : ∃ ρ' μ', sWhile (bAnd (tB' (e2 (gCmp fun i j => decide (j < i)) (eVar 1) (eK (.int 0)))) (tB' (e2 (gEq false) (e2 gIx (eVar 0) (e2 gSub (eVar 1) (eK (.int 1)))) (eK (.int 0))))) (sAsg (e2 gSub (eVar 1) (eK (.int 1))) (gNm 1)) [some w, some (.d (.int xs.length))] μ = .ok (.nx ρ') μ' ∧
      μ' = μ ∧ ∃ n : Nat, ρ' = [some w, some (.d (.int n))] ∧ n ≤ xs.length ∧ xs.take n = trim xs := by
    refine wh_run (fun n ρ' μ' => μ' = μ ∧ ρ' = [some w, some (.d (.int n))] ∧ n ≤ xs.length ∧ trim (xs.take n) = trim xs) _ xs.length ⟨rfl, rfl, Nat.le_refl _, by rw [List.take_length]⟩ ?_
    rintro n ρ' μ' ⟨rfl, rfl, hn, ht⟩
    cases n with
    | zero => exact ⟨false, μ', by simp, .inl ⟨rfl, rfl, 0, rfl, hn, by rw [← ht]; rfl⟩⟩
    | succ n =>
      have ei : ((n + 1 : Nat) : Int) - 1 = (n : Int) := by omega
      have e1 := sqd_ix h (n := n) (x := .int xs[n]) (by rw [Li_get, List.getElem?_eq_getElem (show n < xs.length by omega)]; rfl)
      have hp : (0 : Int) < ((n + 1 : Nat) : Int) := by omega
      by_cases hz : xs[n] = 0
      · refine ⟨true, μ', ?_, .inr ⟨rfl, [some w, some (.d (.int n))], μ', n, by omega, ?_, rfl, rfl, by omega, ?_⟩⟩
        · simp only [x_band, x_tB, x_e2, x_v0, x_vs, x_k, Out.bind_ok, v_cmp, x_calm, x_wB, decide_eq_true hp, if_true, v_sub, ei, e1, v_eqd, eq_ii]
          simp [hz]
        · simp only [x_asg, x_e2, x_v0, x_vs, x_k, Out.bind_ok, v_sub, x_calm, liftO_ok, x_nm, ei]
          rfl
        · rw [← ht, trim_take (by omega) hz]
      · refine ⟨false, μ', ?_, .inl ⟨rfl, rfl, n + 1, rfl, hn, ?_⟩⟩
        · simp only [x_band, x_tB, x_e2, x_v0, x_vs, x_k, Out.bind_ok, v_cmp, x_calm, x_wB, decide_eq_true hp, if_true, v_sub, ei, e1, v_eqd, eq_ii]
          simp [hz]
        · rw [← ht, trim_take' (by omega) hz]
  obtain ⟨ρ', μ', e, rfl, n, rfl, hn, ht⟩ := main
  obtain ⟨u, e2, e3⟩ := sqd_take h (n := n) (by rw [Li_len]; exact hn)
  have e4 : (Li xs).take n = Li (trim xs) := by rw [← ht]; exact (List.map_take).symm
  rw [e4] at e3
  have el := sqd_len h
  rw [Li_len] at el
  simp [f_law_row, b_law_row, runD, initR, el]
  rw [e]
  simp [e2, e3]
end LW
namespace LW
open PySem PySem.Spec TL
open L2 (atI ixN)
theorem t_share {μ : Mu} {a b : Int} : f_law_share [.d (.int a), .d (.int b)] μ = .ok (.d (.int (Nat.gcd a.natAbs b.natAbs : Nat))) μ := by
  have main : ∃ ρ' μ', sWhile (tB' (e2 (gEq true) (eVar 3) (eK (.int 0)))) (sPar 2 3 (aCons (eVar 3) (aCons (e2 gMod (en gInt (aCons (eVar 2) aNil)) (eVar 3)) aNil))) [some (.d (.int a)), some (.d (.int b)), some (.d (.int (a.natAbs : Int))), some (.d (.int (b.natAbs : Int)))] μ = .ok (.nx ρ') μ' ∧
      μ' = μ ∧ ρ' = [some (.d (.int a)), some (.d (.int b)), some (.d (.int (Nat.gcd a.natAbs b.natAbs : Nat))), some (.d (.int 0))] := by
    refine wh_run (fun n ρ' μ' => μ' = μ ∧ ∃ x y : Nat, ρ' = [some (.d (.int a)), some (.d (.int b)), some (.d (.int x)), some (.d (.int y))] ∧ n = y ∧ Nat.gcd x y = Nat.gcd a.natAbs b.natAbs) _ b.natAbs ⟨rfl, _, _, rfl, rfl, rfl⟩ ?_
    rintro n ρ' μ' ⟨rfl, x, y, rfl, rfl, hg⟩
    by_cases hy : n = 0
    · subst hy
      refine ⟨false, μ', by simp, .inl ⟨rfl, rfl, ?_⟩⟩
      rw [← hg]
      simp
    · have hp : 0 < n := Nat.pos_of_ne_zero hy
      have hm := TL.v_mod (μ := μ') (i := (x : Int)) (j := (n : Int)) (by omega)
      have em : ((x : Int) % (n : Int)) = ((x % n : Nat) : Int) := (Int.natCast_emod x n).symm
      rw [em] at hm
      refine ⟨true, μ', by simp [hy], .inr ⟨rfl, [some (.d (.int a)), some (.d (.int b)), some (.d (.int n)), some (.d (.int (x % n : Nat)))], μ', x % n, Nat.mod_lt _ hp, ?_, rfl, n, x % n, rfl, rfl, ?_⟩⟩
      · unfold sPar
        simp only [x_cons, x_v0, x_vs, Out.bind_ok, x_e2, x_en, x_nil, v_int, x_calm, hm, liftO_ok]
        rfl
      · rw [← hg, Nat.gcd_comm x n]
        exact (Nat.gcd_comm _ _).trans (Nat.gcd_rec n x).symm
  obtain ⟨ρ', μ', e, rfl, rfl⟩ := main
  simp [f_law_share, b_law_share, runD, initR, sPar, nat_abs_int]
  rw [e]
  simp
end LW
namespace LW
open PySem PySem.Spec TL
open L2 (atI ixN)
theorem flat_one {β : Type} (x : β) : ∀ n : Nat, (List.replicate n [x]).flatten = List.replicate n x
  | 0 => rfl
  | n + 1 => by
    rw [List.replicate_succ, List.flatten_cons, flat_one x n]
    rfl
end LW
namespace LW
open PySem PySem.Spec TL
open L2 (atI ixN)
theorem t_rep {μ : Mu} {ρ : Rho} {a b : Ev} {n : Nat} {x : PyData} (ha : a ρ μ = .ok (.d (.list [x])) μ) (hb : b ρ μ = .ok (.d (.int (n : Int))) μ) (hn : n ≤ 1000) : lRep a b ρ μ = .ok (List.replicate n x) μ := by
  show (a ρ μ).bind _ = _
  rw [ha]
  show (b ρ μ).bind _ = _
  rw [hb]
  show (if repOk [x].length (n : Int) = true then Out.ok _ μ else Out.bad) = _
  rw [if_pos (repOk_is ⟨by omega, by omega, by simp; omega⟩), flat_one] <;> rfl
theorem set_same {μ : Mu} {k : Nat} {c : Option Cell} (h : μ[k]? = some c) : μ.set k c = μ := by
  apply List.ext_getElem?
  intro n
  by_cases hn : k = n
  · subst hn
    rw [get_set h, h]
  · rw [List.getElem?_set_ne hn]
theorem cell_ix {μ : Mu} {k : Nat} {c : List Int} {n : Nat} (h : μ[k]? = some (some (Li c))) (hn : n < c.length) : gIx (.r k) (.d (.int (n : Int))) μ = .ok (.d (.int (c.getD n 0))) μ := by
  have : atI (Li c) (n : Int) = some (.int (c.getD n 0)) := at_n (by rw [Li_get, List.getElem?_eq_getElem hn, List.getD_eq_getElem?_getD, List.getElem?_eq_getElem hn]; rfl)
  rw [v_ixr h, this]
theorem cell_set {μ : Mu} {k : Nat} {c : List Int} {n : Nat} {v : Int} (h : μ[k]? = some (some (Li c))) (hn : n < c.length) : setC (.r k) (.d (.int (n : Int))) (.d (.int v)) μ = .ok () (μ.set k (some (Li (c.set n v)))) := by
  have e : ixN (Li c).length (n : Int) = some n := by
    unfold ixN
    rw [if_pos (by omega), if_pos (by rw [Li_len]; omega)]
    rfl
  rw [v_setc h, e]
  show Out.ok () (μ.set k (some ((Li c).set n (.int v)))) = _
  unfold Li
  rw [List.map_set]
theorem Li_at {a : List Int} {n : Nat} (h : n < a.length) : atI (Li a) (n : Int) = some (.int a[n]) := at_n (by rw [Li_get, List.getElem?_eq_getElem h]; rfl)
end LW
namespace LW
open PySem PySem.Spec TL
open L2 (atI ixN)
theorem t_law_lean {μ : Mu} {a b : Int} (hb : 0 < b) (hs : Sml b) : ∃ t l : Int, f_law_lean [.d (.int a), .d (.int b)] μ = .ok (.d (Fd t l)) μ ∧ (∃ q : Rat, Fd t l = Fq q) ∧ t.natAbs ≤ a.natAbs ∧ l.natAbs ≤ b.natAbs := by
  have hg : 0 < Nat.gcd a.natAbs b.natAbs := Nat.gcd_pos_of_pos_right _ (by omega)
  have hg1 : (0 : Int) < (Nat.gcd a.natAbs b.natAbs : Int) := by omega
  have hg2 : Sml (Nat.gcd a.natAbs b.natAbs : Int) := by
    have h2 : Nat.gcd a.natAbs b.natAbs ≤ b.natAbs := Nat.le_of_dvd (by omega) (Nat.gcd_dvd_right _ _)
    unfold Sml at hs ⊢
    rw [Int.natAbs_natCast]
    exact Nat.lt_of_le_of_lt h2 hs
  have d1 := w_div (μ := μ) (i := a) hg1 hg2
  have d2 := w_div (μ := μ) (i := b) hg1 hg2
  obtain ⟨e1, e2⟩ := lean_num (a := a) hb
  have sh := t_share (μ := μ) (a := a) (b := b)
  refine ⟨a / (Nat.gcd a.natAbs b.natAbs : Int), b / (Nat.gcd a.natAbs b.natAbs : Int), ?_, ⟨(a : Rat) / (b : Rat), by unfold Fq; rw [e1, e2]⟩, ?_, ?_⟩
  · generalize (Nat.gcd a.natAbs b.natAbs : Int) = g at *
    simp [f_law_lean, b_law_lean, runD, initR, hb, sh, d1, d2]
  · obtain ⟨c, hc⟩ := Nat.gcd_dvd_left a.natAbs b.natAbs
    generalize Nat.gcd a.natAbs b.natAbs = g at *
    have hd : (g : Int) ∣ a := Int.natAbs_dvd_natAbs.mp (by rw [Int.natAbs_natCast]; exact ⟨c, hc⟩)
    obtain ⟨k, rfl⟩ := hd
    rw [Int.mul_ediv_cancel_left _ (by omega), Int.natAbs_mul]
    exact Nat.le_mul_of_pos_left _ (by omega)
  · obtain ⟨c, hc⟩ := Nat.gcd_dvd_right a.natAbs b.natAbs
    generalize Nat.gcd a.natAbs b.natAbs = g at *
    have hd : (g : Int) ∣ b := Int.natAbs_dvd_natAbs.mp (by rw [Int.natAbs_natCast]; exact ⟨c, hc⟩)
    obtain ⟨k, rfl⟩ := hd
    rw [Int.mul_ediv_cancel_left _ (by omega), Int.natAbs_mul]
    exact Nat.le_mul_of_pos_left _ (by omega)
theorem hs_bd {t l : Int} {m k : Nat} (ht : t.natAbs ≤ 2 ^ k) (hl : l.natAbs ≤ 2 ^ k) : ∀ {a : List Int}, BM (2 ^ m) a → (hs t l a).1.natAbs ≤ 2 ^ (m + (k + 1) * a.length) ∧ (hs t l a).2.natAbs ≤ 2 ^ (k * a.length)
  | [], _ => ⟨by simp [hs], by simp [hs]⟩
  | x :: r, h => by
    obtain ⟨h1, h2⟩ := hs_bd ht hl (a := r) fun y hy => h y (List.mem_cons_of_mem _ hy)
    have hx := h x List.mem_cons_self
    rw [List.length_cons]
    refine ⟨?_, ?_⟩
    · show ((hs t l r).1 * t + x * (hs t l r).2).natAbs ≤ _
      have b1 := mul_bd h1 ht
      have b2 := mul_bd hx h2
      have b3 : 2 ^ (m + k * r.length) ≤ 2 ^ (m + (k + 1) * r.length + k) := Nat.pow_le_pow_right (by decide) (by
        have : k * r.length ≤ (k + 1) * r.length := Nat.mul_le_mul_right _ (by omega)
        omega)
      have e : 2 ^ (m + (k + 1) * (r.length + 1)) = 2 ^ (m + (k + 1) * r.length + k) + 2 ^ (m + (k + 1) * r.length + k) := by
        rw [show m + (k + 1) * (r.length + 1) = (m + (k + 1) * r.length + k) + 1 by rw [Nat.mul_succ]; omega, Nat.pow_succ]
        omega
      rw [e]
      have := Int.natAbs_add_le ((hs t l r).1 * t) (x * (hs t l r).2)
      omega
    · show ((hs t l r).2 * l).natAbs ≤ _
      have := mul_bd h2 hl
      rwa [show k * (r.length + 1) = k * r.length + k from Nat.mul_succ _ _]
noncomputable def SCb : Sv := (sPar 3 4 (aCons (e2 gPlus (e2 gTimes (eVar 3) (e2 gIx (eVar 1) (eK (.int 0)))) (e2 gTimes (eVar 2) (eVar 4))) (aCons (e2 gTimes (eVar 4) (e2 gIx (eVar 1) (eK (.int 1)))) aNil)))
theorem t_scaled {μ : Mu} {a : List Int} {t l : Int} (ha : a.length ≤ 10) (hb : BM (2 ^ 100) a) (ho : PutOk t l) : f_law_scaled [.d (.list (Li a)), .d (Fd t l)] μ = .ok (.d (.int (sc t l a))) μ := by
  have main := for_run (it := iAny (e1 gRev (eVar 0))) (xs := (Li a).reverse) (t := gNm 2) (b := SCb) (ρ := [some (.d (.list (Li a))), some (.d (Fd t l)), none, some (.d (.int 0)), some (.d (.int 1))]) (μ := μ) (μ1 := μ)
    (fun n ρ' μ' => μ' = μ ∧ ∃ (p q : List Int) (o : Option Wv), a = p ++ q ∧ q.length = n ∧ ρ' = [some (.d (.list (Li a))), some (.d (Fd t l)), o, some (.d (.int (hs t l q).1)), some (.d (.int (hs t l q).2))])
    rfl ⟨rfl, a, [], none, by simp, rfl, rfl⟩ (fun n x ρ' μ' hx ⟨e0, p, q, o, e1, e2, e3⟩ => ?_)
  · obtain ⟨ρ', μ', e, rfl, p, q, o, e1, e2, rfl⟩ := main
    rw [List.length_reverse, Li_len] at e2
    have hp : p = [] := by
      have := congrArg List.length e1
      rw [List.length_append] at this
      exact List.length_eq_zero_iff.mp (by omega)
    subst hp
    rw [List.nil_append] at e1
    subst e1
    show runD 5 b_law_scaled _ μ' = _
    refine run_ret ?_
    have s1 : sAsg (eTup (aCons (eK (.int 0)) (aCons (eK (.int 1)) aNil))) (gTp [(gNm 3), (gNm 4)]) [some (.d (.list (Li a))), some (.d (Fd t l)), none, none, none] μ' = .ok (.nx [some (.d (.list (Li a))), some (.d (Fd t l)), none, some (.d (.int 0)), some (.d (.int 1))]) μ' := by simp
    show sSeq _ (sSeq (sFor (iAny (e1 gRev (eVar 0))) (gNm 2) SCb) _) [some (.d (.list (Li a))), some (.d (Fd t l)), none, none, none] μ' = _
    rw [seq_ok s1, seq_ok e]
    simp [sc]
  · subst e0 e3
    rcases List.eq_nil_or_concat p with rfl | ⟨p', z, rfl⟩
    · rw [List.nil_append] at e1
      have := (List.getElem?_eq_some_iff.mp hx).1
      rw [List.length_reverse, Li_len, e1, e2] at this
      omega
    · rw [List.concat_eq_append] at e1
      have hxz : x = .int z := by
        rw [e1, Li_app, Li_app, Li_one, List.reverse_append, List.getElem?_append_right (by rw [List.length_reverse, Li_len]; omega), List.length_reverse, Li_len, e2, Nat.sub_self] at hx
        simpa using hx.symm
      subst hxz
      have hza : z ∈ a := by rw [e1]; simp
      have hq : BM (2 ^ 100) q := fun y hy => hb y (by rw [e1]; simp [hy])
      have hql : q.length ≤ 10 := by
        have := congrArg List.length e1
        rw [List.length_append] at this
        omega
      obtain ⟨b1, b2⟩ := hs_bd ho.t ho.l hq
      have c1 : (30 + 1) * q.length ≤ 310 := by omega
      have c2 : 30 * q.length ≤ 300 := by omega
      have w1 := w_times (μ := μ') (.of b1 (by omega)) (.of ho.t (by decide))
      have w2 := w_times (μ := μ') (.of (hb z hza) (by decide)) (.of b2 (by omega))
      have w3 := w_times (μ := μ') (.of b2 (by omega)) (.of ho.l (by decide))
      refine ⟨_, _, [some (.d (.list (Li a))), some (.d (Fd t l)), some (.d (.int z)), some (.d (.int (hs t l (z :: q)).1)), some (.d (.int (hs t l (z :: q)).2))], μ', rfl, ?_, rfl, p', z :: q, some (.d (.int z)), by rw [e1]; simp, by rw [List.length_cons, e2], rfl⟩
      show SCb [some (.d (.list (Li a))), some (.d (Fd t l)), some (.d (.int z)), some (.d (.int (hs t l q).1)), some (.d (.int (hs t l q).2))] μ' = .ok (.nx [some (.d (.list (Li a))), some (.d (Fd t l)), some (.d (.int z)), some (.d (.int ((hs t l q).1 * t + z * (hs t l q).2))), some (.d (.int ((hs t l q).2 * l)))]) μ'
      generalize (hs t l q).1 = h1 at *
      generalize (hs t l q).2 = h2 at *
      simp [SCb, w1, w2, w3]
end LW
namespace LW
open PySem PySem.Spec TL
open L2 (atI ixN)
theorem maxI_app0 : ∀ (xs : List Int) (m : Int), 0 ≤ m → maxI m (xs ++ [0]) = maxI m xs
  | [], m, h => by
    show maxI (if (0 : Int) > m then 0 else m) [] = maxI m []
    rw [if_neg (by omega)]
  | x :: xs, m, h => by
    rw [List.cons_append]
    show maxI (if x > m then x else m) (xs ++ [0]) = maxI (if x > m then x else m) xs
    exact maxI_app0 xs _ (by split <;> omega)
/-- max(lens + [0]) -/
theorem t_wid0 {ρ : Rho} {μ : Mu} {P : Pol} {f : Ev} (hf : f ρ μ = .ok (.d (.list (Li (P.map fun r => (r.length : Int))))) μ) (hl : P.length ≤ 1000) :
    en gMax (aCons (e2 gPlus f (eFrz (lDisp (aCons (eK (.int 0)) aNil)))) aNil) ρ μ = .ok (.d (.int (wid P))) μ := by
  have h1 : P.length + 1 ≤ 16777216 := by omega
  have m : gMax [.d (.list (Li (P.map fun r => (r.length : Int)) ++ [.int 0]))] μ = .ok (.d (.int (wid P))) μ := by
    cases P with
    | nil => exact gMax_li (m := 0) (xs := [])
    | cons r P =>
      have w := maxI_lens (r :: P)
      rw [List.map_cons] at w ⊢
      have w2 : maxI 0 ((r.length : Int) :: P.map fun r => (r.length : Int)) = maxI (r.length : Int) (P.map fun r => (r.length : Int)) := by
        show maxI (if (r.length : Int) > 0 then (r.length : Int) else 0) _ = _
        congr 1
        split <;> omega
      rw [w2, ← maxI_app0 _ _ (by omega)] at w
      rw [← w]
      have e := gMax_li (μ := μ) (m := (r.length : Int)) (xs := (P.map fun r => (r.length : Int)) ++ [0])
      rw [Li_app, Li_one] at e
      exact e
  have hll : (Li (P.map fun r => (r.length : Int))).length = P.length := by rw [Li_len, List.length_map]
  generalize (Li (P.map fun r => (r.length : Int))) = T at *
  simp [hf, hll, h1, m]
theorem t_law_turned {μ : Mu} {P : Pol} (ht : TR P) (hl : P.length ≤ 1000) (hr : PL 1000 P) : f_law_turned [.d (Pl P)] μ = .ok (.d (Pl (exch P))) μ := by
  have hw : wid P ≤ 1000 := wid_most hr
  have l1 := lc_lens (μ := μ ++ [some []]) (P := P) (ρ := [some (.d (Pl P)), some (.r μ.length), none, none]) (i := 3) (x := eVar 0) rfl hl fun r => rfl
  have m1 := t_wid0 (μ := μ ++ [some []]) (P := P) (ρ := [some (.d (Pl P)), some (.r μ.length), none, none]) (f := eFrz (lLc (iAny (eVar 0)) (gNm 3) bYes (en gLen (aCons (eVar 3) aNil)) [3])) (by rw [x_frz, l1]; rfl) hl
  have main := for_run (it := iR1 (aCons (en gMax (aCons (e2 gPlus (eFrz (lLc (iAny (eVar 0)) (gNm 3) bYes (en gLen (aCons (eVar 3) aNil)) [3])) (eFrz (lDisp (aCons (eK (.int 0)) aNil)))) aNil)) aNil)) (xs := intL 0 (wid P) 1) (t := gNm 2)
    (b := sExpr (eMeth1 gApp (eVar 1) (aCons (cF 1 f_law_row (aCons (eFrz (lLc (iAny (eVar 0)) (gNm 3) bYes (eIf (tB' (e2 (gCmp fun i j => decide (i < j)) (eVar 2) (en gLen (aCons (eVar 3) aNil)))) (e2 gIx (eVar 3) (eVar 2)) (eK (.int 0))) [3])) aNil)) aNil)))
    (ρ := [some (.d (Pl P)), some (.r μ.length), none, none]) (μ := μ ++ [some []]) (μ1 := μ ++ [some []])
    (fun n ρ' μ' => n ≤ wid P ∧ μ' = μ ++ [some (Lp ((List.range n).map fun j => trim (col P j)))] ∧ ∃ o, ρ' = [some (.d (Pl P)), some (.r μ.length), o, none])
    (it_r1 (j := (wid P : Int)) (by rw [x_cons, m1]; rfl) (by omega) (by omega)) ⟨Nat.zero_le _, rfl, none, rfl⟩ (fun n x ρ' μ' hx ⟨hn, e0, o, e1⟩ => ?_)
  · obtain ⟨ρ', μ', e, _, rfl, o, rfl⟩ := main
    rw [intL_len] at e
    have tr := v_tupr (μ := μ ++ [some (Lp ((List.range (wid P)).map fun j => trim (col P j)))]) (k := μ.length) (c := Lp ((List.range (wid P)).map fun j => trim (col P j))) (by simp)
    rw [← exch_rows ht] at tr e
    unfold f_law_turned
    refine (run_rt (x := Pl (exch P)) (μ' := μ ++ [some (Lp (exch P))]) ?_).trans (by rw [take_app])
    show sSeq _ _ [some (.d (Pl P)), none, none, none] μ = _
    rw [seq_ok (asg_ok (w := .r μ.length) (μ' := μ ++ [some []]) (by simp))]
    show sSeq _ _ [some (.d (Pl P)), some (.r μ.length), none, none] (μ ++ [some []]) = _
    rw [seq_ok e]
    simp only [x_ret, x_en, x_cons, x_v0, x_vs, Out.bind_ok, x_nil, x_calm, tr, liftO_ok]
  · subst e0 e1
    have hk : n < wid P := by
      have := (List.getElem?_eq_some_iff.mp hx).1
      rwa [intL_len] at this
    rw [intL_at hk] at hx
    cases hx
    generalize hL : Lp ((List.range n).map fun j => trim (col P j)) = L
    have hLl : L.length = n := by rw [← hL, Lp_len, List.length_map, List.length_range]
    have l3 := lc_col (μ := μ ++ [some L]) (P := P) (ρ := [some (.d (Pl P)), some (.r μ.length), some (.d (.int ((0 : Int) + (n : Int)))), none]) (i := 3) (j := 2) (k := n) (x := eVar 0) rfl hl (fun r => rfl) (fun r => by simp)
    have tr := t_lawrow (μ := μ ++ [some L]) (w := .d (.list (Li (col P n)))) (xs := col P n) (.inl rfl)
    have lv : live (.r μ.length) (μ ++ [some L]) = true := live_r (c := L) (by simp)
    have ap : gApp (.r μ.length) [.d (Rw' (trim (col P n)))] (μ ++ [some L]) = .ok (.d .none) ((μ ++ [some L]).set μ.length (some (L ++ [Rw' (trim (col P n))]))) := v_app (by simp) (by omega)
    have es : (μ ++ [some L]).set μ.length (some (L ++ [Rw' (trim (col P n))])) = μ ++ [some (Lp ((List.range (n + 1)).map fun j => trim (col P j)))] := by
      rw [List.set_append_right _ _ (Nat.le_refl _), Nat.sub_self, ← hL, Lp_range, Lp_range, List.range_succ, List.map_append]
      rfl
    refine ⟨_, _, [some (.d (Pl P)), some (.r μ.length), some (.d (.int ((0 : Int) + (n : Int)))), none], _, rfl, ?_, hk, rfl, _, rfl⟩
    show sExpr _ [some (.d (Pl P)), some (.r μ.length), some (.d (.int ((0 : Int) + (n : Int)))), none] (μ ++ [some L]) = _
    simp only [x_expr, x_meth, x_v0, x_vs, Out.bind_ok, lv, if_true, x_cons, x_cF, x_frz, l3, x_nil, List.length_singleton, tr, ap, x_calm, liftO_ok, es]
end LW
namespace LW
open PySem PySem.Spec TL
open L2 (atI ixN)
noncomputable def LQ1 : Sv :=
  (sIf (tB' (e2 (gEq false) (eVar 0) (eTup aNil))) (sRet (eTup aNil)) sNext)
noncomputable def LQ2 : Sv :=
  (sPar 5 6 (aCons (eNew (lDisp aNil)) (aCons (en gMax (aCons (eFrz (lLc (iAny (eVar 0)) (gNm 4) bYes (en gLen (aCons (eVar 4) aNil)) [4])) aNil)) aNil)))
noncomputable def LQ3 : Sv :=
  (sIf (tB' (e2 (gEq false) (eVar 1) (eK (.str "x")))) (sSeq (sFor (iAny (eVar 0)) (gNm 4) (sExpr (eMeth1 gApp (eVar 5) (aCons (cF 1 f_law_row (aCons (eFrz (lDisp (aCons (cF 2 f_law_scaled (aCons (e2 gPlus (eFrz (lList (aCons (eVar 4) aNil))) (eFrz (lRep (eFrz (lDisp (aCons (eK (.int 0)) aNil))) (e2 gSub (eVar 6) (en gLen (aCons (eVar 4) aNil)))))) (aCons (eVar 2) aNil))) aNil))) aNil)) aNil))))
    (sSeq (sWhile (bAnd (tB' (e2 (gEq true) (eVar 5) (eFrz (lDisp aNil)))) (tB' (e2 (gEq false) (e2 gIx (eVar 5) (e1 gNeg (eK (.int 1)))) (eTup aNil)))) (sExpr (e1 gPop (eVar 5))))
    (sRet (en gTuple (aCons (eVar 5) aNil))))) sNext)
noncomputable def LQ4 : Sv :=
  (sFor (iR1 (aCons (eVar 6) aNil)) (gNm 3) (sExpr (eMeth1 gApp (eVar 5) (aCons (cF 2 f_law_scaled (aCons (eFrz (lLc (iAny (eVar 0)) (gNm 4) bYes (eIf (tB' (e2 (gCmp fun i j => decide (i < j)) (eVar 3) (en gLen (aCons (eVar 4) aNil)))) (e2 gIx (eVar 4) (eVar 3)) (eK (.int 0))) [4])) (aCons (eVar 2) aNil))) aNil))))
noncomputable def LQ5 : Sv :=
  (sAsg (cF 1 f_law_row (aCons (eVar 5) aNil)) (gNm 4))
noncomputable def LQ6 : Sv :=
  (sRet (eIf (tB' (e2 (gEq true) (eVar 4) (eTup aNil))) (eTup (aCons (eVar 4) aNil)) (eTup aNil)))
theorem LQ_is : b_law_put = sSeq LQ1 (sSeq LQ2 (sSeq LQ3 (sSeq LQ4 (sSeq LQ5 (LQ6))))) := rfl
theorem li_rep {n : Nat} {x : Int} : List.replicate n (PyData.int x) = Li (List.replicate n x) := by
  unfold Li
  rw [List.map_replicate]
theorem pop_P {μ : Mu} {ρ : Rho} {Q : Pol} (h5 : ρ[5]? = some (some (.r μ.length))) : sWhile (bAnd (tB' (e2 (gEq true) (eVar 5) (eFrz (lDisp aNil)))) (tB' (e2 (gEq false) (e2 gIx (eVar 5) (e1 gNeg (eK (.int 1)))) (eTup aNil)))) (sExpr (e1 gPop (eVar 5))) ρ (μ ++ [some (Lp Q)]) = .ok (.nx ρ) (μ ++ [some (Lp (trimP Q))]) := by
  have hv : ∀ S : Mu, eVar 5 ρ S = .ok (.r μ.length) S := fun S => x_var h5
  have main : ∃ ρ' μ', sWhile (bAnd (tB' (e2 (gEq true) (eVar 5) (eFrz (lDisp aNil)))) (tB' (e2 (gEq false) (e2 gIx (eVar 5) (e1 gNeg (eK (.int 1)))) (eTup aNil)))) (sExpr (e1 gPop (eVar 5))) ρ (μ ++ [some (Lp Q)]) = .ok (.nx ρ') μ' ∧ ρ' = ρ ∧ μ' = μ ++ [some (Lp (trimP Q))] := by
    refine wh_run (fun n ρ' μ' => ∃ R : Pol, ρ' = ρ ∧ μ' = μ ++ [some (Lp R)] ∧ n = R.length ∧ trimP R = trimP Q) _ Q.length ⟨Q, rfl, rfl, rfl, rfl⟩ ?_
    rintro n ρ' μ' ⟨R, rfl, rfl, rfl, ht⟩
    have t : (μ ++ [some (Lp R)])[μ.length]? = some (some (Lp R)) := by simp
    have q1 : gEq true (.r μ.length) (.d (.list [])) (μ ++ [some (Lp R)]) = .ok (.d (.bool (!(Lp R).isEmpty))) (μ ++ [some (Lp R)]) := v_eq (x_dr t) rfl eq_ll
    rcases List.eq_nil_or_concat R with rfl | ⟨S, z, rfl⟩
    · refine ⟨false, μ ++ [some (Lp [])], ?_, .inl ⟨rfl, rfl, by rw [← ht]; rfl⟩⟩
      have q1 : gEq true (.r μ.length) (.d (.list [])) (μ ++ [some (Lp [])]) = .ok (.d (.bool false)) (μ ++ [some (Lp [])]) := q1
      simp [hv, q1]
    · rw [List.concat_eq_append] at *
      have e : Lp (S ++ [z]) = Lp S ++ [Rw' z] := List.map_append
      rw [e] at t q1 ⊢
      have hne : (Lp S ++ [Rw' z]).isEmpty = false := by cases Lp S <;> rfl
      rw [hne] at q1
      have q2 : gIx (.r μ.length) (.d (.int (-1))) (μ ++ [some (Lp S ++ [Rw' z])]) = .ok (.d (Rw' z)) (μ ++ [some (Lp S ++ [Rw' z])]) := by
        rw [v_ixr t, L2.atI_last _ _]
      have cond : ∀ T : Mu, gEq true (.r μ.length) (.d (.list [])) T = .ok (.d (.bool (!false))) T → gIx (.r μ.length) (.d (.int (-1))) T = .ok (.d (Rw' z)) T →
          bAnd (tB' (e2 (gEq true) (eVar 5) (eFrz (lDisp aNil)))) (tB' (e2 (gEq false) (e2 gIx (eVar 5) (e1 gNeg (eK (.int 1)))) (eTup aNil))) ρ' T = .ok (Li z).isEmpty T := by
        intro T q1 q2
        simp [hv, q1, q2]
      refine ⟨(Li z).isEmpty, _, cond _ q1 q2, ?_⟩
      rw [Li_empty]
      cases hz : z.isEmpty with
      | false =>
        refine .inl ⟨rfl, rfl, ?_⟩
        rw [← ht, trimP_snoc, if_neg (by intro h; rw [h] at hz; cases hz), e]
      | true =>
        have hz0 : z = [] := by simpa using hz
        have p : gPop (.r μ.length) (μ ++ [some (Lp S ++ [Rw' z])]) = .ok (.d (Rw' z)) (μ ++ [some (Lp S)]) := by
          unfold gPop
          simp only [t]
          simp
        refine .inr ⟨rfl, ρ', μ ++ [some (Lp S)], S.length, by simp, ?_, S, rfl, rfl, rfl, by rw [← ht, trimP_snoc, if_pos hz0]⟩
        simp [hv, p]
  obtain ⟨ρ', μ', e, rfl, rfl⟩ := main
  exact e
theorem pad_len' {n : Nat} {a : List Int} (h : a.length ≤ n) : (pad n a).length = n := by
  unfold pad
  rw [List.length_append, List.length_replicate]
  omega
theorem pad_BM {n M : Nat} {a : List Int} (h : BM M a) : BM M (pad n a) := fun x hx => by
  unfold pad at hx
  rcases List.mem_append.mp hx with hx | hx
  · exact h x hx
  · rw [(List.mem_replicate.mp hx).2]
    simp
/-- behind the first two rows -/
theorem lq_head {μ : Mu} {P : Pol} {l : Str} {sp : PyData} (hne : P ≠ []) (hl : P.length ≤ 1000) (R : Sv) : sSeq LQ1 (sSeq LQ2 R) [some (.d (Pl P)), some (.d (.str l)), some (.d sp), none, none, none, none] μ = R [some (.d (Pl P)), some (.d (.str l)), some (.d sp), none, none, some (.r μ.length), some (.d (.int (wid P : Int)))] (μ ++ [some []]) := by
  have hE : (Lp P).isEmpty = false := by rw [Lp_empty]; cases P with | nil => exact absurd rfl hne | cons a b => rfl
  have s1 : LQ1 [some (.d (Pl P)), some (.d (.str l)), some (.d sp), none, none, none, none] μ = .ok (.nx [some (.d (Pl P)), some (.d (.str l)), some (.d sp), none, none, none, none]) μ := by simp [LQ1, hE]
  have l1 := lc_lens (μ := μ ++ [some []]) (P := P) (ρ := [some (.d (Pl P)), some (.d (.str l)), some (.d sp), none, none, none, none]) (i := 4) (x := eVar 0) rfl hl fun r => rfl
  have m1 := wid_max (μ := μ ++ [some []]) hne
  have s2 : LQ2 [some (.d (Pl P)), some (.d (.str l)), some (.d sp), none, none, none, none] μ = .ok (.nx [some (.d (Pl P)), some (.d (.str l)), some (.d sp), none, none, some (.r μ.length), some (.d (.int (wid P : Int)))]) (μ ++ [some []]) := by
    generalize (Li (P.map fun r => (r.length : Int))) = T at *
    simp [LQ2, l1, m1]
  rw [seq_ok s1, seq_ok s2]
noncomputable def LQx : Sv := (sExpr (eMeth1 gApp (eVar 5) (aCons (cF 1 f_law_row (aCons (eFrz (lDisp (aCons (cF 2 f_law_scaled (aCons (e2 gPlus (eFrz (lList (aCons (eVar 4) aNil))) (eFrz (lRep (eFrz (lDisp (aCons (eK (.int 0)) aNil))) (e2 gSub (eVar 6) (en gLen (aCons (eVar 4) aNil)))))) (aCons (eVar 2) aNil))) aNil))) aNil)) aNil)))
theorem lqx {μ : Mu} {P : Pol} {t l : Int} {lt : Str} {r : List Int} {L : Cell} {o3 : Option Wv} (hr : r.length ≤ wid P) (hw : wid P ≤ 10) (hb : BM (2 ^ 100) r) (ho : PutOk t l) (hL : L.length ≤ 1000) :
    LQx [some (.d (Pl P)), some (.d (.str lt)), some (.d (Fd t l)), o3, some (.d (Rw' r)), some (.r μ.length), some (.d (.int (wid P : Int)))] (μ ++ [some L]) = .ok (.nx [some (.d (Pl P)), some (.d (.str lt)), some (.d (Fd t l)), o3, some (.d (Rw' r)), some (.r μ.length), some (.d (.int (wid P : Int)))]) (μ ++ [some (L ++ [Rw' (one (sc t l (pad (wid P) r)))])]) := by
  have lv : live (.r μ.length) (μ ++ [some L]) = true := live_r (c := L) (by simp)
  have rp := t_rep (μ := μ ++ [some L]) (ρ := [some (.d (Pl P)), some (.d (.str lt)), some (.d (Fd t l)), o3, some (.d (Rw' r)), some (.r μ.length), some (.d (.int (wid P : Int)))]) (a := eFrz (lDisp (aCons (eK (.int 0)) aNil))) (b := e2 gSub (eVar 6) (en gLen (aCons (eVar 4) aNil))) (n := wid P - r.length) (x := .int 0) (by simp) (by
    rw [show (((wid P - r.length : Nat)) : Int) = (wid P : Int) - (r.length : Int) by omega]
    simp) (by omega)
  rw [li_rep] at rp
  have hll : (Li r).length + (Li (List.replicate (wid P - r.length) 0)).length ≤ 16777216 := by rw [Li_len, Li_len, List.length_replicate]; omega
  have pl : ∀ S : Mu, gPlus (.d (.list (Li r))) (.d (.list (Li (List.replicate (wid P - r.length) 0)))) S = .ok (.d (.list (Li (pad (wid P) r)))) S := fun S => by
    rw [v_plusL, if_pos hll, ← Li_app]
    rfl
  have scd := t_scaled (μ := μ ++ [some L]) (a := pad (wid P) r) (by rw [pad_len' hr]; exact hw) (pad_BM hb) ho
  have tr := t_lawrow (μ := μ ++ [some L]) (w := .d (.list (Li [sc t l (pad (wid P) r)]))) (xs := [sc t l (pad (wid P) r)]) (.inl rfl)
  rw [trim_one, Li_one] at tr
  have ap : gApp (.r μ.length) [.d (Rw' (one (sc t l (pad (wid P) r))))] (μ ++ [some L]) = .ok (.d .none) ((μ ++ [some L]).set μ.length (some (L ++ [Rw' (one (sc t l (pad (wid P) r)))]))) := v_app (by simp) (by omega)
  have es : (μ ++ [some L]).set μ.length (some (L ++ [Rw' (one (sc t l (pad (wid P) r)))])) = μ ++ [some (L ++ [Rw' (one (sc t l (pad (wid P) r)))])] := by
    rw [List.set_append_right _ _ (Nat.le_refl _), Nat.sub_self]
    rfl
  rw [es] at ap
  generalize Li (List.replicate (wid P - r.length) 0) = Z at *
  generalize Rw' (one (sc t l (pad (wid P) r))) = Y at *
  generalize sc t l (pad (wid P) r) = V at *
  generalize Li (pad (wid P) r) = U at *
  unfold LQx
  simp only [x_expr, x_meth, x_v0, x_vs, Out.bind_ok, lv, if_true, x_cons, x_nil, x_cF, x_frz, x_disp, x_e2, x_lst, v_listt, x_calm, rp, pl, scd, List.length_cons, List.length_nil, Nat.reduceAdd, x_all1, x_all0, Option.map_some, Nat.reduceLeDiff, tr, ap, liftO_ok]
theorem t_law_put_x {μ : Mu} {P : Pol} {t l : Int} (hP : TP P) (h5 : P.length ≤ 6) (hl5 : PL 6 P) (hb : PB (2 ^ 100) P) (ho : PutOk t l) : f_law_put [.d (Pl P), .d (.str "x"), .d (Fd t l)] μ = .ok (.d (Pl (putX t l P))) μ := by
  by_cases hne : P = []
  · subst hne
    have e : LQ1 [some (.d (Pl [])), some (.d (.str "x")), some (.d (Fd t l)), none, none, none, none] μ = .ok (.rt (.d (Pl []))) μ := by simp [LQ1, Lp]
    show runD 7 b_law_put _ μ = _
    refine run_ret ?_
    rw [LQ_is]
    show sSeq _ _ [some (.d (Pl [])), some (.d (.str "x")), some (.d (Fd t l)), none, none, none, none] μ = _
    rw [seq_rt e]
    rfl
  · have hw6 : wid P ≤ 6 := wid_most hl5
    have main := for_run (it := iAny (eVar 0)) (xs := Lp P) (t := gNm 4) (b := LQx) (ρ := [some (.d (Pl P)), some (.d (.str "x")), some (.d (Fd t l)), none, none, some (.r μ.length), some (.d (.int (wid P : Int)))]) (μ := μ ++ [some []]) (μ1 := μ ++ [some []])
      (fun n ρ' μ' => n ≤ P.length ∧ μ' = μ ++ [some (Lp ((P.take n).map fun r => one (sc t l (pad (wid P) r))))] ∧ ∃ o, ρ' = [some (.d (Pl P)), some (.d (.str "x")), some (.d (Fd t l)), none, o, some (.r μ.length), some (.d (.int (wid P : Int)))])
      rfl ⟨Nat.zero_le _, rfl, none, rfl⟩ (fun n x ρ' μ' hx ⟨hn, f0, o, f1⟩ => ?_)
    · obtain ⟨ρ', μ', e, _, rfl, o, rfl⟩ := main
      rw [Lp_len, List.take_length] at e
      have e2' : trimP (P.map fun r => one (sc t l (pad (wid P) r))) = putX t l P := by
        have := trimP_one (P.map fun r => sc t l (pad (wid P) r))
        rw [List.map_map] at this
        rw [show putX t l P = (trim (P.map fun r => sc t l (pad (wid P) r))).map one from rfl, ← this]
        congr 1
      have pp := pop_P (μ := μ) (ρ := [some (.d (Pl P)), some (.d (.str "x")), some (.d (Fd t l)), none, o, some (.r μ.length), some (.d (.int (wid P : Int)))]) (Q := P.map fun r => one (sc t l (pad (wid P) r))) rfl
      rw [e2'] at pp
      have tp := v_tupr (μ := μ ++ [some (Lp (putX t l P))]) (k := μ.length) (c := Lp (putX t l P)) (by simp)
      unfold f_law_put
      refine (run_rt (x := Pl (putX t l P)) (μ' := μ ++ [some (Lp (putX t l P))]) ?_).trans (by rw [take_app])
      rw [LQ_is]
      show sSeq LQ1 (sSeq LQ2 _) [some (.d (Pl P)), some (.d (.str "x")), some (.d (Fd t l)), none, none, none, none] μ = _
      rw [lq_head hne (by omega)]
      refine seq_rt ?_
      show sIf _ (sSeq (sFor (iAny (eVar 0)) (gNm 4) LQx) _) _ _ _ = _
      rw [x_if]
      have c : tB' (e2 (gEq false) (eVar 1) (eK (.str "x"))) [some (.d (Pl P)), some (.d (.str "x")), some (.d (Fd t l)), none, none, some (.r μ.length), some (.d (.int (wid P : Int)))] (μ ++ [some []]) = .ok true (μ ++ [some []]) := by simp
      rw [c, liftO_ok, if_pos rfl, seq_ok e, seq_ok pp]
      simp only [x_ret, x_en, x_cons, x_v0, x_vs, Out.bind_ok, x_nil, x_calm, tp, liftO_ok]
    · subst f0 f1
      have hk : n < P.length := by
        have := (List.getElem?_eq_some_iff.mp hx).1
        rwa [Lp_len] at this
      rw [Lp_get, List.getElem?_eq_getElem hk] at hx
      cases hx
      have hm := List.getElem_mem hk
      refine ⟨_, _, _, _, rfl, lqx (P := P) (L := Lp ((P.take n).map fun r => one (sc t l (pad (wid P) r)))) (wid_le hm) (by omega) (hb _ hm) ho (by rw [Lp_len, List.length_map, List.length_take]; omega), hk, ?_, _, rfl⟩
      rw [List.take_succ_eq_append_getElem hk, List.map_append]
      show _ = μ ++ [some (Lp (_ ++ [_]))]
      unfold Lp
      rw [List.map_append]
      rfl
noncomputable def LQy : Sv := (sExpr (eMeth1 gApp (eVar 5) (aCons (cF 2 f_law_scaled (aCons (eFrz (lLc (iAny (eVar 0)) (gNm 4) bYes (eIf (tB' (e2 (gCmp fun i j => decide (i < j)) (eVar 3) (en gLen (aCons (eVar 4) aNil)))) (e2 gIx (eVar 4) (eVar 3)) (eK (.int 0))) [4])) (aCons (eVar 2) aNil))) aNil)))
theorem t_law_put_y {μ : Mu} {P : Pol} {t l : Int} (hP : TP P) (h5 : P.length ≤ 6) (hl5 : PL 6 P) (hb : PB (2 ^ 100) P) (ho : PutOk t l) : f_law_put [.d (Pl P), .d (.str "y"), .d (Fd t l)] μ = .ok (.d (Pl (rowP1 (putR t l P)))) μ := by
  by_cases hne : P = []
  · subst hne
    have e : LQ1 [some (.d (Pl [])), some (.d (.str "y")), some (.d (Fd t l)), none, none, none, none] μ = .ok (.rt (.d (Pl []))) μ := by simp [LQ1, Lp]
    show runD 7 b_law_put _ μ = _
    refine run_ret ?_
    rw [LQ_is]
    show sSeq _ _ [some (.d (Pl [])), some (.d (.str "y")), some (.d (Fd t l)), none, none, none, none] μ = _
    rw [seq_rt e]
    rfl
  · have hw6 : wid P ≤ 6 := wid_most hl5
    have hxy : ¬ (("y" : Str) = "x") := by decide +kernel
    have s3 : LQ3 [some (.d (Pl P)), some (.d (.str "y")), some (.d (Fd t l)), none, none, some (.r μ.length), some (.d (.int (wid P : Int)))] (μ ++ [some []]) = .ok (.nx [some (.d (Pl P)), some (.d (.str "y")), some (.d (Fd t l)), none, none, some (.r μ.length), some (.d (.int (wid P : Int)))]) (μ ++ [some []]) := by
      simp [LQ3, hxy]
    have main := for_run (it := iR1 (aCons (eVar 6) aNil)) (xs := intL 0 (wid P) 1) (t := gNm 3) (b := LQy) (ρ := [some (.d (Pl P)), some (.d (.str "y")), some (.d (Fd t l)), none, none, some (.r μ.length), some (.d (.int (wid P : Int)))]) (μ := μ ++ [some []]) (μ1 := μ ++ [some []])
      (fun n ρ' μ' => n ≤ wid P ∧ μ' = μ ++ [some (Li ((List.range n).map fun j => sc t l (col P j)))] ∧ ∃ o, ρ' = [some (.d (Pl P)), some (.d (.str "y")), some (.d (Fd t l)), o, none, some (.r μ.length), some (.d (.int (wid P : Int)))])
      (it_r1 (j := (wid P : Int)) rfl (by omega) (by omega)) ⟨Nat.zero_le _, rfl, none, rfl⟩ (fun n x ρ' μ' hx ⟨hn, f0, o, f1⟩ => ?_)
    · obtain ⟨ρ', μ', e, _, rfl, o, rfl⟩ := main
      rw [intL_len] at e
      have tr := t_lawrow (μ := μ ++ [some (Li ((List.range (wid P)).map fun j => sc t l (col P j)))]) (w := .r μ.length) (xs := (List.range (wid P)).map fun j => sc t l (col P j)) (.inl (x_dr (by simp)))
      rw [show trim ((List.range (wid P)).map fun j => sc t l (col P j)) = putR t l P from rfl] at tr
      have fin : LQ6 [some (.d (Pl P)), some (.d (.str "y")), some (.d (Fd t l)), o, some (.d (Rw' (putR t l P))), some (.r μ.length), some (.d (.int (wid P : Int)))] (μ ++ [some (Li ((List.range (wid P)).map fun j => sc t l (col P j)))]) = .ok (.rt (.d (Pl (rowP1 (putR t l P))))) (μ ++ [some (Li ((List.range (wid P)).map fun j => sc t l (col P j)))]) := by
        generalize (μ ++ [some (Li ((List.range (wid P)).map fun j => sc t l (col P j)))]) = S
        unfold rowP1
        generalize putR t l P = a
        cases a with
        | nil =>
          have hn : Li [] = [] := rfl
          simp [LQ6, Lp, hn]
        | cons x r => simp [LQ6, Lp, Li]
      have s5 : LQ5 [some (.d (Pl P)), some (.d (.str "y")), some (.d (Fd t l)), o, none, some (.r μ.length), some (.d (.int (wid P : Int)))] (μ ++ [some (Li ((List.range (wid P)).map fun j => sc t l (col P j)))]) = .ok (.nx [some (.d (Pl P)), some (.d (.str "y")), some (.d (Fd t l)), o, some (.d (Rw' (putR t l P))), some (.r μ.length), some (.d (.int (wid P : Int)))]) (μ ++ [some (Li ((List.range (wid P)).map fun j => sc t l (col P j)))]) := by
        generalize (μ ++ [some (Li ((List.range (wid P)).map fun j => sc t l (col P j)))]) = S at *
        simp [LQ5, tr]
      unfold f_law_put
      refine (run_rt (x := Pl (rowP1 (putR t l P))) (μ' := μ ++ [some (Li ((List.range (wid P)).map fun j => sc t l (col P j)))]) ?_).trans (by rw [take_app])
      rw [LQ_is]
      show sSeq LQ1 (sSeq LQ2 _) [some (.d (Pl P)), some (.d (.str "y")), some (.d (Fd t l)), none, none, none, none] μ = _
      rw [lq_head hne (by omega), seq_ok s3]
      show sSeq (sFor (iR1 (aCons (eVar 6) aNil)) (gNm 3) LQy) _ _ _ = _
      rw [seq_ok e, seq_ok s5, fin]
    · subst f0 f1
      have hk : n < wid P := by
        have := (List.getElem?_eq_some_iff.mp hx).1
        rwa [intL_len] at this
      rw [intL_at hk] at hx
      cases hx
      generalize hL : Li ((List.range n).map fun j => sc t l (col P j)) = L
      have hLl : L.length = n := by rw [← hL, Li_len, List.length_map, List.length_range]
      have l3 := lc_col (μ := μ ++ [some L]) (P := P) (ρ := [some (.d (Pl P)), some (.d (.str "y")), some (.d (Fd t l)), some (.d (.int ((0 : Int) + (n : Int)))), none, some (.r μ.length), some (.d (.int (wid P : Int)))]) (i := 4) (j := 3) (k := n) (x := eVar 0) rfl (by omega) (fun r => rfl) (fun r => by simp)
      have scd := t_scaled (μ := μ ++ [some L]) (a := col P n) (by unfold col; rw [List.length_map]; omega) (col_BM hb n) ho
      have lv : live (.r μ.length) (μ ++ [some L]) = true := live_r (c := L) (by simp)
      have ap : gApp (.r μ.length) [.d (.int (sc t l (col P n)))] (μ ++ [some L]) = .ok (.d .none) ((μ ++ [some L]).set μ.length (some (L ++ [.int (sc t l (col P n))]))) := v_app (by simp) (by omega)
      have es : (μ ++ [some L]).set μ.length (some (L ++ [.int (sc t l (col P n))])) = μ ++ [some (Li ((List.range (n + 1)).map fun j => sc t l (col P j)))] := by
        rw [List.set_append_right _ _ (Nat.le_refl _), Nat.sub_self, ← hL, List.range_succ, List.map_append, Li_app]
        rfl
      refine ⟨_, _, [some (.d (Pl P)), some (.d (.str "y")), some (.d (Fd t l)), some (.d (.int ((0 : Int) + (n : Int)))), none, some (.r μ.length), some (.d (.int (wid P : Int)))], _, rfl, ?_, hk, rfl, _, rfl⟩
      show LQy [some (.d (Pl P)), some (.d (.str "y")), some (.d (Fd t l)), some (.d (.int ((0 : Int) + (n : Int)))), none, some (.r μ.length), some (.d (.int (wid P : Int)))] (μ ++ [some L]) = _
      unfold LQy
      simp only [x_expr, x_meth, x_v0, x_vs, Out.bind_ok, lv, if_true, x_cons, x_cF, x_frz, l3, x_nil, List.length_cons, List.length_nil, Nat.reduceAdd, scd, ap, x_calm, liftO_ok, es]
end LW
namespace LW
open PySem PySem.Spec TL
open L2 (atI ixN)
def intOf : PyData → Int
  | .int i => i
  | _ => 0
def rowOf : PyData → List Int
  | .tuple xs => xs.map intOf
  | _ => []
def polOf : PyData → Pol
  | .tuple rows => rows.map rowOf
  | _ => []
theorem polOf_Pl (P : Pol) : polOf (Pl P) = P := by
  show (Lp P).map rowOf = P
  unfold Lp
  rw [List.map_map]
  have e : rowOf ∘ Rw' = fun a : List Int => a := by
    funext a
    show (Li a).map intOf = a
    unfold Li
    rw [List.map_map]
    exact List.map_id' a
  rw [e]
  exact List.map_id' P
def other (l : Str) : Str := if l = "x" then "y" else "x"
def opps : List (Str × Str) := [("true", "false"), ("false", "true"), ("below", "not below"), ("at", "not at"), ("above", "not above"), ("not below", "below"), ("not at", "at"), ("not above", "above"), ("both", "either"), ("either", "both"), ("all", "some"), ("some", "all")]
def opp (w : Str) : Str := (opps.lookup w).getD w
def oppIf (n : Bool) (w : Str) : Str := if n = true then opp w else w
def putP (t l : Int) (lt : Str) (P : Pol) : Pol := if lt = "x" then putX t l P else rowP1 (putR t l P)
def Say.swap : Say → Say
  | .tf w => .tf w
  | .rel w x => .rel w (Pl (exch (polOf x)))
  | .no a => .no a.swap
  | .bin w a b => .bin w a.swap b.swap
  | .qu w l a => .qu w (other l) a.swap
def Say.fill (t l : Int) (lt : Str) : Say → Say
  | .tf w => .tf w
  | .rel w x => .rel w (Pl (putP t l lt (polOf x)))
  | .no a => .no (a.fill t l lt)
  | .bin w a b => .bin w (a.fill t l lt) (b.fill t l lt)
  | .qu w m a => if m = lt then .qu w m a else .qu w m (a.fill t l lt)
def Say.push : Say → Bool → Say
  | .tf w, n => .tf (oppIf n w)
  | .rel w x, n => .rel (oppIf n w) x
  | .no a, n => a.push (!n)
  | .bin w a b, n => .bin (oppIf n w) (a.push n) (b.push n)
  | .qu w l a, n => .qu (oppIf n w) l (a.push n)
/-- polynomials as laws draw them -/
structure POk (P : Pol) : Prop where
  t : TP P
  l : P.length ≤ 5
  n : PL 5 P
  b : PB (2 ^ 100) P
theorem POk.exch {P : Pol} (h : POk P) : POk (LW.exch P) := ⟨exch_TP P, exch_len h.n, PL.exch h.l, h.b.exch⟩
/-- one of the drawn polynomials -/
def Lq (Ls : List Pol) (x : PyData) : Prop := ∃ P ∈ Ls, x = Pl P
theorem lq_map {Ls : List Pol} {P : Pol} (h : P ∈ Ls) : Lq (Ls.map exch) (Pl (exch P)) := ⟨_, List.mem_map_of_mem h, rfl⟩
theorem xy_two {l : Str} (h : isXY l = true) : l = "x" ∨ l = "y" := by
  unfold isXY at h
  rw [Bool.or_eq_true, Bool.or_false] at h
  rcases h with h | h
  · exact .inl ((beq_iff_eq).mp h).symm
  · exact .inr ((beq_iff_eq).mp h).symm
theorem other_x : other "x" = "y" := by decide +kernel
theorem other_y : other "y" = "x" := by decide +kernel
theorem other_xy {l : Str} (h : isXY l = true) : isXY (other l) = true := by
  rcases xy_two h with rfl | rfl <;> decide +kernel
theorem other_other {l : Str} (h : isXY l = true) : other (other l) = l := by
  rcases xy_two h with rfl | rfl <;> decide +kernel
theorem swap_WF {Ls : List Pol} : ∀ {s : Say}, s.WF (Lq Ls) → s.swap.WF (Lq (Ls.map exch))
  | .tf _, w => w
  | .rel _ x, w => by
    obtain ⟨h1, P, hP, rfl⟩ := w
    refine ⟨h1, ?_⟩
    show Lq _ (Pl (exch (polOf (Pl P))))
    rw [polOf_Pl]
    exact lq_map hP
  | .no a, w => swap_WF (s := a) w
  | .bin _ a b, w => ⟨w.1, swap_WF (s := a) w.2.1, swap_WF (s := b) w.2.2⟩
  | .qu _ l a, w => ⟨w.1, other_xy w.2.1, swap_WF (s := a) w.2.2⟩
theorem swap_dep : ∀ s : Say, s.swap.dep = s.dep
  | .tf _ => rfl
  | .rel _ _ => rfl
  | .no a => congrArg (· + 1) (swap_dep a)
  | .bin _ a b => by
    show max a.swap.dep b.swap.dep + 1 = max a.dep b.dep + 1
    rw [swap_dep a, swap_dep b]
  | .qu _ _ a => congrArg (· + 1) (swap_dep a)
theorem swap_swap {Ls : List Pol} (hL : ∀ P ∈ Ls, POk P) : ∀ {s : Say}, s.WF (Lq Ls) → s.swap.swap = s
  | .tf _, _ => rfl
  | .rel v x, w => by
    obtain ⟨h1, P, hP, rfl⟩ := w
    show Say.rel v (Pl (exch (polOf (Pl (exch (polOf (Pl P))))))) = _
    rw [polOf_Pl, polOf_Pl, exch_exch (hL P hP).t]
  | .no a, w => congrArg Say.no (swap_swap hL (s := a) w)
  | .bin v a b, w => by
    show Say.bin v a.swap.swap b.swap.swap = _
    rw [swap_swap hL (s := a) w.2.1, swap_swap hL (s := b) w.2.2]
  | .qu v l a, w => by
    show Say.qu v (other (other l)) a.swap.swap = _
    rw [other_other w.2.1, swap_swap hL (s := a) w.2.2]
theorem opp_wk {w : Str} (h : wk w ≠ .no) (h2 : wk w ≠ .oth) : wk (opp w) = wk w := by
  by_cases m : w ∈ allW
  · have : allW.all (fun w => decide (wk w = .no) || decide (wk (opp w) = wk w)) = true := by decide +kernel
    have := List.all_eq_true.mp this w m
    rw [Bool.or_eq_true, decide_eq_true_eq, decide_eq_true_eq] at this
    exact this.elim (fun e => absurd e h) id
  · exact absurd (wk_oth m) h2
theorem oppIf_wk {w : Str} {n : Bool} {k : WK} (h : wk w = k) (h1 : k ≠ .no) (h2 : k ≠ .oth) : wk (oppIf n w) = k := by
  unfold oppIf
  split
  · rw [opp_wk (by rw [h]; exact h1) (by rw [h]; exact h2), h]
  · exact h
theorem push_WF {L : PyData → Prop} : ∀ {s : Say} {n : Bool}, s.WF L → (s.push n).WF L
  | .tf _, n, w => oppIf_wk (show wk _ = .tf from w) (by decide) (by decide)
  | .rel _ x, n, w => ⟨oppIf_wk w.1 (by decide) (by decide), w.2⟩
  | .no a, n, w => push_WF (s := a) w
  | .bin _ a b, n, w => ⟨oppIf_wk w.1 (by decide) (by decide), push_WF (s := a) w.2.1, push_WF (s := b) w.2.2⟩
  | .qu _ l a, n, w => ⟨oppIf_wk w.1 (by decide) (by decide), w.2.1, push_WF (s := a) w.2.2⟩
theorem push_dep : ∀ (s : Say) (n : Bool), (s.push n).dep ≤ s.dep
  | .tf _, _ => Nat.le_refl _
  | .rel _ _, _ => Nat.le_refl _
  | .no a, n => Nat.le_succ_of_le (push_dep a (!n))
  | .bin _ a b, n => by
    have h1 := push_dep a n
    have h2 := push_dep b n
    show max (a.push n).dep (b.push n).dep + 1 ≤ max a.dep b.dep + 1
    omega
  | .qu _ _ a, n => Nat.succ_le_succ (push_dep a n)
theorem push_pls : ∀ (s : Say) (n : Bool), (s.push n).pls = s.pls
  | .tf _, _ => rfl
  | .rel _ _, _ => rfl
  | .no a, n => push_pls a (!n)
  | .bin _ a b, n => by
    show addN (a.push n).pls (b.push n).pls = addN a.pls b.pls
    rw [push_pls a, push_pls b]
  | .qu _ _ a, n => push_pls a n
/-- how large a saying is as a text -/
def Say.sz : Say → Nat
  | .tf _ => 21
  | .rel _ _ => 52
  | .no a => a.sz + 22
  | .bin _ a b => a.sz + b.sz + 23
  | .qu _ _ a => a.sz + 43
theorem swap_sz : ∀ s : Say, s.swap.sz = s.sz
  | .tf _ => rfl
  | .rel _ _ => rfl
  | .no a => congrArg (· + 22) (swap_sz a)
  | .bin _ a b => by
    show a.swap.sz + b.swap.sz + 23 = _
    rw [swap_sz a, swap_sz b]
    rfl
  | .qu _ _ a => congrArg (· + 43) (swap_sz a)
theorem fill_sz {t l : Int} {lt : Str} : ∀ s : Say, (s.fill t l lt).sz = s.sz
  | .tf _ => rfl
  | .rel _ _ => rfl
  | .no a => congrArg (· + 22) (fill_sz a)
  | .bin _ a b => by
    show (a.fill t l lt).sz + (b.fill t l lt).sz + 23 = _
    rw [fill_sz a, fill_sz b]
    rfl
  | .qu w m a => by
    show (if m = lt then Say.qu w m a else Say.qu w m (a.fill t l lt)).sz = _
    split
    · rfl
    · exact congrArg (· + 43) (fill_sz a)
theorem fill_dep {t l : Int} {lt : Str} : ∀ s : Say, (s.fill t l lt).dep = s.dep
  | .tf _ => rfl
  | .rel _ _ => rfl
  | .no a => congrArg (· + 1) (fill_dep a)
  | .bin _ a b => by
    show max (a.fill t l lt).dep (b.fill t l lt).dep + 1 = max a.dep b.dep + 1
    rw [fill_dep a, fill_dep b]
  | .qu w m a => by
    show (if m = lt then Say.qu w m a else Say.qu w m (a.fill t l lt)).dep = _
    split
    · rfl
    · exact congrArg (· + 1) (fill_dep a)
theorem push_sz : ∀ (s : Say) (n : Bool), (s.push n).sz ≤ s.sz
  | .tf _, _ => Nat.le_refl _
  | .rel _ _, _ => Nat.le_refl _
  | .no a, n => Nat.le_trans (push_sz a (!n)) (Nat.le_add_right _ _)
  | .bin _ a b, n => by
    have h1 := push_sz a n
    have h2 := push_sz b n
    show (a.push n).sz + (b.push n).sz + 23 ≤ a.sz + b.sz + 23
    omega
  | .qu _ _ a, n => Nat.add_le_add_right (push_sz a n) 43
theorem Shb.word {w : Str} (h : wk w ≠ .oth) : Shb 20 0 (.str w) := by
  by_cases m : w ∈ allW
  · have k : allW.all (fun w => (PyData.str w).showable && ((PyData.str w).leavesShort 1921 && (decide ((PyData.str w).bulk ≤ 20) && (decide ((PyData.str w).depth ≤ 0) && !(PyData.str w).hasDict)))) = true := by decide +kernel
    have := List.all_eq_true.mp k w m
    rw [Bool.and_eq_true, Bool.and_eq_true, Bool.and_eq_true, Bool.and_eq_true, decide_eq_true_eq, decide_eq_true_eq, Bool.not_eq_true'] at this
    exact ⟨this.1, this.2.1, this.2.2.1, this.2.2.2.1, this.2.2.2.2⟩
  · exact absurd (wk_oth m) h
theorem Shb.let {l : Str} (h : isXY l = true) : Shb 20 0 (.str l) := by
  rcases xy_two h with rfl | rfl
  · exact ⟨by decide +kernel, by decide +kernel, by decide +kernel, by decide +kernel, by decide +kernel⟩
  · exact ⟨by decide +kernel, by decide +kernel, by decide +kernel, by decide +kernel, by decide +kernel⟩
theorem Shb.say : ∀ {s : Say}, s.WF (fun x => Shb 30 2 x) → Shb s.sz (s.dep + 2) s.toD
  | .tf w, h => (Shb.tuple (ShbAll.cons ((Shb.word (w := w) (by rw [show wk w = .tf from h]; decide)).up (Nat.le_refl _) (by decide : 0 ≤ 2)) (ShbAll.nil (N := 0)))).up (by show 20 + 1 + 0 ≤ 21; decide) (Nat.le_refl _)
  | .rel w x, h => (Shb.tuple (ShbAll.cons ((Shb.word (w := w) (by rw [h.1]; decide)).up (Nat.le_refl _) (by decide : 0 ≤ 2)) (ShbAll.cons h.2 (ShbAll.nil (N := 0))))).up (by show 20 + 1 + (30 + 1 + 0) ≤ 52; decide) (Nat.le_refl _)
  | .no a, h => by
    have := Shb.say (s := a) h
    exact (Shb.tuple (ShbAll.cons ((Shb.word (w := "not") (by rw [wk_not]; decide)).up (Nat.le_refl _) (Nat.zero_le _)) (ShbAll.cons this (ShbAll.nil (N := 0))))).up (by show _ ≤ a.sz + 22; omega) (by show _ ≤ a.dep + 1 + 2; omega)
  | .bin w a b, h => by
    have h1 := Shb.say (s := a) h.2.1
    have h2 := Shb.say (s := b) h.2.2
    exact (Shb.tuple (D := max a.dep b.dep + 2) (ShbAll.cons ((Shb.word (w := w) (by rw [h.1]; decide)).up (Nat.le_refl _) (Nat.zero_le _)) (ShbAll.cons (h1.up (Nat.le_refl _) (by omega)) (ShbAll.cons (h2.up (Nat.le_refl _) (by omega)) (ShbAll.nil (N := 0)))))).up (by show _ ≤ a.sz + b.sz + 23; omega) (by show _ ≤ max a.dep b.dep + 1 + 2; omega)
  | .qu w l a, h => by
    have h1 := Shb.say (s := a) h.2.2
    exact (Shb.tuple (D := a.dep + 2) (ShbAll.cons ((Shb.word (w := w) (by rw [h.1]; decide)).up (Nat.le_refl _) (Nat.zero_le _)) (ShbAll.cons ((Shb.let h.2.1).up (Nat.le_refl _) (Nat.zero_le _)) (ShbAll.cons h1 (ShbAll.nil (N := 0)))))).up (by show _ ≤ a.sz + 43; omega) (by show _ ≤ a.dep + 1 + 2; omega)
theorem low_Pl {P : Pol} (h : POk P) : lowB (Pl P) = true := by
  have row : ∀ a : List Int, trim a = a → rowB (Rw' a) = true := fun a ha => by
    have hall : (Li a).all intB = true := List.all_eq_true.mpr fun y hy => by
      obtain ⟨i, _, rfl⟩ := Li_mem hy
      rfl
    show ((Li a).all intB && _) = true
    rw [hall, Bool.true_and]
    rcases List.eq_nil_or_concat a with rfl | ⟨l, z, rfl⟩
    · rfl
    · rw [List.concat_eq_append] at *
      have hz : z ≠ 0 := fun hz => by
        rw [trim_snoc, if_pos hz] at ha
        have := trim_len l
        rw [ha, List.length_append, List.length_singleton] at this
        omega
      rw [Li_app, Li_one, List.getLast?_append]
      simp [hz]
  have hrows : (Lp P).all rowB = true := List.all_eq_true.mpr fun y hy => by
    obtain ⟨a, ha, rfl⟩ := Lp_mem hy
    exact row a (h.t.2 a ha)
  have hlen : (Lp P).all (fun r => decide (lenD r ≤ 5)) = true := List.all_eq_true.mpr fun y hy => by
    obtain ⟨a, ha, rfl⟩ := Lp_mem hy
    show decide ((Li a).length ≤ 5) = true
    rw [Li_len]
    exact decide_eq_true (h.n a ha)
  have hlast : (match (Lp P).getLast? with | some (.tuple ys) => !ys.isEmpty | _ => true) = true := by
    have ht := h.t.1
    rcases List.eq_nil_or_concat P with e | ⟨Q, z, e⟩
    · rw [e]; rfl
    · rw [List.concat_eq_append] at e
      rw [e] at ht ⊢
      have hz : z ≠ [] := fun hz => by
        rw [trimP_snoc, if_pos hz] at ht
        have := trimP_len Q
        rw [ht, List.length_append, List.length_singleton] at this
        omega
      have el : Lp (Q ++ [z]) = Lp Q ++ [Rw' z] := List.map_append
      rw [el, List.getLast?_append]
      simp [Li_empty, hz]
  show (((Lp P).all rowB && _) && decide ((Lp P).length ≤ 5) && (Lp P).all fun r => decide (lenD r ≤ 5)) = true
  rw [hrows, hlen, Bool.true_and, Bool.and_true, Lp_len, decide_eq_true h.l, Bool.and_true]
  exact hlast
theorem dz_Pl {P : Pol} (h : POk P) : Dz 8 2 (Pl P) := by
  refine ⟨by rw [Lp_len]; exact Nat.le_trans h.l (by decide), fun y hy => ?_⟩
  obtain ⟨a, ha, rfl⟩ := Lp_mem hy
  refine ⟨by rw [Li_len]; exact Nat.le_trans (h.n a ha) (by decide), fun z hz => ?_⟩
  obtain ⟨i, hi, rfl⟩ := Li_mem hz
  exact dz_int.mpr (Nat.le_trans (h.b a ha i hi) (Nat.pow_le_pow_right (by decide) (by decide)))
theorem lq_low {Ls : List Pol} (hL : ∀ P ∈ Ls, POk P) {x : PyData} (h : Lq Ls x) : LowD 8 x := by
  obtain ⟨P, hP, rfl⟩ := h
  exact ⟨low_Pl (hL P hP), 2, dz_Pl (hL P hP)⟩
theorem let_can {l : Str} (h : isXY l = true) : PyData.canLay0 (.str l) = true := by
  rcases xy_two h with rfl | rfl <;> decide +kernel
theorem dz_say {Ls : List Pol} (hL : ∀ P ∈ Ls, POk P) : ∀ {s : Say}, s.WF (Lq Ls) → Dz 8 (s.dep + 2) s.toD
  | .tf w, h => ⟨by show 1 ≤ 8; decide, fun y hy => by
    rw [List.mem_singleton.mp hy]
    exact dz_str.mpr (word_can (s := .tf w) (L := Lq Ls) h)⟩
  | .rel w x, h => ⟨by show 2 ≤ 8; decide, fun y hy => by
    simp only [List.mem_cons, List.not_mem_nil, or_false] at hy
    rcases hy with rfl | rfl
    · exact dz_str.mpr (word_can (s := .rel w x) (L := Lq Ls) h)
    · obtain ⟨P, hP, rfl⟩ := h.2
      exact (dz_Pl (hL P hP)).up (Nat.le_refl _) (by show 2 ≤ 1 + 1; decide)⟩
  | .no a, h => ⟨by show 2 ≤ 8; decide, fun y hy => by
    simp only [List.mem_cons, List.not_mem_nil, or_false] at hy
    rcases hy with rfl | rfl
    · exact dz_str.mpr (by decide +kernel)
    · exact (dz_say hL (s := a) h).up (Nat.le_refl _) (by show a.dep + 2 ≤ a.dep + 1 + 1; omega)⟩
  | .bin w a b, h => ⟨by show 3 ≤ 8; decide, fun y hy => by
    simp only [List.mem_cons, List.not_mem_nil, or_false] at hy
    rcases hy with rfl | rfl | rfl
    · exact dz_str.mpr (word_can (s := .bin w a b) (L := Lq Ls) h)
    · exact (dz_say hL (s := a) h.2.1).up (Nat.le_refl _) (by show a.dep + 2 ≤ max a.dep b.dep + 1 + 1; omega)
    · exact (dz_say hL (s := b) h.2.2).up (Nat.le_refl _) (by show b.dep + 2 ≤ max a.dep b.dep + 1 + 1; omega)⟩
  | .qu w l a, h => ⟨by show 3 ≤ 8; decide, fun y hy => by
    simp only [List.mem_cons, List.not_mem_nil, or_false] at hy
    rcases hy with rfl | rfl | rfl
    · exact dz_str.mpr (word_can (s := .qu w l a) (L := Lq Ls) h)
    · exact dz_str.mpr (let_can h.2.1)
    · exact (dz_say hL (s := a) h.2.2).up (Nat.le_refl _) (by show a.dep + 2 ≤ a.dep + 1 + 1; omega)⟩
theorem pls_nodup {n : Nat} : ∀ {s : Say}, s.WF (LowD n) → s.pls.Nodup
  | .tf _, _ => List.nodup_nil
  | .rel _ _, _ => by
    show List.Nodup [_]
    simp
  | .no a, w => pls_nodup (s := a) w
  | .bin _ a b, w => by
    have h1 := pls_nodup (s := a) w.2.1
    have h2 := pls_nodup (s := b) w.2.2
    show (addN a.pls b.pls).Nodup
    unfold addN
    rw [List.nodup_append]
    refine ⟨h1, h2.sublist List.filter_sublist, fun x hx y hy e => ?_⟩
    subst e
    obtain ⟨hb, hc⟩ := List.mem_filter.mp hy
    obtain ⟨l1, k, l2⟩ := pls_L w.2.2 x hb
    have rf := PySem.SeqAt.eqv_refl x (low_can l1 l2).1
    rw [Bool.not_eq_true', List.any_eq_false] at hc
    exact hc x hx rf
  | .qu _ _ a, w => pls_nodup (s := a) w.2.2
open Classical in
theorem nodup_len {A : Type} : ∀ {l m : List A}, l.Nodup → (∀ x ∈ l, x ∈ m) → l.length ≤ m.length
  | [], m, _, _ => Nat.zero_le _
  | x :: l, m, hn, hs => by
    rw [List.nodup_cons] at hn
    have hx := hs x List.mem_cons_self
    have ih := nodup_len (l := l) (m := m.erase x) hn.2 fun y hy => by
      refine (List.mem_erase_of_ne fun (e : y = x) => hn.1 (e ▸ hy)).mpr (hs y (List.mem_cons_of_mem _ hy))
    rw [List.length_erase_of_mem hx] at ih
    have := List.length_pos_of_mem hx
    rw [List.length_cons]
    omega
theorem pls_few {Ls : List Pol} (hL : ∀ P ∈ Ls, POk P) {s : Say} (w : s.WF (Lq Ls)) (h8 : Ls.length ≤ 8) : s.pls.length ≤ 8 := by
  have := nodup_len (m := Ls.map Pl) (pls_nodup (w.mono fun _ h => lq_low hL h)) fun x hx => by
    obtain ⟨P, hP, rfl⟩ := pls_L w x hx
    exact List.mem_map_of_mem hP
  rw [List.length_map] at this
  omega
end LW
namespace LW
open PySem PySem.Spec TL
open L2 (atI ixN)
noncomputable def EX1 : Sv :=
  (sIf (tB' (e2 (gIn false) (e2 gIx (eVar 0) (eK (.int 0))) (eK (.tuple [(.str "below"), (.str "at"), (.str "above"), (.str "not below"), (.str "not at"), (.str "not above")])))) (sRet (eTup (aCons (e2 gIx (eVar 0) (eK (.int 0))) (aCons (cF 1 f_exchanged_by (aCons (e2 gIx (eVar 0) (eK (.int 1))) aNil)) aNil)))) sNext)
noncomputable def EX2 : Sv :=
  (sIf (tB' (e1 (gInD true [("not", (.tuple [(.int 1)])), ("both", (.tuple [(.int 1), (.int 2)])), ("either", (.tuple [(.int 1), (.int 2)])), ("all", (.tuple [(.int 2)])), ("some", (.tuple [(.int 2)]))]) (e2 gIx (eVar 0) (eK (.int 0))))) (sRet (eVar 0)) sNext)
noncomputable def EX3 (rec : GF) : Sv :=
  (sAsg (cF 2 f_with_parts (aCons (eVar 0) (aCons (eFrz (lLc (iAny (cF 1 f_parts_of (aCons (eVar 0) aNil))) (gNm 2) bYes (cF 1 rec (aCons (eVar 2) aNil)) [2])) aNil))) (gNm 1))
noncomputable def EX4 : Sv :=
  (sRet (eIf (tB' (e2 (gIn false) (e2 gIx (eVar 0) (eK (.int 0))) (eTup (aCons (eK (.str "all")) (aCons (eK (.str "some")) aNil))))) (eTup (aCons (e2 gIx (eVar 0) (eK (.int 0))) (aCons (cF 1 f_other_letter (aCons (e2 gIx (eVar 0) (eK (.int 1))) aNil)) (aCons (e2 gIx (eVar 1) (eK (.int 2))) aNil)))) (eVar 1)))
theorem EX_is (rec : GF) : b_exchanged_saying rec = sSeq EX1 (sSeq EX2 (sSeq (EX3 rec) (EX4))) := rfl
noncomputable def PT1 : Sv :=
  (sIf (tB' (e2 (gIn false) (e2 gIx (eVar 0) (eK (.int 0))) (eK (.tuple [(.str "below"), (.str "at"), (.str "above"), (.str "not below"), (.str "not at"), (.str "not above")])))) (sRet (eTup (aCons (e2 gIx (eVar 0) (eK (.int 0))) (aCons (cF 3 (f_poly_put 3) (aCons (e2 gIx (eVar 0) (eK (.int 1))) (aCons (eVar 1) (aCons (eVar 2) aNil)))) aNil)))) sNext)
noncomputable def PT2 : Sv :=
  (sIf (bOr (tB' (e1 (gInD true [("not", (.tuple [(.int 1)])), ("both", (.tuple [(.int 1), (.int 2)])), ("either", (.tuple [(.int 1), (.int 2)])), ("all", (.tuple [(.int 2)])), ("some", (.tuple [(.int 2)]))]) (e2 gIx (eVar 0) (eK (.int 0))))) (bAnd (tB' (e2 (gIn false) (e2 gIx (eVar 0) (eK (.int 0))) (eTup (aCons (eK (.str "all")) (aCons (eK (.str "some")) aNil))))) (tB' (e2 (gEq false) (e2 gIx (eVar 0) (eK (.int 1))) (eVar 1))))) (sRet (eVar 0)) sNext)
noncomputable def PT3 (rec : GF) : Sv :=
  (sRet (cF 2 f_with_parts (aCons (eVar 0) (aCons (eFrz (lLc (iAny (cF 1 f_parts_of (aCons (eVar 0) aNil))) (gNm 3) bYes (cF 3 rec (aCons (eVar 3) (aCons (eVar 1) (aCons (eVar 2) aNil)))) [3])) aNil))))
theorem PT_is (rec : GF) : b_put_by rec = sSeq PT1 (sSeq PT2 ((PT3 rec))) := rfl
theorem map_parts {L : PyData → Prop} {s : Say} {g : Say → PyData} {e : Ev} {i : Nat} {ρ : Rho} {μ : Mu} (w : s.WF L) (h0 : ρ[0]? = some (some (.d s.toD))) (he : ∀ a ∈ s.parts, e ((ρ.set i none).set i (some (.d a.toD))) μ = .ok (.d (g a)) μ) :
    lLc (iAny (cF 1 f_parts_of (aCons (eVar 0) aNil))) (gNm i) bYes e [i] ρ μ = .ok (s.parts.map g) μ := by
  have hl : s.parts.length ≤ 16777216 := by cases s <;> simp [Say.parts]
  exact lc_of (f := Say.toD) (g := g) (it_parts w h0) hl he
theorem t_with_parts {w : Str} {r ys : List PyData} {k : Nat} {c : List PyData} {μ : Mu} (hp : partsOf (wk w) = some (.tuple (.int (k : Int) :: c))) (hk : k ≤ r.length + 1) (hl : r.length + ys.length ≤ 1000) :
    f_with_parts [.d (.tuple (.str w :: r)), .d (.list ys)] μ = .ok (.d (.tuple ((.str w :: r).take k ++ ys))) μ := by
  have pa := part_at (μ := μ) hp
  have ct : cutL (PyData.str w :: r) none (some (k : Int)) = (PyData.str w :: r).take k := cut_take (by rw [List.length_cons]; exact hk)
  have hll : ((PyData.str w :: r).take k).length + ys.length ≤ 16777216 := by
    rw [List.length_take, List.length_cons]
    omega
  have ho : oPart (some (e2 gIx (e1 (gItD partsAt) (e2 gIx (eVar 0) (eK (.int 0)))) (eK (.int 0)))) [some (.d (.tuple (.str w :: r))), some (.d (.list ys))] μ = .ok (some (k : Int)) μ := by
    simp [pa]
  show runD 2 (sRet (e2 gPlus (eSl (eVar 0) none (some (e2 gIx (e1 (gItD partsAt) (e2 gIx (eVar 0) (eK (.int 0)))) (eK (.int 0))))) (en gTuple (aCons (eVar 1) aNil)))) _ μ = _
  refine run_ret ?_
  generalize (e2 gIx (e1 (gItD partsAt) (e2 gIx (eVar 0) (eK (.int 0)))) (eK (.int 0))) = E at *
  generalize hT : (PyData.str w :: r).take k = T at *
  show sRet _ [some (.d (.tuple (.str w :: r))), some (.d (.list ys))] μ = _
  simp only [x_ret, x_e2, x_sl, x_v0, x_vs, Out.bind_ok, x_pn, ho, v_slt', ct, x_calm, x_en, x_cons, x_nil, v_tupl, v_plusT, hll, if_true, liftO_ok]
theorem t_other {l : Str} {μ : Mu} : f_other_letter [.d (.str l)] μ = .ok (.d (.str (other l))) μ := by
  unfold other
  by_cases h : l = "x"
  · simp [f_other_letter, b_other_letter, runD, initR, h]
  · simp [f_other_letter, b_other_letter, runD, initR, h]
theorem t_exsay {Ls : List Pol} (hL : ∀ P ∈ Ls, POk P) : ∀ (f : Nat) {s : Say} {μ : Mu}, s.WF (Lq Ls) → s.dep ≤ f → f_exchanged_saying f [.d s.toD] μ = .ok (.d s.swap.toD) μ := by
  intro f
  induction f with
  | zero => intro s μ _ h; have := dep_pos s; omega
  | succ f ih =>
    intro s μ w h
    show runD 3 (b_exchanged_saying (f_exchanged_saying f)) _ μ = _
    refine run_ret ?_
    rw [EX_is]
    show sSeq EX1 (sSeq EX2 _) [some (.d s.toD), none, none] μ = _
    have rl := g_rel (neg := false) (μ := μ) (word_can w)
    have qu := g_qu (neg := false) (μ := μ) (word_can w)
    have pin := part_in (neg := true) (w := s.word) (μ := μ)
    have s1 : wk s.word ≠ .rel → EX1 [some (.d s.toD), none, none] μ = .ok (.nx [some (.d s.toD), none, none]) μ := fun hk => by
      rw [toD_word s]
      simp [EX1, rl, hk]
    have s2 : (partsOf (wk s.word)).isSome = true → EX2 [some (.d s.toD), none, none] μ = .ok (.nx [some (.d s.toD), none, none]) μ := fun hk => by
      rw [toD_word s]
      simp [EX2, pin, hk]
    have mp := fun (he : ∀ a ∈ s.parts, f_exchanged_saying f [.d a.toD] μ = .ok (.d a.swap.toD) μ) => map_parts (g := fun a => a.swap.toD) (e := cF 1 (f_exchanged_saying f) (aCons (eVar 2) aNil)) (i := 2) (ρ := [some (.d s.toD), none, none]) (μ := μ) w rfl fun a ha => by
      have := he a ha
      simp [this]
    cases s with
    | rel v x =>
      have hk : wk v = .rel := w.1
      obtain ⟨P, hP, rfl⟩ := w.2
      have ok := hL P hP
      have ex := t_exchanged_by (μ := μ) (P := P) (Nat.le_trans ok.l (by decide)) (ok.n.up (by decide))
      have rl : gIn false (.d (.str v)) _ μ = _ := rl
      rw [show wk (Say.rel v (Pl P)).word = .rel from hk] at rl
      have e : EX1 [some (.d (Say.rel v (Pl P)).toD), none, none] μ = .ok (.rt (.d (.tuple [.str v, Pl (exch P)]))) μ := by
        simp [EX1, Say.toD, rl, ex]
      rw [seq_rt e]
      show _ = Out.ok (Fl.rt (.d (.tuple [.str v, Pl (exch (polOf (Pl P)))]))) μ
      rw [polOf_Pl]
    | tf v =>
      have hk : wk v = .tf := w
      have pin : gInD true partsAt (.d (.str v)) μ = _ := pin
      rw [show wk (Say.tf v).word = .tf from hk] at pin
      have e : EX2 [some (.d (Say.tf v).toD), none, none] μ = .ok (.rt (.d (Say.tf v).toD)) μ := by
        simp [EX2, Say.toD, pin, partsOf]
      rw [seq_ok (s1 (by rw [show wk (Say.tf v).word = .tf from hk]; decide)), seq_rt e]
      rfl
    | no a =>
      have h : a.dep + 1 ≤ f + 1 := h
      have lc := mp fun b hb => by
        rw [List.mem_singleton.mp hb]
        exact ih (s := a) w (by omega)
      have wp := t_with_parts (w := "not") (r := [a.toD]) (ys := [a.swap.toD]) (k := 1) (c := []) (μ := μ) (by rw [wk_not]; rfl) (show 1 ≤ 1 + 1 by decide) (show 1 + 1 ≤ 1000 by decide)
      have s3 : EX3 (f_exchanged_saying f) [some (.d (Say.no a).toD), none, none] μ = .ok (.nx [some (.d (Say.no a).toD), some (.d (Say.no a.swap).toD), none]) μ := by
        have lc : lLc _ _ _ _ _ [some (.d (.tuple [.str "not", a.toD])), none, none] μ = .ok [a.swap.toD] μ := lc
        simp [EX3, Say.toD, lc, wp]
      have qu : gIn false (.d (.str "not")) _ μ = _ := qu
      rw [show wk (Say.no a).word = .no from wk_not] at qu
      rw [seq_ok (s1 (by rw [show wk (Say.no a).word = .no from wk_not]; decide)), seq_ok (s2 (by rw [show wk (Say.no a).word = .no from wk_not]; rfl)), seq_ok s3]
      simp [EX4, Say.toD, qu, Say.swap]
    | bin v a b =>
      have hk : wk v = .bin := w.1
      have h : max a.dep b.dep + 1 ≤ f + 1 := h
      have lc := mp fun c hc => by
        have hc : c ∈ [a, b] := hc
        simp only [List.mem_cons, List.not_mem_nil, or_false] at hc
        rcases hc with rfl | rfl
        · exact ih w.2.1 (by omega)
        · exact ih w.2.2 (by omega)
      have wp := t_with_parts (w := v) (r := [a.toD, b.toD]) (ys := [a.swap.toD, b.swap.toD]) (k := 1) (c := [.int 2]) (μ := μ) (by rw [hk]; rfl) (show 1 ≤ 2 + 1 by decide) (show 2 + 2 ≤ 1000 by decide)
      have s3 : EX3 (f_exchanged_saying f) [some (.d (Say.bin v a b).toD), none, none] μ = .ok (.nx [some (.d (Say.bin v a b).toD), some (.d (Say.bin v a.swap b.swap).toD), none]) μ := by
        have lc : lLc _ _ _ _ _ [some (.d (.tuple [.str v, a.toD, b.toD])), none, none] μ = .ok [a.swap.toD, b.swap.toD] μ := lc
        simp [EX3, Say.toD, lc, wp]
      have qu : gIn false (.d (.str v)) _ μ = _ := qu
      rw [show wk (Say.bin v a b).word = .bin from hk] at qu
      rw [seq_ok (s1 (by rw [show wk (Say.bin v a b).word = .bin from hk]; decide)), seq_ok (s2 (by rw [show wk (Say.bin v a b).word = .bin from hk]; rfl)), seq_ok s3]
      simp [EX4, Say.toD, qu, Say.swap]
    | qu v l a =>
      have hk : wk v = .qu := w.1
      have h : a.dep + 1 ≤ f + 1 := h
      have lc := mp fun b hb => by
        rw [List.mem_singleton.mp hb]
        exact ih (s := a) w.2.2 (by omega)
      have wp := t_with_parts (w := v) (r := [.str l, a.toD]) (ys := [a.swap.toD]) (k := 2) (c := []) (μ := μ) (by rw [hk]; rfl) (show 2 ≤ 2 + 1 by decide) (show 2 + 1 ≤ 1000 by decide)
      have s3 : EX3 (f_exchanged_saying f) [some (.d (Say.qu v l a).toD), none, none] μ = .ok (.nx [some (.d (Say.qu v l a).toD), some (.d (.tuple [.str v, .str l, a.swap.toD])), none]) μ := by
        have lc : lLc _ _ _ _ _ [some (.d (.tuple [.str v, .str l, a.toD])), none, none] μ = .ok [a.swap.toD] μ := lc
        simp [EX3, Say.toD, lc, wp]
      have qu : gIn false (.d (.str v)) _ μ = _ := qu
      rw [show wk (Say.qu v l a).word = .qu from hk] at qu
      have ot := t_other (l := l) (μ := μ)
      rw [seq_ok (s1 (by rw [show wk (Say.qu v l a).word = .qu from hk]; decide)), seq_ok (s2 (by rw [show wk (Say.qu v l a).word = .qu from hk]; rfl)), seq_ok s3]
      simp [EX4, Say.toD, qu, Say.swap, ot]
theorem t_poly_put {μ : Mu} {P : Pol} {t l : Int} {lt : Str} (hP : POk P) (ho : PutOk t l) (hlt : isXY lt = true) : f_poly_put 3 [.d (Pl P), .d (.str lt), .d (Fd t l)] μ = .ok (.d (Pl (putP t l lt P))) μ := by
  unfold putP
  rcases xy_two hlt with rfl | rfl
  · rw [if_pos rfl]
    exact t_put_x 2 hP.t (Nat.le_trans hP.l (by decide)) (hP.n.up (by decide)) hP.b ho
  · rw [if_neg (by decide +kernel)]
    exact t_put_y 1 hP.t (Nat.le_trans hP.l (by decide)) (hP.n.up (by decide)) hP.b ho
theorem t_put_by {Ls : List Pol} (hL : ∀ P ∈ Ls, POk P) {t l : Int} {lt : Str} (ho : PutOk t l) (hlt : isXY lt = true) : ∀ (f : Nat) {s : Say} {μ : Mu}, s.WF (Lq Ls) → s.dep ≤ f → f_put_by f [.d s.toD, .d (.str lt), .d (Fd t l)] μ = .ok (.d (s.fill t l lt).toD) μ := by
  intro f
  induction f with
  | zero => intro s μ _ h; have := dep_pos s; omega
  | succ f ih =>
    intro s μ w h
    show runD 4 (b_put_by (f_put_by f)) _ μ = _
    refine run_ret ?_
    rw [PT_is]
    show sSeq PT1 (sSeq PT2 _) [some (.d s.toD), some (.d (.str lt)), some (.d (Fd t l)), none] μ = _
    have rl := g_rel (neg := false) (μ := μ) (word_can w)
    have qu := g_qu (neg := false) (μ := μ) (word_can w)
    have pin := part_in (neg := true) (w := s.word) (μ := μ)
    have s1 : wk s.word ≠ .rel → PT1 [some (.d s.toD), some (.d (.str lt)), some (.d (Fd t l)), none] μ = .ok (.nx [some (.d s.toD), some (.d (.str lt)), some (.d (Fd t l)), none]) μ := fun hk => by
      rw [toD_word s]
      simp [PT1, rl, hk]
    have s2 : (partsOf (wk s.word)).isSome = true → wk s.word ≠ .qu → PT2 [some (.d s.toD), some (.d (.str lt)), some (.d (Fd t l)), none] μ = .ok (.nx [some (.d s.toD), some (.d (.str lt)), some (.d (Fd t l)), none]) μ := fun hk hq => by
      rw [toD_word s]
      simp [PT2, pin, hk, qu, hq]
    have mp := fun (he : ∀ a ∈ s.parts, f_put_by f [.d a.toD, .d (.str lt), .d (Fd t l)] μ = .ok (.d (a.fill t l lt).toD) μ) => map_parts (g := fun a => (a.fill t l lt).toD) (e := cF 3 (f_put_by f) (aCons (eVar 3) (aCons (eVar 1) (aCons (eVar 2) aNil)))) (i := 3) (ρ := [some (.d s.toD), some (.d (.str lt)), some (.d (Fd t l)), none]) (μ := μ) w rfl fun a ha => by
      have := he a ha
      simp [this]
    cases s with
    | rel v x =>
      have hk : wk v = .rel := w.1
      obtain ⟨P, hP, rfl⟩ := w.2
      have ex := t_poly_put (μ := μ) (hL P hP) ho hlt
      have rl : gIn false (.d (.str v)) _ μ = _ := rl
      rw [show wk (Say.rel v (Pl P)).word = .rel from hk] at rl
      have e : PT1 [some (.d (Say.rel v (Pl P)).toD), some (.d (.str lt)), some (.d (Fd t l)), none] μ = .ok (.rt (.d (.tuple [.str v, Pl (putP t l lt P)]))) μ := by
        simp [PT1, Say.toD, rl, ex]
      rw [seq_rt e]
      show _ = Out.ok (Fl.rt (.d (.tuple [.str v, Pl (putP t l lt (polOf (Pl P)))]))) μ
      rw [polOf_Pl]
    | tf v =>
      have hk : wk v = .tf := w
      have pin : gInD true partsAt (.d (.str v)) μ = _ := pin
      rw [show wk (Say.tf v).word = .tf from hk] at pin
      have e : PT2 [some (.d (Say.tf v).toD), some (.d (.str lt)), some (.d (Fd t l)), none] μ = .ok (.rt (.d (Say.tf v).toD)) μ := by
        simp [PT2, Say.toD, pin, partsOf]
      rw [seq_ok (s1 (by rw [show wk (Say.tf v).word = .tf from hk]; decide)), seq_rt e]
      rfl
    | no a =>
      have h : a.dep + 1 ≤ f + 1 := h
      have lc := mp fun b hb => by
        rw [List.mem_singleton.mp hb]
        exact ih (s := a) w (by omega)
      have wp := t_with_parts (w := "not") (r := [a.toD]) (ys := [(a.fill t l lt).toD]) (k := 1) (c := []) (μ := μ) (by rw [wk_not]; rfl) (show 1 ≤ 1 + 1 by decide) (show 1 + 1 ≤ 1000 by decide)
      rw [seq_ok (s1 (by rw [show wk (Say.no a).word = .no from wk_not]; decide)), seq_ok (s2 (by rw [show wk (Say.no a).word = .no from wk_not]; rfl) (by rw [show wk (Say.no a).word = .no from wk_not]; decide))]
      have lc : lLc _ _ _ _ _ [some (.d (.tuple [.str "not", a.toD])), some (.d (.str lt)), some (.d (Fd t l)), none] μ = .ok [(a.fill t l lt).toD] μ := lc
      simp [PT3, Say.toD, lc, wp, Say.fill]
    | bin v a b =>
      have hk : wk v = .bin := w.1
      have h : max a.dep b.dep + 1 ≤ f + 1 := h
      have lc := mp fun c hc => by
        have hc : c ∈ [a, b] := hc
        simp only [List.mem_cons, List.not_mem_nil, or_false] at hc
        rcases hc with rfl | rfl
        · exact ih w.2.1 (by omega)
        · exact ih w.2.2 (by omega)
      have wp := t_with_parts (w := v) (r := [a.toD, b.toD]) (ys := [(a.fill t l lt).toD, (b.fill t l lt).toD]) (k := 1) (c := [.int 2]) (μ := μ) (by rw [hk]; rfl) (show 1 ≤ 2 + 1 by decide) (show 2 + 2 ≤ 1000 by decide)
      rw [seq_ok (s1 (by rw [show wk (Say.bin v a b).word = .bin from hk]; decide)), seq_ok (s2 (by rw [show wk (Say.bin v a b).word = .bin from hk]; rfl) (by rw [show wk (Say.bin v a b).word = .bin from hk]; decide))]
      have lc : lLc _ _ _ _ _ [some (.d (.tuple [.str v, a.toD, b.toD])), some (.d (.str lt)), some (.d (Fd t l)), none] μ = .ok [(a.fill t l lt).toD, (b.fill t l lt).toD] μ := lc
      simp [PT3, Say.toD, lc, wp, Say.fill]
    | qu v m a =>
      have hk : wk v = .qu := w.1
      have h : a.dep + 1 ≤ f + 1 := h
      have qu : gIn false (.d (.str v)) _ μ = _ := qu
      rw [show wk (Say.qu v m a).word = .qu from hk] at qu
      have pin : gInD true partsAt (.d (.str v)) μ = _ := pin
      rw [show wk (Say.qu v m a).word = .qu from hk] at pin
      rw [seq_ok (s1 (by rw [show wk (Say.qu v m a).word = .qu from hk]; decide))]
      by_cases hm : m = lt
      · have e : PT2 [some (.d (Say.qu v m a).toD), some (.d (.str lt)), some (.d (Fd t l)), none] μ = .ok (.rt (.d (Say.qu v m a).toD)) μ := by
          simp [PT2, Say.toD, pin, partsOf, qu, hm]
        rw [seq_rt e]
        show _ = Out.ok (Fl.rt (.d (if m = lt then Say.qu v m a else Say.qu v m (a.fill t l lt)).toD)) μ
        rw [if_pos hm]
      · have e : PT2 [some (.d (Say.qu v m a).toD), some (.d (.str lt)), some (.d (Fd t l)), none] μ = .ok (.nx [some (.d (Say.qu v m a).toD), some (.d (.str lt)), some (.d (Fd t l)), none]) μ := by
          simp [PT2, Say.toD, pin, partsOf, qu, hm]
        have lc := mp fun b hb => by
          rw [List.mem_singleton.mp hb]
          exact ih (s := a) w.2.2 (by omega)
        have wp := t_with_parts (w := v) (r := [.str m, a.toD]) (ys := [(a.fill t l lt).toD]) (k := 2) (c := []) (μ := μ) (by rw [hk]; rfl) (show 2 ≤ 2 + 1 by decide) (show 2 + 1 ≤ 1000 by decide)
        have lc : lLc _ _ _ _ _ [some (.d (.tuple [.str v, .str m, a.toD])), some (.d (.str lt)), some (.d (Fd t l)), none] μ = .ok [(a.fill t l lt).toD] μ := lc
        rw [seq_ok e]
        simp [PT3, Say.toD, lc, wp, Say.fill, hm]
end LW
namespace LW
open PySem PySem.Spec TL
open L2 (atI ixN)
def rel6 : List Str := ["below", "at", "above", "not below", "not at", "not above"]
theorem rel6_of {w : Str} (h : wk w = .rel) : w ∈ rel6 := by
  by_cases m : w ∈ allW
  · have k : allW.all (fun w => !decide (wk w = .rel) || decide (w ∈ rel6)) = true := by decide +kernel
    have := List.all_eq_true.mp k w m
    rw [Bool.or_eq_true, Bool.not_eq_true', decide_eq_false_iff_not, decide_eq_true_eq] at this
    exact this.elim (fun e => absurd h e) id
  · rw [wk_oth m] at h
    cases h
theorem rel6_facts : rel6.all (fun w => decide (w.length ≤ 100) && (decide (L2.cutS w none (some 4) = "not ") == Txt.startswith w "not " && (if Txt.startswith w "not " = true then decide (L2.cutS w (some 4) none = opp w) else decide ("not " ++ w = opp w)))) = true := by decide +kernel
theorem v_sls {z : Str} {lo hi : Option Int} {μ : Mu} : gSl (.d (.str z)) lo hi μ = if z.length ≤ 16777216 then .ok (.d (.str (L2.cutS z lo hi))) μ else .bad := rfl
theorem v_plusS {x y : Str} {μ : Mu} : gPlus (.d (.str x)) (.d (.str y)) μ = if x.length + y.length ≤ 16777216 then .ok (.d (.str (x ++ y))) μ else .bad := rfl
theorem rel_opp {w : Str} (h : wk w = .rel) : w.length ≤ 100 ∧ ((Txt.startswith w "not " = true ∧ L2.cutS w none (some 4) = "not " ∧ L2.cutS w (some 4) none = opp w) ∨ (Txt.startswith w "not " = false ∧ L2.cutS w none (some 4) ≠ "not " ∧ "not " ++ w = opp w)) := by
  have := List.all_eq_true.mp rel6_facts w (rel6_of h)
  rw [Bool.and_eq_true, Bool.and_eq_true, decide_eq_true_eq, beq_iff_eq] at this
  obtain ⟨h1, h2, h3⟩ := this
  refine ⟨h1, ?_⟩
  cases hs : Txt.startswith w "not " with
  | true =>
    rw [hs] at h2 h3
    rw [if_pos rfl, decide_eq_true_eq] at h3
    exact .inl ⟨rfl, of_decide_eq_true h2, h3⟩
  | false =>
    rw [hs] at h2 h3
    rw [if_neg (by decide), decide_eq_true_eq] at h3
    exact .inr ⟨rfl, of_decide_eq_false h2, h3⟩
theorem not_len : ("not " : Str).length = 4 := by decide +kernel
theorem t_opposite {w : Str} {μ : Mu} (h : wk w = .rel) : f_opposite_relation [.d (.str w)] μ = .ok (.d (.str (opp w))) μ := by
  obtain ⟨hl, ⟨h1, _, h2⟩ | ⟨h1, _, h2⟩⟩ := rel_opp h
  · have l1 : w.length ≤ 16777216 := by omega
    have sl : gSl (.d (.str w)) (some 4) none μ = .ok (.d (.str (opp w))) μ := by rw [v_sls, if_pos l1, h2]
    simp [f_opposite_relation, b_opposite_relation, runD, initR, eStr1, gStr1, h1, sl]
  · have sl : gPlus (.d (.str "not ")) (.d (.str w)) μ = .ok (.d (.str (opp w))) μ := by rw [v_plusS, if_pos (by rw [not_len]; omega), h2]
    simp [f_opposite_relation, b_opposite_relation, runD, initR, eStr1, gStr1, h1, sl]
end LW
namespace LW
open PySem PySem.Spec TL
open L2 (atI ixN)
noncomputable def PU1 : Sv :=
  (sAsg (e2 gIx (eVar 0) (eK (.int 0))) (gNm 2))
noncomputable def PU2 : Sv :=
  (sIf (tB' (e2 (gIn false) (eVar 2) (eK (.tuple [(.str "below"), (.str "at"), (.str "above"), (.str "not below"), (.str "not at"), (.str "not above")])))) (sRet (eTup (aCons (eIf (tB' (eVar 1)) (cF 1 f_opposite_relation (aCons (eVar 2) aNil)) (eVar 2)) (aCons (e2 gIx (eVar 0) (eK (.int 1))) aNil)))) sNext)
noncomputable def PU3 (rec : GF) : Sv :=
  (sIf (tB' (e2 (gEq false) (eVar 2) (eK (.str "not")))) (sRet (cF 2 rec (aCons (e2 gIx (eVar 0) (eK (.int 1))) (aCons (eNot (eVar 1)) aNil)))) sNext)
noncomputable def PU4 : Sv :=
  (sAsg (eIf (tB' (eVar 1)) (e1 (gItD [("both", (.str "either")), ("either", (.str "both")), ("all", (.str "some")), ("some", (.str "all")), ("true", (.str "false")), ("false", (.str "true"))]) (eVar 2)) (eVar 2)) (gNm 3))
noncomputable def PU5 : Sv :=
  (sIf (tB' (e1 (gInD true [("not", (.tuple [(.int 1)])), ("both", (.tuple [(.int 1), (.int 2)])), ("either", (.tuple [(.int 1), (.int 2)])), ("all", (.tuple [(.int 2)])), ("some", (.tuple [(.int 2)]))]) (eVar 2))) (sRet (eTup (aCons (eVar 3) aNil))) sNext)
noncomputable def PU6 (rec : GF) : Sv :=
  (sRet (e2 gPlus (eTup (aCons (eVar 3) aNil)) (eSl (cF 2 f_with_parts (aCons (eVar 0) (aCons (eFrz (lLc (iAny (cF 1 f_parts_of (aCons (eVar 0) aNil))) (gNm 4) bYes (cF 2 rec (aCons (eVar 4) (aCons (eVar 1) aNil))) [4])) aNil))) (some (eK (.int 1))) none)))
theorem PU_is (rec : GF) : b_pushed_by rec = sSeq PU1 (sSeq PU2 (sSeq (PU3 rec) (sSeq PU4 (sSeq PU5 ((PU6 rec)))))) := rfl
theorem eno_q (w : Str) : (w = "not") = (wk w = .no) := by
  have h := is_no w
  exact propext ⟨fun e => of_decide_eq_true (h ▸ decide_eq_true e), fun e => of_decide_eq_true (h.symm ▸ decide_eq_true e)⟩
/-- what stands behind the first -/
theorem at_c1 {x : PyData} {xs : List PyData} : cutL (x :: xs) (some 1) none = xs := by
  unfold cutL
  have e : HT.sIx (x :: xs).length 0 (some 1) = 1 := by
    have := HT.sIx_nat (x :: xs).length 0 1
    rw [List.length_cons] at this ⊢
    rw [show ((1 : Nat) : Int) = 1 from rfl] at this
    rw [this]
    omega
  rw [e, show HT.sIx (x :: xs).length (x :: xs).length none = xs.length + 1 from rfl]
  rw [List.drop_one, List.tail_cons, Nat.add_sub_cancel, List.take_length]
theorem six_of {w : Str} (h : wk w = .tf ∨ wk w = .bin ∨ wk w = .qu) : w ∈ (["true", "false", "both", "either", "all", "some"] : List Str) := by
  by_cases m : w ∈ allW
  · have k : allW.all (fun w => !(decide (wk w = .tf ∨ wk w = .bin ∨ wk w = .qu)) || decide (w ∈ (["true", "false", "both", "either", "all", "some"] : List Str))) = true := by decide +kernel
    have := List.all_eq_true.mp k w m
    rw [Bool.or_eq_true, Bool.not_eq_true', decide_eq_false_iff_not, decide_eq_true_eq] at this
    exact this.elim (fun e => absurd h e) id
  · rw [wk_oth m] at h
    rcases h with h | h | h <;> cases h
theorem opp_look {w : Str} (h : wk w = .tf ∨ wk w = .bin ∨ wk w = .qu) : ([("both", (.str "either")), ("either", (.str "both")), ("all", (.str "some")), ("some", (.str "all")), ("true", (.str "false")), ("false", (.str "true"))] : List (Str × PyData)).lookup w = some (.str (opp w)) := by
  have m := six_of h
  simp only [List.mem_cons, List.not_mem_nil, or_false] at m
  rcases m with rfl | rfl | rfl | rfl | rfl | rfl <;> rfl
theorem t_pushed_by {L : PyData → Prop} : ∀ (f : Nat) {s : Say} {n : Bool} {μ : Mu}, s.WF L → s.dep ≤ f → f_pushed_by f [.d s.toD, .d (.bool n)] μ = .ok (.d (s.push n).toD) μ := by
  intro f
  induction f with
  | zero => intro s n μ _ h; have := dep_pos s; omega
  | succ f ih =>
    intro s n μ w h
    show runD 5 (b_pushed_by (f_pushed_by f)) _ μ = _
    refine run_ret ?_
    rw [PU_is]
    show sSeq PU1 (sSeq PU2 _) [some (.d s.toD), some (.d (.bool n)), none, none, none] μ = _
    have rl := g_rel (neg := false) (μ := μ) (word_can w)
    have eno := eno_q s.word
    have pin := part_in (neg := true) (w := s.word) (μ := μ)
    have s1 : PU1 [some (.d s.toD), some (.d (.bool n)), none, none, none] μ = .ok (.nx [some (.d s.toD), some (.d (.bool n)), some (.d (.str s.word)), none, none]) μ := by
      rw [toD_word s]
      simp [PU1]
    rw [seq_ok s1]
    have s2 : wk s.word ≠ .rel → PU2 [some (.d s.toD), some (.d (.bool n)), some (.d (.str s.word)), none, none] μ = .ok (.nx [some (.d s.toD), some (.d (.bool n)), some (.d (.str s.word)), none, none]) μ := fun hk => by
      simp [PU2, rl, hk]
    have s3 : wk s.word ≠ .no → PU3 (f_pushed_by f) [some (.d s.toD), some (.d (.bool n)), some (.d (.str s.word)), none, none] μ = .ok (.nx [some (.d s.toD), some (.d (.bool n)), some (.d (.str s.word)), none, none]) μ := fun hk => by
      simp [PU3, eno, hk]
    have s4 : (wk s.word = .tf ∨ wk s.word = .bin ∨ wk s.word = .qu) → PU4 [some (.d s.toD), some (.d (.bool n)), some (.d (.str s.word)), none, none] μ = .ok (.nx [some (.d s.toD), some (.d (.bool n)), some (.d (.str s.word)), some (.d (.str (oppIf n s.word))), none]) μ := fun hk => by
      have it := x_itD (μ := μ) (opp_look hk)
      unfold oppIf
      cases n <;> simp [PU4, it]
    have s5 : (partsOf (wk s.word)).isSome = true → PU5 [some (.d s.toD), some (.d (.bool n)), some (.d (.str s.word)), some (.d (.str (oppIf n s.word))), none] μ = .ok (.nx [some (.d s.toD), some (.d (.bool n)), some (.d (.str s.word)), some (.d (.str (oppIf n s.word))), none]) μ := fun hk => by
      simp [PU5, pin, hk]
    have mp := fun (he : ∀ a ∈ s.parts, f_pushed_by f [.d a.toD, .d (.bool n)] μ = .ok (.d (a.push n).toD) μ) => map_parts (g := fun a => (a.push n).toD) (e := cF 2 (f_pushed_by f) (aCons (eVar 4) (aCons (eVar 1) aNil))) (i := 4) (ρ := [some (.d s.toD), some (.d (.bool n)), some (.d (.str s.word)), some (.d (.str (oppIf n s.word))), none]) (μ := μ) w rfl fun a ha => by
      have := he a ha
      simp [this]
    cases s with
    | rel v x =>
      have hk : wk v = .rel := w.1
      have rl : gIn false (.d (.str v)) _ μ = _ := rl
      rw [show wk (Say.rel v x).word = .rel from hk] at rl
      have op := t_opposite (μ := μ) hk
      have e : PU2 [some (.d (Say.rel v x).toD), some (.d (.bool n)), some (.d (.str v)), none, none] μ = .ok (.rt (.d (.tuple [.str (oppIf n v), x]))) μ := by
        unfold oppIf
        cases n <;> simp [PU2, Say.toD, rl, op]
      exact seq_rt e
    | no a =>
      have h : a.dep + 1 ≤ f + 1 := h
      have ia := ih (s := a) (n := !n) (μ := μ) w (by omega)
      have e : PU3 (f_pushed_by f) [some (.d (Say.no a).toD), some (.d (.bool n)), some (.d (.str "not")), none, none] μ = .ok (.rt (.d (a.push (!n)).toD)) μ := by
        simp [PU3, Say.toD, ia]
      rw [seq_ok (s2 (by rw [show wk (Say.no a).word = .no from wk_not]; decide))]
      exact seq_rt e
    | tf v =>
      have hk : wk v = .tf := w
      have pin : gInD true partsAt (.d (.str v)) μ = _ := pin
      rw [show wk (Say.tf v).word = .tf from hk] at pin
      have e : PU5 [some (.d (Say.tf v).toD), some (.d (.bool n)), some (.d (.str v)), some (.d (.str (oppIf n v))), none] μ = .ok (.rt (.d (.tuple [.str (oppIf n v)]))) μ := by
        simp [PU5, pin, partsOf]
      rw [seq_ok (s2 (by rw [show wk (Say.tf v).word = .tf from hk]; decide)), seq_ok (s3 (by rw [show wk (Say.tf v).word = .tf from hk]; decide)), seq_ok (s4 (.inl hk))]
      exact seq_rt e
    | bin v a b =>
      have hk : wk v = .bin := w.1
      have h : max a.dep b.dep + 1 ≤ f + 1 := h
      have lc := mp fun c hc => by
        have hc : c ∈ [a, b] := hc
        simp only [List.mem_cons, List.not_mem_nil, or_false] at hc
        rcases hc with rfl | rfl
        · exact ih w.2.1 (by omega)
        · exact ih w.2.2 (by omega)
      have wp := t_with_parts (w := v) (r := [a.toD, b.toD]) (ys := [(a.push n).toD, (b.push n).toD]) (k := 1) (c := [.int 2]) (μ := μ) (by rw [hk]; rfl) (show 1 ≤ 2 + 1 by decide) (show 2 + 2 ≤ 1000 by decide)
      have lc : lLc _ _ _ _ _ [some (.d (.tuple [.str v, a.toD, b.toD])), some (.d (.bool n)), some (.d (.str v)), some (.d (.str (oppIf n v))), none] μ = .ok [(a.push n).toD, (b.push n).toD] μ := lc
      rw [seq_ok (s2 (by rw [show wk (Say.bin v a b).word = .bin from hk]; decide)), seq_ok (s3 (by rw [show wk (Say.bin v a b).word = .bin from hk]; decide)), seq_ok (s4 (.inr (.inl hk))), seq_ok (s5 (by rw [show wk (Say.bin v a b).word = .bin from hk]; rfl))]
      show PU6 (f_pushed_by f) [some (.d (.tuple [.str v, a.toD, b.toD])), some (.d (.bool n)), some (.d (.str v)), some (.d (.str (oppIf n v))), none] μ = .ok (.rt (.d (.tuple [.str (oppIf n v), (a.push n).toD, (b.push n).toD]))) μ
      simp [PU6, lc, wp, v_slt', at_c1]
    | qu v l a =>
      have hk : wk v = .qu := w.1
      have h : a.dep + 1 ≤ f + 1 := h
      have lc := mp fun b hb => by
        rw [List.mem_singleton.mp hb]
        exact ih (s := a) w.2.2 (by omega)
      have wp := t_with_parts (w := v) (r := [.str l, a.toD]) (ys := [(a.push n).toD]) (k := 2) (c := []) (μ := μ) (by rw [hk]; rfl) (show 2 ≤ 2 + 1 by decide) (show 2 + 1 ≤ 1000 by decide)
      have lc : lLc _ _ _ _ _ [some (.d (.tuple [.str v, .str l, a.toD])), some (.d (.bool n)), some (.d (.str v)), some (.d (.str (oppIf n v))), none] μ = .ok [(a.push n).toD] μ := lc
      rw [seq_ok (s2 (by rw [show wk (Say.qu v l a).word = .qu from hk]; decide)), seq_ok (s3 (by rw [show wk (Say.qu v l a).word = .qu from hk]; decide)), seq_ok (s4 (.inr (.inr hk))), seq_ok (s5 (by rw [show wk (Say.qu v l a).word = .qu from hk]; rfl))]
      show PU6 (f_pushed_by f) [some (.d (.tuple [.str v, .str l, a.toD])), some (.d (.bool n)), some (.d (.str v)), some (.d (.str (oppIf n v))), none] μ = .ok (.rt (.d (.tuple [.str (oppIf n v), .str l, (a.push n).toD]))) μ
      simp [PU6, lc, wp, v_slt', at_c1]
end LW
namespace LW
open PySem PySem.Spec TL
open L2 (atI ixN)
noncomputable def LZ1 : Sv :=
  (sAsg (e2 gIx (eVar 0) (eK (.int 0))) (gNm 2))
noncomputable def LZ2 (rec : GF) : Sv :=
  (sIf (tB' (e2 (gEq false) (eVar 2) (eK (.str "not")))) (sRet (cF 2 rec (aCons (e2 gIx (eVar 0) (eK (.int 1))) (aCons (eNot (eVar 1)) aNil)))) sNext)
noncomputable def LZ3 : Sv :=
  (sIf (tB' (eVar 1)) (sSeq (sAsg (eTupX (aCons (eK (.str "true")) (aCons (eK (.str "false")) (aCons (eK (.str "both")) (aCons (eK (.str "either")) (aCons (eK (.str "all")) (aCons (eK (.str "some")) aNil))))))) (gNm 3))
    (sIf (tB' (e2 (gIn false) (eVar 2) (eUn (eVar 3)))) (sAsg (e2 gIx (eUn (eVar 3)) (e2 gPlus (eIdx (eVar 3) (eVar 2)) (eIf (tB' (e2 (gIn false) (eVar 2) (eTup (aCons (eK (.str "true")) (aCons (eK (.str "both")) (aCons (eK (.str "all")) aNil)))))) (eK (.int 1)) (e1 gNeg (eK (.int 1)))))) (gNm 2)) (sAsg (eIf (tB' (e2 (gEq false) (eSl (eVar 2) none (some (eK (.int 4)))) (eK (.str "not ")))) (eSl (eVar 2) (some (eK (.int 4))) none) (e2 gPlus (eK (.str "not ")) (eVar 2))) (gNm 2)))) sNext)
noncomputable def LZ4 (rec : GF) : Sv :=
  (sIf (tB' (e2 (gIn false) (eVar 2) (eTup (aCons (eK (.str "both")) (aCons (eK (.str "either")) aNil))))) (sRet (eTup (aCons (eVar 2) (aCons (cF 2 rec (aCons (e2 gIx (eVar 0) (eK (.int 1))) (aCons (eVar 1) aNil))) (aCons (cF 2 rec (aCons (e2 gIx (eVar 0) (eK (.int 2))) (aCons (eVar 1) aNil))) aNil))))) sNext)
noncomputable def LZ5 (rec : GF) : Sv :=
  (sIf (tB' (e2 (gIn false) (eVar 2) (eTup (aCons (eK (.str "all")) (aCons (eK (.str "some")) aNil))))) (sRet (eTup (aCons (eVar 2) (aCons (e2 gIx (eVar 0) (eK (.int 1))) (aCons (cF 2 rec (aCons (e2 gIx (eVar 0) (eK (.int 2))) (aCons (eVar 1) aNil))) aNil))))) sNext)
noncomputable def LZ6 : Sv :=
  (sRet (e2 gPlus (eTup (aCons (eVar 2) aNil)) (eSl (eVar 0) (some (eK (.int 1))) none)))
theorem LZ_is (rec : GF) : b_law_led rec = sSeq LZ1 (sSeq (LZ2 rec) (sSeq LZ3 (sSeq (LZ4 rec) (sSeq (LZ5 rec) (LZ6))))) := rfl
def six : List Str := ["true", "false", "both", "either", "all", "some"]
theorem is_be (w : Str) : ("both" == w || ("either" == w || false)) = decide (wk w = .bin) := by
  have := w_all (p := fun w => ("both" == w || ("either" == w || false)) == decide (wk w = .bin)) (by decide +kernel) (fun w h => by
    obtain ⟨h1, h2, h3, h4, h5, h6, h7, h8, h9, h10, h11, h12, h13⟩ := not_all h
    simp [wk_oth h, beq_ne h10, beq_ne h11]) w
  simpa using this
theorem g_be {neg : Bool} {w : Str} {μ : Mu} (h : PyData.canLay0 (.str w) = true) : gIn neg (.d (.str w)) (.d (.tuple [.str "both", .str "either"])) μ = .ok (.d (.bool (if neg then !decide (wk w = .bin) else decide (wk w = .bin)))) μ := by
  refine (g_in (ws := ["both", "either"]) rfl h (by decide +kernel)).trans ?_
  rw [← is_be]
  rfl
theorem six_facts : six.all (fun w => (six.any fun z => z == w) && match ixO w six with
  | some i => if (["true", "both", "all"].any fun z => (Str.ofString z) == w) = true then decide (six[i + 1]? = some (opp w)) else decide (1 ≤ i) && decide (six[i - 1]? = some (opp w))
  | none => false) = true := by decide +kernel
theorem six_at {k : Nat} {z : Str} (h : six[k]? = some z) : atI (six.map PyData.str) (k : Int) = some (.str z) := at_n (by rw [List.getElem?_map, h]; rfl)
theorem rel_not6 {w : Str} (h : wk w = .rel) : (six.any fun z => z == w) = false := by
  have k : rel6.all (fun w => !(six.any fun z => z == w)) = true := by decide +kernel
  have := List.all_eq_true.mp k w (rel6_of h)
  simpa using this
theorem lz3 {sd : PyData} {n : Bool} {w : Str} {μ : Mu} (h : wk w = .tf ∨ wk w = .bin ∨ wk w = .qu ∨ wk w = .rel) : ∃ o, LZ3 [some (.d sd), some (.d (.bool n)), some (.d (.str w)), none] μ = .ok (.nx [some (.d sd), some (.d (.bool n)), some (.d (.str (oppIf n w))), o]) μ := by
  cases n with
  | false => exact ⟨none, by simp [LZ3, oppIf]⟩
  | true =>
    refine ⟨some (.t (six.map PyData.str)), ?_⟩
    have hw : PyData.canLay0 (.str w) = true := wk_can (by rcases h with h | h | h | h <;> rw [h] <;> decide)
    have s0 : sAsg (eTupX (aCons (eK (.str "true")) (aCons (eK (.str "false")) (aCons (eK (.str "both")) (aCons (eK (.str "either")) (aCons (eK (.str "all")) (aCons (eK (.str "some")) aNil))))))) (gNm 3) [some (.d sd), some (.d (.bool true)), some (.d (.str w)), none] μ = .ok (.nx [some (.d sd), some (.d (.bool true)), some (.d (.str w)), some (.t (six.map PyData.str))]) μ := by
      simp [six]
    have hin : gIn false (.d (.str w)) (.d (.tuple (six.map PyData.str))) μ = .ok (.d (.bool (six.any fun z => z == w))) μ := (g_in (ws := six) (neg := false) rfl hw (by decide +kernel)).trans rfl
    have go : ∀ R : Sv, LZ3 [some (.d sd), some (.d (.bool true)), some (.d (.str w)), none] μ = sSeq (sAsg (eTupX (aCons (eK (.str "true")) (aCons (eK (.str "false")) (aCons (eK (.str "both")) (aCons (eK (.str "either")) (aCons (eK (.str "all")) (aCons (eK (.str "some")) aNil))))))) (gNm 3)) (sIf (tB' (e2 (gIn false) (eVar 2) (eUn (eVar 3)))) (sAsg (e2 gIx (eUn (eVar 3)) (e2 gPlus (eIdx (eVar 3) (eVar 2)) (eIf (tB' (e2 (gIn false) (eVar 2) (eTup (aCons (eK (.str "true")) (aCons (eK (.str "both")) (aCons (eK (.str "all")) aNil)))))) (eK (.int 1)) (e1 gNeg (eK (.int 1)))))) (gNm 2)) (sAsg (eIf (tB' (e2 (gEq false) (eSl (eVar 2) none (some (eK (.int 4)))) (eK (.str "not ")))) (eSl (eVar 2) (some (eK (.int 4))) none) (e2 gPlus (eK (.str "not ")) (eVar 2))) (gNm 2))) [some (.d sd), some (.d (.bool true)), some (.d (.str w)), none] μ := fun _ => by
      unfold LZ3
      rw [x_if]
      rfl
    rw [go sNext, seq_ok s0]
    have txt : txts (six.map PyData.str) = some six := rfl
    generalize hD : six.map PyData.str = D at *
    rcases h with h | h | h | h
    rotate_left 3
    · rw [rel_not6 h] at hin
      obtain ⟨hl, ⟨h1, h2, h3⟩ | ⟨h1, h2, h3⟩⟩ := rel_opp h
      · have l1 : w.length ≤ 16777216 := by omega
        have sl : ∀ lo hi, gSl (.d (.str w)) lo hi μ = .ok (.d (.str (L2.cutS w lo hi))) μ := fun lo hi => by rw [v_sls, if_pos l1]
        simp [hin, sl, h2, h3, oppIf]
      · have l1 : w.length ≤ 16777216 := by omega
        have sl : ∀ lo hi, gSl (.d (.str w)) lo hi μ = .ok (.d (.str (L2.cutS w lo hi))) μ := fun lo hi => by rw [v_sls, if_pos l1]
        have pl : gPlus (.d (.str "not ")) (.d (.str w)) μ = .ok (.d (.str (opp w))) μ := by rw [v_plusS, if_pos (by rw [not_len]; omega), h3]
        simp [hin, sl, h2, pl, oppIf]
    all_goals
      have m : w ∈ six := six_of (by first | exact .inl h | exact .inr (.inl h) | exact .inr (.inr h))
      have fa := List.all_eq_true.mp six_facts w m
      rw [Bool.and_eq_true] at fa
      obtain ⟨f1, f2⟩ := fa
      rw [f1] at hin
      have ht := (g_in (ws := ["true", "both", "all"]) (neg := false) (w := w) (ys := [.str "true", .str "both", .str "all"]) (μ := μ) rfl hw (by decide +kernel))
      have ha : (["true", "both", "all"].any fun z => (Str.ofString z) == w) = ((["true", "both", "all"] : List Str).any fun z => z == w) := rfl
      rw [ha] at f2
      split at f2
      · rename_i i hi
        have gi : calm (gIdx D (.d (.str w)) μ) = .ok (.d (.int (i : Int))) μ := by
          unfold gIdx
          simp only [txt, hi]
          rfl
        split at f2
        · rename_i hb
          rw [hb] at ht
          have at1 := six_at (of_decide_eq_true f2)
          rw [hD] at at1
          rw [show ((i + 1 : Nat) : Int) = (i : Int) + 1 from rfl] at at1
          simp [hin, gi, ht, at1, oppIf]
        · rename_i hb
          rw [Bool.not_eq_true] at hb
          rw [hb] at ht
          rw [Bool.and_eq_true] at f2
          have h1 := of_decide_eq_true f2.1
          have at1 := six_at (of_decide_eq_true f2.2)
          rw [hD] at at1
          rw [show ((i - 1 : Nat) : Int) = (i : Int) + -1 by omega] at at1
          simp [hin, gi, ht, at1, oppIf]
      · cases f2
theorem t_led {L : PyData → Prop} : ∀ (f : Nat) {s : Say} {n : Bool} {μ : Mu}, s.WF L → s.dep ≤ f → f_law_led f [.d s.toD, .d (.bool n)] μ = .ok (.d (s.push n).toD) μ := by
  intro f
  induction f with
  | zero => intro s n μ _ h; have := dep_pos s; omega
  | succ f ih =>
    intro s n μ w h
    show runD 4 (b_law_led (f_law_led f)) _ μ = _
    refine run_ret ?_
    rw [LZ_is]
    show sSeq LZ1 _ [some (.d s.toD), some (.d (.bool n)), none, none] μ = _
    have eno := eno_q s.word
    have s1 : LZ1 [some (.d s.toD), some (.d (.bool n)), none, none] μ = .ok (.nx [some (.d s.toD), some (.d (.bool n)), some (.d (.str s.word)), none]) μ := by
      rw [toD_word s]
      simp [LZ1]
    rw [seq_ok s1]
    have s2 : wk s.word ≠ .no → LZ2 (f_law_led f) [some (.d s.toD), some (.d (.bool n)), some (.d (.str s.word)), none] μ = .ok (.nx [some (.d s.toD), some (.d (.bool n)), some (.d (.str s.word)), none]) μ := fun hk => by
      simp [LZ2, eno, hk]
    have can : ∀ {k : WK}, wk s.word = k → k ≠ .no → k ≠ .oth → PyData.canLay0 (.str (oppIf n s.word)) = true ∧ wk (oppIf n s.word) = k := fun {k} h1 h2 h3 => by
      have := oppIf_wk (n := n) h1 h2 h3
      exact ⟨wk_can (by rw [this]; exact h3), this⟩
    cases s with
    | no a =>
      have h : a.dep + 1 ≤ f + 1 := h
      have ia := ih (s := a) (n := !n) (μ := μ) w (by omega)
      have e : LZ2 (f_law_led f) [some (.d (Say.no a).toD), some (.d (.bool n)), some (.d (.str "not")), none] μ = .ok (.rt (.d (a.push (!n)).toD)) μ := by
        simp [LZ2, Say.toD, ia]
      exact seq_rt e
    | tf v =>
      have hk : wk v = .tf := w
      obtain ⟨c1, c2⟩ := can (show wk (Say.tf v).word = .tf from hk) (by decide) (by decide)
      have be := g_be (neg := false) (μ := μ) c1
      have qu := g_qu (neg := false) (μ := μ) c1
      rw [c2] at be qu
      obtain ⟨o, s3⟩ := lz3 (sd := (Say.tf v).toD) (n := n) (w := v) (μ := μ) (.inl hk)
      rw [seq_ok (s2 (by rw [show wk (Say.tf v).word = .tf from hk]; decide))]
      show sSeq LZ3 _ [some (.d (Say.tf v).toD), some (.d (.bool n)), some (.d (.str v)), none] μ = _
      rw [seq_ok s3]
      have be : gIn false (.d (.str (oppIf n v))) _ μ = _ := be
      have qu : gIn false (.d (.str (oppIf n v))) _ μ = _ := qu
      have s4 : LZ4 (f_law_led f) [some (.d (Say.tf v).toD), some (.d (.bool n)), some (.d (.str (oppIf n v))), o] μ = .ok (.nx [some (.d (Say.tf v).toD), some (.d (.bool n)), some (.d (.str (oppIf n v))), o]) μ := by simp [LZ4, be]
      have s5 : LZ5 (f_law_led f) [some (.d (Say.tf v).toD), some (.d (.bool n)), some (.d (.str (oppIf n v))), o] μ = .ok (.nx [some (.d (Say.tf v).toD), some (.d (.bool n)), some (.d (.str (oppIf n v))), o]) μ := by simp [LZ5, qu]
      rw [seq_ok s4, seq_ok s5]
      show LZ6 [some (.d (.tuple [.str v])), some (.d (.bool n)), some (.d (.str (oppIf n v))), o] μ = .ok (.rt (.d (.tuple [.str (oppIf n v)]))) μ
      simp [LZ6, v_slt', at_c1]
    | rel v x =>
      have hk : wk v = .rel := w.1
      obtain ⟨c1, c2⟩ := can (show wk (Say.rel v x).word = .rel from hk) (by decide) (by decide)
      have be := g_be (neg := false) (μ := μ) c1
      have qu := g_qu (neg := false) (μ := μ) c1
      rw [c2] at be qu
      obtain ⟨o, s3⟩ := lz3 (sd := (Say.rel v x).toD) (n := n) (w := v) (μ := μ) (.inr (.inr (.inr hk)))
      rw [seq_ok (s2 (by rw [show wk (Say.rel v x).word = .rel from hk]; decide))]
      show sSeq LZ3 _ [some (.d (Say.rel v x).toD), some (.d (.bool n)), some (.d (.str v)), none] μ = _
      rw [seq_ok s3]
      have be : gIn false (.d (.str (oppIf n v))) _ μ = _ := be
      have qu : gIn false (.d (.str (oppIf n v))) _ μ = _ := qu
      have s4 : LZ4 (f_law_led f) [some (.d (Say.rel v x).toD), some (.d (.bool n)), some (.d (.str (oppIf n v))), o] μ = .ok (.nx [some (.d (Say.rel v x).toD), some (.d (.bool n)), some (.d (.str (oppIf n v))), o]) μ := by simp [LZ4, be]
      have s5 : LZ5 (f_law_led f) [some (.d (Say.rel v x).toD), some (.d (.bool n)), some (.d (.str (oppIf n v))), o] μ = .ok (.nx [some (.d (Say.rel v x).toD), some (.d (.bool n)), some (.d (.str (oppIf n v))), o]) μ := by simp [LZ5, qu]
      rw [seq_ok s4, seq_ok s5]
      show LZ6 [some (.d (.tuple [.str v, x])), some (.d (.bool n)), some (.d (.str (oppIf n v))), o] μ = .ok (.rt (.d (.tuple [.str (oppIf n v), x]))) μ
      simp [LZ6, v_slt', at_c1]
    | bin v a b =>
      have hk : wk v = .bin := w.1
      have h : max a.dep b.dep + 1 ≤ f + 1 := h
      have ia := ih (s := a) (n := n) (μ := μ) w.2.1 (by omega)
      have ib := ih (s := b) (n := n) (μ := μ) w.2.2 (by omega)
      obtain ⟨c1, c2⟩ := can (show wk (Say.bin v a b).word = .bin from hk) (by decide) (by decide)
      have be := g_be (neg := false) (μ := μ) c1
      rw [c2] at be
      obtain ⟨o, s3⟩ := lz3 (sd := (Say.bin v a b).toD) (n := n) (w := v) (μ := μ) (.inr (.inl hk))
      rw [seq_ok (s2 (by rw [show wk (Say.bin v a b).word = .bin from hk]; decide))]
      show sSeq LZ3 _ [some (.d (Say.bin v a b).toD), some (.d (.bool n)), some (.d (.str v)), none] μ = _
      rw [seq_ok s3]
      have be : gIn false (.d (.str (oppIf n v))) _ μ = _ := be
      refine seq_rt ?_
      show LZ4 (f_law_led f) [some (.d (.tuple [.str v, a.toD, b.toD])), some (.d (.bool n)), some (.d (.str (oppIf n v))), o] μ = .ok (.rt (.d (.tuple [.str (oppIf n v), (a.push n).toD, (b.push n).toD]))) μ
      simp [LZ4, be, ia, ib]
    | qu v l a =>
      have hk : wk v = .qu := w.1
      have h : a.dep + 1 ≤ f + 1 := h
      have ia := ih (s := a) (n := n) (μ := μ) w.2.2 (by omega)
      obtain ⟨c1, c2⟩ := can (show wk (Say.qu v l a).word = .qu from hk) (by decide) (by decide)
      have be := g_be (neg := false) (μ := μ) c1
      have qu := g_qu (neg := false) (μ := μ) c1
      rw [c2] at be qu
      obtain ⟨o, s3⟩ := lz3 (sd := (Say.qu v l a).toD) (n := n) (w := v) (μ := μ) (.inr (.inr (.inl hk)))
      rw [seq_ok (s2 (by rw [show wk (Say.qu v l a).word = .qu from hk]; decide))]
      show sSeq LZ3 _ [some (.d (Say.qu v l a).toD), some (.d (.bool n)), some (.d (.str v)), none] μ = _
      rw [seq_ok s3]
      have be : gIn false (.d (.str (oppIf n v))) _ μ = _ := be
      have qu : gIn false (.d (.str (oppIf n v))) _ μ = _ := qu
      have s4 : LZ4 (f_law_led f) [some (.d (Say.qu v l a).toD), some (.d (.bool n)), some (.d (.str (oppIf n v))), o] μ = .ok (.nx [some (.d (Say.qu v l a).toD), some (.d (.bool n)), some (.d (.str (oppIf n v))), o]) μ := by simp [LZ4, be]
      rw [seq_ok s4]
      refine seq_rt ?_
      show LZ5 (f_law_led f) [some (.d (.tuple [.str v, .str l, a.toD])), some (.d (.bool n)), some (.d (.str (oppIf n v))), o] μ = .ok (.rt (.d (.tuple [.str (oppIf n v), .str l, (a.push n).toD]))) μ
      simp [LZ5, qu, ia]
end LW
namespace LW
open PySem PySem.Spec TL
open L2 (atI ixN)
noncomputable def SW1 : Sv :=
  (sIf (tB' (e2 (gEq false) (en gLen (aCons (eVar 0) aNil)) (eK (.int 1)))) (sRet (eVar 0)) sNext)
noncomputable def SW2 (rec : GF) : Sv :=
  (sIf (tB' (e2 (gIn false) (e2 gIx (eVar 0) (eK (.int 0))) (eTup (aCons (eK (.str "not")) (aCons (eK (.str "both")) (aCons (eK (.str "either")) aNil)))))) (sRet (e2 gPlus (eTup (aCons (e2 gIx (eVar 0) (eK (.int 0))) aNil)) (en gTuple (aCons (eFrz (lLc (iAny (eSl (eVar 0) (some (eK (.int 1))) none)) (gNm 1) bYes (cF 1 rec (aCons (eVar 1) aNil)) [1])) aNil)))) sNext)
noncomputable def SW3 (rec : GF) : Sv :=
  (sIf (tB' (e2 (gEq false) (en gLen (aCons (eVar 0) aNil)) (eK (.int 3)))) (sRet (eTup (aCons (e2 gIx (eVar 0) (eK (.int 0))) (aCons (eIf (tB' (e2 (gEq false) (e2 gIx (eVar 0) (eK (.int 1))) (eK (.str "x")))) (eK (.str "y")) (eK (.str "x"))) (aCons (cF 1 rec (aCons (e2 gIx (eVar 0) (eK (.int 2))) aNil)) aNil))))) sNext)
noncomputable def SW4 : Sv :=
  (sRet (eTup (aCons (e2 gIx (eVar 0) (eK (.int 0))) (aCons (cF 1 f_law_turned (aCons (e2 gIx (eVar 0) (eK (.int 1))) aNil)) aNil))))
theorem SW_is (rec : GF) : b_law_swapped rec = sSeq SW1 (sSeq (SW2 rec) (sSeq (SW3 rec) (SW4))) := rfl
noncomputable def FI1 : Sv :=
  (sIf (tB' (e2 (gEq false) (en gLen (aCons (eVar 0) aNil)) (eK (.int 1)))) (sRet (eVar 0)) sNext)
noncomputable def FI2 (rec : GF) : Sv :=
  (sIf (tB' (e2 (gIn false) (e2 gIx (eVar 0) (eK (.int 0))) (eTup (aCons (eK (.str "not")) (aCons (eK (.str "both")) (aCons (eK (.str "either")) aNil)))))) (sRet (e2 gPlus (eTup (aCons (e2 gIx (eVar 0) (eK (.int 0))) aNil)) (en gTuple (aCons (eFrz (lLc (iAny (eSl (eVar 0) (some (eK (.int 1))) none)) (gNm 3) bYes (cF 3 rec (aCons (eVar 3) (aCons (eVar 1) (aCons (eVar 2) aNil)))) [3])) aNil)))) sNext)
noncomputable def FI3 (rec : GF) : Sv :=
  (sIf (tB' (e2 (gIn false) (e2 gIx (eVar 0) (eK (.int 0))) (eTup (aCons (eK (.str "all")) (aCons (eK (.str "some")) aNil))))) (sRet (eIf (tB' (e2 (gEq false) (e2 gIx (eVar 0) (eK (.int 1))) (eVar 1))) (eVar 0) (e2 gPlus (eSl (eVar 0) none (some (eK (.int 2)))) (eTup (aCons (cF 3 rec (aCons (e2 gIx (eVar 0) (eK (.int 2))) (aCons (eVar 1) (aCons (eVar 2) aNil)))) aNil))))) sNext)
noncomputable def FI4 : Sv :=
  (sRet (eTup (aCons (e2 gIx (eVar 0) (eK (.int 0))) (aCons (cF 3 f_law_put (aCons (e2 gIx (eVar 0) (eK (.int 1))) (aCons (eVar 1) (aCons (eVar 2) aNil)))) aNil))))
theorem FI_is (rec : GF) : b_law_filled rec = sSeq FI1 (sSeq (FI2 rec) (sSeq (FI3 rec) (FI4))) := rfl
theorem it_rest {w : Str} {r : List PyData} {ρ : Rho} {μ : Mu} (h : ρ[0]? = some (some (.d (.tuple (.str w :: r))))) : iAny (eSl (eVar 0) (some (eK (.int 1))) none) ρ μ = .ok ⟨r, []⟩ μ := by
  rw [x_iany, x_sl, x_var h]
  simp only [Out.bind_ok, x_ps, x_pn, x_k, v_slt', at_c1, x_calm]
  rfl
theorem map_rest {s : Say} {g : Say → PyData} {e : Ev} {i : Nat} {ρ : Rho} {μ : Mu} (hp : s.rest = s.parts.map Say.toD) (h0 : ρ[0]? = some (some (.d s.toD))) (he : ∀ a ∈ s.parts, e ((ρ.set i none).set i (some (.d a.toD))) μ = .ok (.d (g a)) μ) :
    lLc (iAny (eSl (eVar 0) (some (eK (.int 1))) none)) (gNm i) bYes e [i] ρ μ = .ok (s.parts.map g) μ := by
  have hl : s.parts.length ≤ 16777216 := by cases s <;> simp [Say.parts]
  refine lc_of (f := Say.toD) (g := g) ?_ hl he
  rw [← hp]
  exact it_rest (by rw [h0, toD_word s])
theorem t_swapped {Ls : List Pol} (hL : ∀ P ∈ Ls, POk P) : ∀ (f : Nat) {s : Say} {μ : Mu}, s.WF (Lq Ls) → s.dep ≤ f → f_law_swapped f [.d s.toD] μ = .ok (.d s.swap.toD) μ := by
  intro f
  induction f with
  | zero => intro s μ _ h; have := dep_pos s; omega
  | succ f ih =>
    intro s μ w h
    show runD 2 (b_law_swapped (f_law_swapped f)) _ μ = _
    refine run_ret ?_
    rw [SW_is]
    show sSeq SW1 (sSeq (SW2 (f_law_swapped f)) _) [some (.d s.toD), none] μ = _
    have nb := g_nb (neg := false) (μ := μ) (word_can w)
    have s1 : s.rest ≠ [] → SW1 [some (.d s.toD), none] μ = .ok (.nx [some (.d s.toD), none]) μ := fun hr => by
      have l1 : ¬ ((s.rest.length : Int) + 1 = 1) := by
        have := List.length_pos_iff.mpr hr
        omega
      rw [toD_word s]
      simp [SW1, l1]
    have s2 : ¬ (wk s.word = .no ∨ wk s.word = .bin) → SW2 (f_law_swapped f) [some (.d s.toD), none] μ = .ok (.nx [some (.d s.toD), none]) μ := fun hk => by
      rw [toD_word s]
      simp [SW2, nb, hk]
    have mp := fun (hp : s.rest = s.parts.map Say.toD) (he : ∀ a ∈ s.parts, f_law_swapped f [.d a.toD] μ = .ok (.d a.swap.toD) μ) => map_rest (g := fun a => a.swap.toD) (e := cF 1 (f_law_swapped f) (aCons (eVar 1) aNil)) (i := 1) (ρ := [some (.d s.toD), none]) (μ := μ) hp rfl fun a ha => by
      have := he a ha
      simp [this]
    cases s with
    | tf v =>
      have e : SW1 [some (.d (Say.tf v).toD), none] μ = .ok (.rt (.d (Say.tf v).toD)) μ := by simp [SW1, Say.toD]
      rw [seq_rt e]
      rfl
    | rel v x =>
      have hk : wk v = .rel := w.1
      obtain ⟨P, hP, rfl⟩ := w.2
      have ok := hL P hP
      have ex := t_law_turned (μ := μ) (P := P) ok.t.2 (Nat.le_trans ok.l (by decide)) (ok.n.up (by decide))
      have s3 : SW3 (f_law_swapped f) [some (.d (Say.rel v (Pl P)).toD), none] μ = .ok (.nx [some (.d (Say.rel v (Pl P)).toD), none]) μ := by simp [SW3, Say.toD]
      rw [seq_ok (s1 (by simp [Say.rest])), seq_ok (s2 (by rw [show wk (Say.rel v (Pl P)).word = .rel from hk]; decide)), seq_ok s3]
      show SW4 [some (.d (.tuple [.str v, Pl P])), none] μ = .ok (.rt (.d (.tuple [.str v, Pl (exch (polOf (Pl P)))]))) μ
      rw [polOf_Pl]
      simp [SW4, ex]
    | no a =>
      have h : a.dep + 1 ≤ f + 1 := h
      have lc := mp rfl fun b hb => by
        rw [List.mem_singleton.mp hb]
        exact ih (s := a) w (by omega)
      have nb : gIn false (.d (.str "not")) _ μ = _ := nb
      rw [show wk (Say.no a).word = .no from wk_not] at nb
      have lc : lLc _ _ _ _ _ [some (.d (.tuple [.str "not", a.toD])), none] μ = .ok [a.swap.toD] μ := lc
      rw [seq_ok (s1 (by simp [Say.rest]))]
      refine seq_rt ?_
      show SW2 (f_law_swapped f) [some (.d (.tuple [.str "not", a.toD])), none] μ = .ok (.rt (.d (.tuple [.str "not", a.swap.toD]))) μ
      simp [SW2, nb, lc]
    | bin v a b =>
      have hk : wk v = .bin := w.1
      have h : max a.dep b.dep + 1 ≤ f + 1 := h
      have lc := mp rfl fun c hc => by
        have hc : c ∈ [a, b] := hc
        simp only [List.mem_cons, List.not_mem_nil, or_false] at hc
        rcases hc with rfl | rfl
        · exact ih w.2.1 (by omega)
        · exact ih w.2.2 (by omega)
      have nb : gIn false (.d (.str v)) _ μ = _ := nb
      rw [show wk (Say.bin v a b).word = .bin from hk] at nb
      have lc : lLc _ _ _ _ _ [some (.d (.tuple [.str v, a.toD, b.toD])), none] μ = .ok [a.swap.toD, b.swap.toD] μ := lc
      rw [seq_ok (s1 (by simp [Say.rest]))]
      refine seq_rt ?_
      show SW2 (f_law_swapped f) [some (.d (.tuple [.str v, a.toD, b.toD])), none] μ = .ok (.rt (.d (.tuple [.str v, a.swap.toD, b.swap.toD]))) μ
      simp [SW2, nb, lc]
    | qu v l a =>
      have hk : wk v = .qu := w.1
      have h : a.dep + 1 ≤ f + 1 := h
      have ia := ih (s := a) (μ := μ) w.2.2 (by omega)
      rw [seq_ok (s1 (by simp [Say.rest])), seq_ok (s2 (by rw [show wk (Say.qu v l a).word = .qu from hk]; decide))]
      refine seq_rt ?_
      show SW3 (f_law_swapped f) [some (.d (.tuple [.str v, .str l, a.toD])), none] μ = .ok (.rt (.d (.tuple [.str v, .str (other l), a.swap.toD]))) μ
      unfold other
      by_cases hl : l = "x"
      · simp [SW3, ia, hl]
      · simp [SW3, ia, hl]
theorem t_law_put {μ : Mu} {P : Pol} {t l : Int} {lt : Str} (hP : POk P) (ho : PutOk t l) (hlt : isXY lt = true) : f_law_put [.d (Pl P), .d (.str lt), .d (Fd t l)] μ = .ok (.d (Pl (putP t l lt P))) μ := by
  unfold putP
  rcases xy_two hlt with rfl | rfl
  · rw [if_pos rfl]
    exact t_law_put_x hP.t (Nat.le_trans hP.l (by decide)) (hP.n.up (by decide)) hP.b ho
  · rw [if_neg (by decide +kernel)]
    exact t_law_put_y hP.t (Nat.le_trans hP.l (by decide)) (hP.n.up (by decide)) hP.b ho
theorem t_filled {Ls : List Pol} (hL : ∀ P ∈ Ls, POk P) {t l : Int} {lt : Str} (ho : PutOk t l) (hlt : isXY lt = true) : ∀ (f : Nat) {s : Say} {μ : Mu}, s.WF (Lq Ls) → s.dep ≤ f → f_law_filled f [.d s.toD, .d (.str lt), .d (Fd t l)] μ = .ok (.d (s.fill t l lt).toD) μ := by
  intro f
  induction f with
  | zero => intro s μ _ h; have := dep_pos s; omega
  | succ f ih =>
    intro s μ w h
    show runD 4 (b_law_filled (f_law_filled f)) _ μ = _
    refine run_ret ?_
    rw [FI_is]
    show sSeq FI1 (sSeq (FI2 (f_law_filled f)) _) [some (.d s.toD), some (.d (.str lt)), some (.d (Fd t l)), none] μ = _
    have nb := g_nb (neg := false) (μ := μ) (word_can w)
    have qu := g_qu (neg := false) (μ := μ) (word_can w)
    have s1 : s.rest ≠ [] → FI1 [some (.d s.toD), some (.d (.str lt)), some (.d (Fd t l)), none] μ = .ok (.nx [some (.d s.toD), some (.d (.str lt)), some (.d (Fd t l)), none]) μ := fun hr => by
      have l1 : ¬ ((s.rest.length : Int) + 1 = 1) := by
        have := List.length_pos_iff.mpr hr
        omega
      rw [toD_word s]
      simp [FI1, l1]
    have s2 : ¬ (wk s.word = .no ∨ wk s.word = .bin) → FI2 (f_law_filled f) [some (.d s.toD), some (.d (.str lt)), some (.d (Fd t l)), none] μ = .ok (.nx [some (.d s.toD), some (.d (.str lt)), some (.d (Fd t l)), none]) μ := fun hk => by
      rw [toD_word s]
      simp [FI2, nb, hk]
    have mp := fun (hp : s.rest = s.parts.map Say.toD) (he : ∀ a ∈ s.parts, f_law_filled f [.d a.toD, .d (.str lt), .d (Fd t l)] μ = .ok (.d (a.fill t l lt).toD) μ) => map_rest (g := fun a => (a.fill t l lt).toD) (e := cF 3 (f_law_filled f) (aCons (eVar 3) (aCons (eVar 1) (aCons (eVar 2) aNil)))) (i := 3) (ρ := [some (.d s.toD), some (.d (.str lt)), some (.d (Fd t l)), none]) (μ := μ) hp rfl fun a ha => by
      have := he a ha
      simp [this]
    cases s with
    | tf v =>
      have e : FI1 [some (.d (Say.tf v).toD), some (.d (.str lt)), some (.d (Fd t l)), none] μ = .ok (.rt (.d (Say.tf v).toD)) μ := by simp [FI1, Say.toD]
      rw [seq_rt e]
      rfl
    | rel v x =>
      have hk : wk v = .rel := w.1
      obtain ⟨P, hP, rfl⟩ := w.2
      have ex := t_law_put (μ := μ) (hL P hP) ho hlt
      have qu : gIn false (.d (.str v)) _ μ = _ := qu
      rw [show wk (Say.rel v (Pl P)).word = .rel from hk] at qu
      have s3 : FI3 (f_law_filled f) [some (.d (Say.rel v (Pl P)).toD), some (.d (.str lt)), some (.d (Fd t l)), none] μ = .ok (.nx [some (.d (Say.rel v (Pl P)).toD), some (.d (.str lt)), some (.d (Fd t l)), none]) μ := by simp [FI3, Say.toD, qu]
      rw [seq_ok (s1 (by simp [Say.rest])), seq_ok (s2 (by rw [show wk (Say.rel v (Pl P)).word = .rel from hk]; decide)), seq_ok s3]
      show FI4 [some (.d (.tuple [.str v, Pl P])), some (.d (.str lt)), some (.d (Fd t l)), none] μ = .ok (.rt (.d (.tuple [.str v, Pl (putP t l lt (polOf (Pl P)))]))) μ
      rw [polOf_Pl]
      simp [FI4, ex]
    | no a =>
      have h : a.dep + 1 ≤ f + 1 := h
      have lc := mp rfl fun b hb => by
        rw [List.mem_singleton.mp hb]
        exact ih (s := a) w (by omega)
      have nb : gIn false (.d (.str "not")) _ μ = _ := nb
      rw [show wk (Say.no a).word = .no from wk_not] at nb
      have lc : lLc _ _ _ _ _ [some (.d (.tuple [.str "not", a.toD])), some (.d (.str lt)), some (.d (Fd t l)), none] μ = .ok [(a.fill t l lt).toD] μ := lc
      rw [seq_ok (s1 (by simp [Say.rest]))]
      refine seq_rt ?_
      show FI2 (f_law_filled f) [some (.d (.tuple [.str "not", a.toD])), some (.d (.str lt)), some (.d (Fd t l)), none] μ = .ok (.rt (.d (.tuple [.str "not", (a.fill t l lt).toD]))) μ
      simp [FI2, nb, lc]
    | bin v a b =>
      have hk : wk v = .bin := w.1
      have h : max a.dep b.dep + 1 ≤ f + 1 := h
      have lc := mp rfl fun c hc => by
        have hc : c ∈ [a, b] := hc
        simp only [List.mem_cons, List.not_mem_nil, or_false] at hc
        rcases hc with rfl | rfl
        · exact ih w.2.1 (by omega)
        · exact ih w.2.2 (by omega)
      have nb : gIn false (.d (.str v)) _ μ = _ := nb
      rw [show wk (Say.bin v a b).word = .bin from hk] at nb
      have lc : lLc _ _ _ _ _ [some (.d (.tuple [.str v, a.toD, b.toD])), some (.d (.str lt)), some (.d (Fd t l)), none] μ = .ok [(a.fill t l lt).toD, (b.fill t l lt).toD] μ := lc
      rw [seq_ok (s1 (by simp [Say.rest]))]
      refine seq_rt ?_
      show FI2 (f_law_filled f) [some (.d (.tuple [.str v, a.toD, b.toD])), some (.d (.str lt)), some (.d (Fd t l)), none] μ = .ok (.rt (.d (.tuple [.str v, (a.fill t l lt).toD, (b.fill t l lt).toD]))) μ
      simp [FI2, nb, lc]
    | qu v m a =>
      have hk : wk v = .qu := w.1
      have h : a.dep + 1 ≤ f + 1 := h
      have ia := ih (s := a) (μ := μ) w.2.2 (by omega)
      have qu : gIn false (.d (.str v)) _ μ = _ := qu
      rw [show wk (Say.qu v m a).word = .qu from hk] at qu
      have ct : cutL [PyData.str v, .str m, a.toD] none (some 2) = [.str v, .str m] := cut_take (n := 2) (show 2 ≤ 3 by decide)
      rw [seq_ok (s1 (by simp [Say.rest])), seq_ok (s2 (by rw [show wk (Say.qu v m a).word = .qu from hk]; decide))]
      refine seq_rt ?_
      show FI3 (f_law_filled f) [some (.d (.tuple [.str v, .str m, a.toD])), some (.d (.str lt)), some (.d (Fd t l)), none] μ = .ok (.rt (.d (if m = lt then Say.qu v m a else Say.qu v m (a.fill t l lt)).toD)) μ
      by_cases hm : m = lt
      · rw [if_pos hm]
        simp [FI3, qu, hm, Say.toD]
      · rw [if_neg hm]
        simp [FI3, qu, hm, ia, ct, v_slt', Say.toD]
end LW
namespace LW
open PySem PySem.Spec TL
open L2 (atI ixN)
/-- numbers that are drawn -/
theorem t_number {μ : Mu} {k m : Nat} {c : Cell} (h : μ[k]? = some (some c)) (w : Wl m c) (hm : m < 900000000) :
    ∃ r c', f_law_number [.r k] μ = .ok (.d (.int r)) (μ.set k (some c')) ∧ Wl (m + 2) c' ∧ r.natAbs ≤ 2 ^ 100 := by
  obtain ⟨r, c1, e1, r0, r1, w1⟩ := t_draw (many := 12) h w (by omega) (by omega) (by omega)
  have h1 : (μ.set k (some c1))[k]? = some (some c1) := get_set h
  by_cases hr : r < 10
  · obtain ⟨x, e2, hx⟩ := at_nat (xs := [.int 0, .int 1, .int (-1), .int 0, .int 2, .int 3, .int 0, .int (-2), .int 5, .int 1]) r0 (by simpa using hr)
    have hx2 : ∃ i : Int, x = .int i ∧ i.natAbs ≤ 5 := by
      simp only [List.mem_cons, List.not_mem_nil, or_false] at hx
      rcases hx with rfl | rfl | rfl | rfl | rfl | rfl | rfl | rfl | rfl | rfl <;> exact ⟨_, rfl, by decide⟩
    obtain ⟨i, rfl, hi⟩ := hx2
    exact ⟨i, c1, by simp [f_law_number, b_law_number, runD, initR, e1, hr, e2], w1.up (by omega), Nat.le_trans hi (by decide +kernel)⟩
  · by_cases h10 : r = 10
    · subst h10
      obtain ⟨r2, c2, e2, q0, q1, w2⟩ := t_draw (many := 2000003) h1 w1 (by omega) (by omega) (by omega)
      exact ⟨r2 - 1000001, c2, by simp [f_law_number, b_law_number, runD, initR, e1, e2], w2, Nat.le_trans (show _ ≤ 1000001 by omega) (by decide +kernel)⟩
    · obtain ⟨r2, c2, e2, q0, q1, w2⟩ := t_draw (many := 5) h1 w1 (by omega) (by omega) (by omega)
      have p : ∀ μ, gPow (.d (.int 10)) (.d (.int 20)) μ = .ok (.d (.int (10 ^ 20))) μ := fun μ => rfl
      have hb : ((10 : Int) ^ 20).natAbs + 5 ≤ 2 ^ 100 := by decide +kernel
      generalize (10 : Int) ^ 20 = big at p hb
      refine ⟨big - r2, c2, by simp [-v_pow, f_law_number, b_law_number, runD, initR, e1, hr, h10, e2, p], w2, ?_⟩
      generalize 2 ^ 100 = B at hb ⊢
      omega
section
variable {μ : Mu} {k L : Nat} {c l v : Option Cell} {rest : Mu}
theorem cons_get : (μ.set k c ++ (l :: rest))[μ.length]? = some l := by
  rw [List.getElem?_append_right (by rw [List.length_set]; exact Nat.le_refl _), List.length_set, Nat.sub_self]
  rfl
theorem cons_set : (μ.set k c ++ (l :: rest)).set μ.length v = μ.set k c ++ (v :: rest) := by
  rw [List.set_append_right _ _ (by rw [List.length_set]; exact Nat.le_refl _), List.length_set, Nat.sub_self]
  rfl
end
/-- the empty rows at the end of a cell go -/
theorem pop_G {μ : Mu} {k j : Nat} {c : Option Cell} {ex : Mu} {ρ : Rho} {Q : Pol} (h5 : ρ[j]? = some (some (.r μ.length))) : sWhile (bAnd (tB' (e2 (gEq true) (eVar j) (eFrz (lDisp aNil)))) (tB' (e2 (gEq false) (e2 gIx (eVar j) (e1 gNeg (eK (.int 1)))) (eTup aNil)))) (sExpr (e1 gPop (eVar j))) ρ (μ.set k c ++ (some (Lp Q) :: ex)) = .ok (.nx ρ) (μ.set k c ++ (some (Lp (trimP Q)) :: ex)) := by
  have hv : ∀ S : Mu, eVar j ρ S = .ok (.r μ.length) S := fun S => x_var h5
  have main : ∃ ρ' μ', sWhile (bAnd (tB' (e2 (gEq true) (eVar j) (eFrz (lDisp aNil)))) (tB' (e2 (gEq false) (e2 gIx (eVar j) (e1 gNeg (eK (.int 1)))) (eTup aNil)))) (sExpr (e1 gPop (eVar j))) ρ (μ.set k c ++ (some (Lp Q) :: ex)) = .ok (.nx ρ') μ' ∧ ρ' = ρ ∧ μ' = μ.set k c ++ (some (Lp (trimP Q)) :: ex) := by
    refine wh_run (fun n ρ' μ' => ∃ R : Pol, ρ' = ρ ∧ μ' = μ.set k c ++ (some (Lp R) :: ex) ∧ n = R.length ∧ trimP R = trimP Q) _ Q.length ⟨Q, rfl, rfl, rfl, rfl⟩ ?_
    rintro n ρ' μ' ⟨R, rfl, rfl, rfl, ht⟩
    have t : (μ.set k c ++ (some (Lp R) :: ex))[μ.length]? = some (some (Lp R)) := cons_get
    have q1 : gEq true (.r μ.length) (.d (.list [])) (μ.set k c ++ (some (Lp R) :: ex)) = .ok (.d (.bool (!(Lp R).isEmpty))) (μ.set k c ++ (some (Lp R) :: ex)) := v_eq (x_dr t) rfl eq_ll
    rcases List.eq_nil_or_concat R with rfl | ⟨S, z, rfl⟩
    · refine ⟨false, μ.set k c ++ (some (Lp []) :: ex), ?_, .inl ⟨rfl, rfl, by rw [← ht]; rfl⟩⟩
      have cond : ∀ T : Mu, gEq true (.r μ.length) (.d (.list [])) T = .ok (.d (.bool false)) T → bAnd (tB' (e2 (gEq true) (eVar j) (eFrz (lDisp aNil)))) (tB' (e2 (gEq false) (e2 gIx (eVar j) (e1 gNeg (eK (.int 1)))) (eTup aNil))) ρ' T = .ok false T := by
        intro T q1
        simp [hv, q1]
      exact cond _ q1
    · rw [List.concat_eq_append] at *
      have e : Lp (S ++ [z]) = Lp S ++ [Rw' z] := List.map_append
      rw [e] at t q1 ⊢
      have hne : (Lp S ++ [Rw' z]).isEmpty = false := by cases Lp S <;> rfl
      rw [hne] at q1
      have q2 : gIx (.r μ.length) (.d (.int (-1))) (μ.set k c ++ (some (Lp S ++ [Rw' z]) :: ex)) = .ok (.d (Rw' z)) (μ.set k c ++ (some (Lp S ++ [Rw' z]) :: ex)) := by
        rw [v_ixr t, L2.atI_last _ _]
      have cond : ∀ T : Mu, gEq true (.r μ.length) (.d (.list [])) T = .ok (.d (.bool (!false))) T → gIx (.r μ.length) (.d (.int (-1))) T = .ok (.d (Rw' z)) T →
          bAnd (tB' (e2 (gEq true) (eVar j) (eFrz (lDisp aNil)))) (tB' (e2 (gEq false) (e2 gIx (eVar j) (e1 gNeg (eK (.int 1)))) (eTup aNil))) ρ' T = .ok (Li z).isEmpty T := by
        intro T q1 q2
        simp [hv, q1, q2]
      refine ⟨(Li z).isEmpty, _, cond _ q1 q2, ?_⟩
      rw [Li_empty]
      cases hz : z.isEmpty with
      | false =>
        refine .inl ⟨rfl, rfl, ?_⟩
        rw [← ht, trimP_snoc, if_neg (by intro h; rw [h] at hz; cases hz), e]
      | true =>
        have hz0 : z = [] := by simpa using hz
        have p : gPop (.r μ.length) (μ.set k c ++ (some (Lp S ++ [Rw' z]) :: ex)) = .ok (.d (Rw' z)) (μ.set k c ++ (some (Lp S) :: ex)) := by
          have cs := cons_set (μ := μ) (k := k) (c := c) (l := some (Lp S ++ [Rw' z])) (v := some (Lp S)) (rest := ex)
          unfold gPop
          simp only [t]
          simp [cs]
        refine .inr ⟨rfl, ρ', μ.set k c ++ (some (Lp S) :: ex), S.length, by simp, ?_, S, rfl, rfl, rfl, by rw [← ht, trimP_snoc, if_pos hz0]⟩
        simp [hv, p]
  obtain ⟨ρ', μ', e, rfl, rfl⟩ := main
  exact e
noncomputable def LP1 : Sv :=
  (sPar 2 3 (aCons (cF 2 f_law_draw (aCons (eVar 0) (aCons (eK (.int 10)) aNil))) (aCons (eNew (lDisp aNil)) aNil)))
noncomputable def LP2 : Sv :=
  (sFor (iR1 (aCons (e2 gPlus (eK (.int 1)) (cF 2 f_law_draw (aCons (eVar 0) (aCons (eIf (tB' (e2 (gEq false) (eVar 2) (eK (.int 1)))) (eK (.int 5)) (eK (.int 3))) aNil)))) aNil)) (gNm 1) (sSeq (sAsg (eNew (lDisp aNil)) (gNm 4))
    (sSeq (sFor (iR1 (aCons (cF 2 f_law_draw (aCons (eVar 0) (aCons (eIf (tB' (e2 (gEq false) (eVar 2) (eK (.int 2)))) (eK (.int 6)) (eK (.int 4))) aNil))) aNil)) (gNm 5) (sExpr (eMeth1 gApp (eVar 4) (aCons (cF 1 f_law_number (aCons (eVar 0) aNil)) aNil))))
    (sExpr (eMeth1 gApp (eVar 3) (aCons (cF 1 f_law_row (aCons (eVar 4) aNil)) aNil))))))
noncomputable def LP3 : Sv :=
  (sWhile (bAnd (tB' (e2 (gEq true) (eVar 3) (eFrz (lDisp aNil)))) (tB' (e2 (gEq false) (e2 gIx (eVar 3) (e1 gNeg (eK (.int 1)))) (eTup aNil)))) (sExpr (e1 gPop (eVar 3))))
noncomputable def LP4 : Sv :=
  (sRet (en gTuple (aCons (eVar 3) aNil)))
theorem LP_is : b_law_poly = sSeq LP1 (sSeq LP2 (sSeq LP3 (LP4))) := rfl
/-- one row more -/
noncomputable def LPb : Sv := (sSeq (sAsg (eNew (lDisp aNil)) (gNm 4))
    (sSeq (sFor (iR1 (aCons (cF 2 f_law_draw (aCons (eVar 0) (aCons (eIf (tB' (e2 (gEq false) (eVar 2) (eK (.int 2)))) (eK (.int 6)) (eK (.int 4))) aNil))) aNil)) (gNm 5) (sExpr (eMeth1 gApp (eVar 4) (aCons (cF 1 f_law_number (aCons (eVar 0) aNil)) aNil))))
    (sExpr (eMeth1 gApp (eVar 3) (aCons (cF 1 f_law_row (aCons (eVar 4) aNil)) aNil)))))
theorem lp_step {μ : Mu} {k m : Nat} {c l : Cell} {ex : Mu} {kind : Int} {o1 o4 o5 : Option Wv} (hk : k < μ.length) (w : Wl m c) (hm : m < 800000000) (hl : l.length ≤ 100) :
    ∃ c' o4' o5' figs row, LPb [some (.r k), o1, some (.d (.int kind)), some (.r μ.length), o4, o5] (μ.set k (some c) ++ (some l :: ex)) =
      .ok (.nx [some (.r k), o1, some (.d (.int kind)), some (.r μ.length), o4', o5']) (μ.set k (some c') ++ (some (l ++ [Rw' row]) :: (ex ++ [some figs]))) ∧ Wl (m + 20) c' ∧ trim row = row ∧ row.length ≤ 5 ∧ BM (2 ^ 100) row := by
  have hkν : k < (μ.set k (some c) ++ (some l :: ex)).length := by rw [List.length_append, List.length_set]; omega
  have gk : (μ.set k (some c) ++ (some l :: ex))[k]? = some (some c) := app_get (List.getElem?_set_self hk)
  generalize hν : μ.set k (some c) ++ (some l :: ex) = ν at *
  have s1 : sAsg (eNew (lDisp aNil)) (gNm 4) [some (.r k), o1, some (.d (.int kind)), some (.r μ.length), o4, o5] ν = .ok (.nx [some (.r k), o1, some (.d (.int kind)), some (.r μ.length), some (.r ν.length), o5]) (ν ++ [some []]) := by simp
  have gk2 : (ν ++ [some []])[k]? = some (some c) := app_get gk
  have arg : ∃ many : Int, eIf (tB' (e2 (gEq false) (eVar 2) (eK (.int 2)))) (eK (.int 6)) (eK (.int 4)) [some (.r k), o1, some (.d (.int kind)), some (.r μ.length), some (.r ν.length), o5] (ν ++ [some []]) = .ok (.d (.int many)) (ν ++ [some []]) ∧ 0 < many ∧ many ≤ 6 := by
    by_cases h2 : kind = 2
    · exact ⟨6, by simp [h2], by omega, by omega⟩
    · exact ⟨4, by simp [h2], by omega, by omega⟩
  obtain ⟨many, ea, m0, m1⟩ := arg
  obtain ⟨j, c1, d1, j0, j1, w1⟩ := t_draw (many := many) gk2 w (by omega) m0 (by omega)
  rw [app_set hkν] at d1
  have main := fillG (μ := ν) (k := k) (d := 2) (m := m + 1) (j := j.toNat) (mk := fun o => [some (.r k), o1, some (.d (.int kind)), some (.r μ.length), some (.r ν.length), o]) (t := gNm 5) (b := sExpr (eMeth1 gApp (eVar 4) (aCons (cF 1 f_law_number (aCons (eVar 0) aNil)) aNil))) (R := fun y => ∃ i : Int, y = .int i ∧ i.natAbs ≤ 2 ^ 100) (μ1 := ν ++ [some []]) (o0 := o5)
    (it := iR1 (aCons (cF 2 f_law_draw (aCons (eVar 0) (aCons (eIf (tB' (e2 (gEq false) (eVar 2) (eK (.int 2)))) (eK (.int 6)) (eK (.int 4))) aNil))) aNil)) (by omega) (it_r1 (j := j) (by
      simp only [x_cons, x_cF, x_v0, Out.bind_ok, ea, x_nil]
      rw [if_pos (show ([Wv.r k, Wv.d (.int many)] : List Wv).length = 2 from rfl), d1]
      rfl) (by omega) (by omega)) w1 (fun w o μ => rfl) (fun o c n l hn w hl _ => ?_)
  · obtain ⟨o, c2, figs, d2, w2, hfl, hr⟩ := main
    obtain ⟨xs, rfl, hb⟩ := ints_list hr
    have tr := t_lawrow (μ := ν.set k (some c2) ++ [some (Li xs)]) (w := .r ν.length) (xs := xs) (.inl (x_dr get_last))
    have es : ν.set k (some c2) ++ [some (Li xs)] = μ.set k (some c2) ++ (some l :: (ex ++ [some (Li xs)])) := by
      rw [← hν, app_set (by rw [List.length_set]; exact hk), List.set_set, List.append_assoc]
      rfl
    have gl : (ν.set k (some c2) ++ [some (Li xs)])[μ.length]? = some (some l) := by rw [es]; exact cons_get
    have lv : live (.r μ.length) (ν.set k (some c2) ++ [some (Li xs)]) = true := live_r gl
    have ap := v_app (x := Rw' (trim xs)) gl (by omega)
    have e3 : sExpr (eMeth1 gApp (eVar 3) (aCons (cF 1 f_law_row (aCons (eVar 4) aNil)) aNil)) [some (.r k), o1, some (.d (.int kind)), some (.r μ.length), some (.r ν.length), o] (ν.set k (some c2) ++ [some (Li xs)]) =
        .ok (.nx [some (.r k), o1, some (.d (.int kind)), some (.r μ.length), some (.r ν.length), o]) ((ν.set k (some c2) ++ [some (Li xs)]).set μ.length (some (l ++ [Rw' (trim xs)]))) := by
      simp [x_meth, lv, tr, ap]
    refine ⟨c2, some (.r ν.length), o, Li xs, trim xs, ?_, w2.up (by omega), trim_idem xs, ?_, fun i hi => hb i (trim_mem hi)⟩
    · unfold LPb
      rw [seq_ok s1, seq_ok d2, e3, es, cons_set]
    · have := trim_len xs
      rw [Li_len] at hfl
      omega
  · have g1 : (ν.set k (some c) ++ [some l])[k]? = some (some c) := app_get (List.getElem?_set_self hkν)
    have hd : n * 2 ≤ 2000 := by omega
    obtain ⟨y, c3, d3, w3, r3⟩ := t_number g1 w (by omega)
    rw [app_set (by rw [List.length_set]; exact hkν), List.set_set] at d3
    have lv : live (.r ν.length) (ν.set k (some c) ++ [some l]) = true := live_r get_last
    refine ⟨.int y, c3, ?_, w3, y, rfl, r3⟩
    simp [x_meth, lv, d3, v_app (k := ν.length) (μ := ν.set k (some c3) ++ [some l]) get_last (by omega)]
theorem t_poly {μ : Mu} {k m : Nat} {c : Cell} (h : μ[k]? = some (some c)) (w : Wl m c) (hm : m < 700000000) :
    ∃ P c', f_law_poly [.r k] μ = .ok (.d (Pl P)) (μ.set k (some c')) ∧ Wl (m + 200) c' ∧ POk P := by
  have hk := lt_of_get h
  obtain ⟨kind, c1, d1, k0, k1, w1⟩ := t_draw (many := 10) h w (by omega) (by omega) (by omega)
  have h1 : (μ.set k (some c1))[k]? = some (some c1) := get_set h
  have s1 : LP1 [some (.r k), none, none, none, none, none] μ = .ok (.nx [some (.r k), none, some (.d (.int kind)), some (.r μ.length), none, none]) (μ.set k (some c1) ++ [some []]) := by
    simp [LP1, d1]
  have arg : ∃ many : Int, eIf (tB' (e2 (gEq false) (eVar 2) (eK (.int 1)))) (eK (.int 5)) (eK (.int 3)) [some (.r k), none, some (.d (.int kind)), some (.r μ.length), none, none] (μ.set k (some c1) ++ [some []]) = .ok (.d (.int many)) (μ.set k (some c1) ++ [some []]) ∧ 0 < many ∧ many ≤ 5 := by
    by_cases hk1 : kind = 1
    · exact ⟨5, by simp [hk1], by omega, by omega⟩
    · exact ⟨3, by simp [hk1], by omega, by omega⟩
  obtain ⟨many, ea, m0, m1⟩ := arg
  obtain ⟨j, c3, d3, j0, j1, w3⟩ := t_draw (many := many) (μ := μ.set k (some c1) ++ [some []]) (app_get h1) w1 (by omega) m0 (by omega)
  rw [app_set (by rw [List.length_set]; exact hk), List.set_set] at d3
  have main := for_run (it := iR1 (aCons (e2 gPlus (eK (.int 1)) (cF 2 f_law_draw (aCons (eVar 0) (aCons (eIf (tB' (e2 (gEq false) (eVar 2) (eK (.int 1)))) (eK (.int 5)) (eK (.int 3))) aNil)))) aNil)) (xs := intL 0 (1 + j).toNat 1) (t := gNm 1) (b := LPb)
    (ρ := [some (.r k), none, some (.d (.int kind)), some (.r μ.length), none, none]) (μ := μ.set k (some c1) ++ [some []]) (μ1 := μ.set k (some c3) ++ [some []])
    (fun n ρ' μ' => n ≤ 5 ∧ ∃ c' Q ex o1 o4 o5, ρ' = [some (.r k), o1, some (.d (.int kind)), some (.r μ.length), o4, o5] ∧ μ' = μ.set k (some c') ++ (some (Lp Q) :: ex) ∧ Wl (m + 2 + 20 * n) c' ∧ Q.length = n ∧ TR Q ∧ PL 5 Q ∧ PB (2 ^ 100) Q)
    (it_r1 (j := 1 + j) (by
      simp only [x_cons, x_e2, x_k, Out.bind_ok, x_cF, x_v0, x_nil, ea]
      rw [if_pos (show ([Wv.r k, Wv.d (.int many)] : List Wv).length = 2 from rfl), d3]
      rfl) (by omega) (by omega)) ⟨Nat.zero_le _, c3, [], [], none, none, none, rfl, rfl, w3.up (by omega), rfl, TP.nil.2, (by intro r hr; cases hr), (by intro r hr; cases hr)⟩ (fun n x ρ' μ' hx ⟨hn, c', Q, ex, o1, o4, o5, f1, f2, w', hl, q1, q2, q3⟩ => ?_)
  · obtain ⟨ρ', μ', e, hn, c', Q, ex, o1, o4, o5, rfl, rfl, w', hl, q1, q2, q3⟩ := main
    rw [intL_len] at hl hn w'
    have ep := pop_G (μ := μ) (k := k) (j := 3) (c := some c') (ex := ex) (ρ := [some (.r k), o1, some (.d (.int kind)), some (.r μ.length), o4, o5]) (Q := Q) rfl
    have t : (μ.set k (some c') ++ (some (Lp (trimP Q)) :: ex))[μ.length]? = some (some (Lp (trimP Q))) := cons_get
    have e6 : LP4 [some (.r k), o1, some (.d (.int kind)), some (.r μ.length), o4, o5] (μ.set k (some c') ++ (some (Lp (trimP Q)) :: ex)) = .ok (.rt (.d (Pl (trimP Q)))) (μ.set k (some c') ++ (some (Lp (trimP Q)) :: ex)) := by
      simp [LP4, v_tupr t]
    refine ⟨trimP Q, c', ?_, w'.up (by omega), q1.trimP, ?_, q2.trimP, q3.trimP⟩
    · unfold f_law_poly
      refine (run_rt (x := Pl (trimP Q)) (μ' := μ.set k (some c') ++ (some (Lp (trimP Q)) :: ex)) ?_).trans (by simp)
      rw [LP_is]
      show sSeq LP1 _ [some (.r k), none, none, none, none, none] μ = _
      rw [seq_ok s1]
      show sSeq (sFor _ (gNm 1) LPb) (sSeq (sWhile _ _) LP4) _ _ = _
      rw [seq_ok e, seq_ok ep, e6]
    · have := trimP_len Q
      omega
  · subst f1 f2
    have hn3 : n < (1 + j).toNat := by
      have := (List.getElem?_eq_some_iff.mp hx).1
      rwa [intL_len] at this
    obtain ⟨c4, o4', o5', figs, row, eb, w4, r1, r2, r3⟩ := lp_step (o1 := some (.d x)) (o4 := o4) (o5 := o5) (kind := kind) (ex := ex) (l := Lp Q) hk w' (by omega) (by rw [Lp_len]; omega)
    have eL : Lp Q ++ [Rw' row] = Lp (Q ++ [row]) := by unfold Lp; rw [List.map_append]; rfl
    rw [eL] at eb
    refine ⟨_, _, _, _, rfl, eb, by omega, c4, Q ++ [row], ex ++ [some figs], _, _, _, rfl, rfl, w4.up (by omega), by rw [List.length_append, hl]; rfl, ?_, ?_, ?_⟩
    · intro y hy
      rcases List.mem_append.mp hy with hy | hy
      · exact q1 y hy
      · rw [List.mem_singleton.mp hy]; exact r1
    · intro y hy
      rcases List.mem_append.mp hy with hy | hy
      · exact q2 y hy
      · rw [List.mem_singleton.mp hy]; exact r2
    · intro y hy
      rcases List.mem_append.mp hy with hy | hy
      · exact q3 y hy
      · rw [List.mem_singleton.mp hy]; exact r3
end LW
namespace LW
open PySem PySem.Spec TL
open L2 (atI ixN)
noncomputable def LL1 : Sv :=
  (sIf (tB' (e2 (gEq false) (cF 2 f_law_draw (aCons (eVar 0) (aCons (eK (.int 15)) aNil))) (eK (.int 0)))) (sRet (eTup (aCons (cF 2 f_law_pick (aCons (eVar 0) (aCons (eTup (aCons (eK (.str "true")) (aCons (eK (.str "false")) aNil))) aNil))) aNil))) sNext)
noncomputable def LL2 : Sv :=
  (sAsg (cF 2 f_law_pick (aCons (eVar 0) (aCons (eTup (aCons (eK (.str "below")) (aCons (eK (.str "at")) (aCons (eK (.str "above")) (aCons (eK (.str "not below")) (aCons (eK (.str "not at")) (aCons (eK (.str "not above")) aNil))))))) aNil))) (gNm 2))
noncomputable def LL3 : Sv :=
  (sRet (eTup (aCons (eVar 2) (aCons (cF 2 f_law_pick (aCons (eVar 0) (aCons (eVar 1) aNil))) aNil))))
theorem LL_is : b_law_leaf = sSeq LL1 (sSeq LL2 (LL3)) := rfl
noncomputable def MD1 : Sv :=
  (sIf (tB' (e2 (gCmp fun i j => decide (i < j)) (eVar 2) (eK (.int 2)))) (sRet (cF 2 f_law_leaf (aCons (eVar 0) (aCons (eVar 1) aNil)))) sNext)
noncomputable def MD2 (rec : GF) : Sv :=
  (sPar 5 6 (aCons (cF 2 f_law_draw (aCons (eVar 0) (aCons (eK (.int 10)) aNil))) (aCons (cF 3 rec (aCons (eVar 0) (aCons (eVar 1) (aCons (e2 gSub (eVar 2) (eK (.int 1))) aNil)))) aNil)))
noncomputable def MD3 : Sv :=
  (sIf (tB' (e2 (gCmp fun i j => decide (i < j)) (eVar 5) (eK (.int 3)))) (sRet (eTup (aCons (eK (.str "not")) (aCons (eVar 6) aNil)))) sNext)
noncomputable def MD4 : Sv :=
  (sIf (tB' (e2 (gCmp fun i j => decide (i < j)) (eVar 5) (eK (.int 6)))) (sRet (eTup (aCons (cF 2 f_law_pick (aCons (eVar 0) (aCons (eTup (aCons (eK (.str "all")) (aCons (eK (.str "some")) aNil))) aNil))) (aCons (cF 2 f_law_pick (aCons (eVar 0) (aCons (eTup (aCons (eK (.str "x")) (aCons (eK (.str "y")) aNil))) aNil))) (aCons (eVar 6) aNil))))) sNext)
noncomputable def MD5 : Sv :=
  (sAsg (cF 2 f_law_pick (aCons (eVar 0) (aCons (eTup (aCons (eK (.str "both")) (aCons (eK (.str "either")) aNil))) aNil))) (gNm 3))
noncomputable def MD6 (rec : GF) : Sv :=
  (sAsg (cF 3 rec (aCons (eVar 0) (aCons (eVar 1) (aCons (en gMin (aCons (e2 gSub (eVar 2) (eK (.int 1))) (aCons (e2 gPlus (eK (.int 1)) (cF 2 f_law_draw (aCons (eVar 0) (aCons (eK (.int 2)) aNil)))) aNil))) aNil)))) (gNm 4))
noncomputable def MD7 : Sv :=
  (sRet (eIf (tB' (e2 (gEq false) (cF 2 f_law_draw (aCons (eVar 0) (aCons (eK (.int 2)) aNil))) (eK (.int 0)))) (eTup (aCons (eVar 3) (aCons (eVar 6) (aCons (eVar 4) aNil)))) (eTup (aCons (eVar 3) (aCons (eVar 4) (aCons (eVar 6) aNil))))))
theorem MD_is (rec : GF) : b_law_made rec = sSeq MD1 (sSeq (MD2 rec) (sSeq MD3 (sSeq MD4 (sSeq MD5 (sSeq (MD6 rec) (MD7)))))) := rfl
theorem run_setk {n k : Nat} {b : Sv} {ws : List Wv} {μ : Mu} {x : PyData} {c : Option Cell} (h : b (initR n ws) μ = .ok (.rt (.d x)) (μ.set k c)) : runD n b ws μ = .ok (.d x) (μ.set k c) := by
  rw [run_rt h, take_set]
/-- a choice from a cell -/
theorem t_pickR {μ : Mu} {k a m : Nat} {l c : Cell} (h : μ[k]? = some (some c)) (w : Wl m c) (ha : μ[a]? = some (some l)) (hk : a ≠ k) (hm : m < 900000000) (h0 : 0 < l.length) (h1 : l.length < 100000) :
    ∃ x c', f_law_pick [.r k, .r a] μ = .ok (.d x) (μ.set k (some c')) ∧ Wl (m + 1) c' ∧ x ∈ l := by
  obtain ⟨r, c1, d1, r0, r1, w1⟩ := t_draw (many := l.length) h w (by omega) (by omega) (by omega)
  obtain ⟨x, d2, hx⟩ := at_nat r0 r1
  have hl := sqd_len (w := .r a) (.inl (x_dr ha))
  have ha2 : (μ.set k (some c1))[a]? = some (some l) := by rw [List.getElem?_set_ne (fun e => hk e.symm)]; exact ha
  exact ⟨x, c1, by simp [f_law_pick, b_law_pick, runD, initR, hl, d1, v_ixr ha2, d2], w1, hx⟩
/-- where the polynomials are -/
structure Src (μ : Mu) (k a : Nat) (Ls : List Pol) : Prop where
  ne : a ≠ k
  at_ : μ[a]? = some (some (Ls.map Pl))
  pos : 0 < Ls.length
  few : Ls.length ≤ 8
theorem Src.set {μ : Mu} {k a : Nat} {Ls : List Pol} {c : Option Cell} (s : Src μ k a Ls) : Src (μ.set k c) k a Ls := ⟨s.ne, by rw [List.getElem?_set_ne (fun e => s.ne e.symm)]; exact s.at_, s.pos, s.few⟩
theorem word_in {x : PyData} {ws : List Str} {k : WK} (h : x ∈ ws.map PyData.str) (hk : (ws.all fun w => decide (wk w = k)) = true) : ∃ w, x = .str w ∧ wk w = k := by
  obtain ⟨w, hw, rfl⟩ := List.mem_map.mp h
  exact ⟨w, rfl, of_decide_eq_true (List.all_eq_true.mp hk w hw)⟩
theorem t_leaf {μ : Mu} {k a m : Nat} {c : Cell} {Ls : List Pol} (h : μ[k]? = some (some c)) (w : Wl m c) (q : Src μ k a Ls) (hm : m < 500000000) :
    ∃ (s : Say) (c' : Cell), f_law_leaf [.r k, .r a] μ = .ok (.d s.toD) (μ.set k (some c')) ∧ Wl (m + 3) c' ∧ s.WF (Lq Ls) ∧ s.dep = 1 ∧ s.sz ≤ 52 := by
  obtain ⟨r, c1, d1, r0, r1, w1⟩ := t_draw (many := 15) h w (by omega) (by omega) (by omega)
  have h1 : (μ.set k (some c1))[k]? = some (some c1) := get_set h
  by_cases hr : r = 0
  · subst hr
    obtain ⟨x, c2, d2, w2, hx⟩ := t_pick (xs := [.str "true", .str "false"]) h1 w1 (by omega) (by decide) (by decide)
    rw [List.set_set] at d2
    obtain ⟨v, rfl, hv⟩ := word_in (ws := ["true", "false"]) (k := .tf) hx (by decide +kernel)
    have s1 : LL1 [some (.r k), some (.r a), none] μ = .ok (.rt (.d (.tuple [.str v]))) (μ.set k (some c2)) := by simp [LL1, d1, d2]
    refine ⟨.tf v, c2, ?_, w2.up (by omega), hv, rfl, by show 21 ≤ 52; decide⟩
    unfold f_law_leaf
    refine run_setk ?_
    rw [LL_is]
    exact seq_rt s1
  · have s1 : LL1 [some (.r k), some (.r a), none] μ = .ok (.nx [some (.r k), some (.r a), none]) (μ.set k (some c1)) := by simp [LL1, d1, hr]
    obtain ⟨x, c2, d2, w2, hx⟩ := t_pick (xs := [.str "below", .str "at", .str "above", .str "not below", .str "not at", .str "not above"]) h1 w1 (by omega) (by decide) (by decide)
    rw [List.set_set] at d2
    obtain ⟨v, rfl, hv⟩ := word_in (ws := ["below", "at", "above", "not below", "not at", "not above"]) (k := .rel) hx (by decide +kernel)
    have s2 : LL2 [some (.r k), some (.r a), none] (μ.set k (some c1)) = .ok (.nx [some (.r k), some (.r a), some (.d (.str v))]) (μ.set k (some c2)) := by simp [LL2, d2]
    have q2 : Src (μ.set k (some c2)) k a Ls := q.set
    have hp := q.pos
    have hf := q.few
    obtain ⟨y, c3, d3, w3, hy⟩ := t_pickR (get_set (c' := some c2) h) w2 q2.at_ q.ne (by omega) (by rw [List.length_map]; omega) (by rw [List.length_map]; omega)
    rw [List.set_set] at d3
    have s3 : LL3 [some (.r k), some (.r a), some (.d (.str v))] (μ.set k (some c2)) = .ok (.rt (.d (.tuple [.str v, y]))) (μ.set k (some c3)) := by simp [LL3, d3]
    obtain ⟨P, hP, rfl⟩ := List.mem_map.mp hy
    refine ⟨.rel v (Pl P), c3, ?_, w3, ⟨hv, P, hP, rfl⟩, rfl, Nat.le_refl _⟩
    unfold f_law_leaf
    refine run_setk ?_
    rw [LL_is]
    show sSeq LL1 _ [some (.r k), some (.r a), none] μ = _
    rw [seq_ok s1, seq_ok s2, s3]
    rfl
theorem t_made {Ls : List Pol} {k a : Nat} : ∀ (f dd : Nat) {m : Nat} {μ : Mu} {c : Cell}, dd < f → dd ≤ 12 → μ[k]? = some (some c) → Wl m c → Src μ k a Ls → m + 16 * 2 ^ dd ≤ 400000000 →
    ∃ (s : Say) (c' : Cell), f_law_made f [.r k, .r a, .d (.int (dd : Int))] μ = .ok (.d s.toD) (μ.set k (some c')) ∧ Wl (m + 16 * 2 ^ dd - 8) c' ∧ s.WF (Lq Ls) ∧ s.dep ≤ max dd 1 ∧ s.sz ≤ 150 * dd + 52 ∧ (dd ≤ 2 → s.sz ≤ 127) ∧ (dd ≤ 1 → s.sz ≤ 52) := by
  intro f
  induction f with
  | zero => intro dd m μ c h; omega
  | succ f ih =>
    intro dd m μ c hf h12 h w q hm
    have hp : 0 < 2 ^ dd := Nat.pow_pos (by decide)
    have fin : ∀ {s : Say} {c' : Cell} {m' : Nat}, b_law_made (f_law_made f) [some (.r k), some (.r a), some (.d (.int (dd : Int))), none, none, none, none] μ = .ok (.rt (.d s.toD)) (μ.set k (some c')) → Wl m' c' → m' ≤ m + 16 * 2 ^ dd - 8 → s.WF (Lq Ls) → s.dep ≤ max dd 1 → s.sz ≤ 150 * dd + 52 → (dd ≤ 2 → s.sz ≤ 127) → (dd ≤ 1 → s.sz ≤ 52) →
        ∃ (s : Say) (c' : Cell), f_law_made (f + 1) [.r k, .r a, .d (.int (dd : Int))] μ = .ok (.d s.toD) (μ.set k (some c')) ∧ Wl (m + 16 * 2 ^ dd - 8) c' ∧ s.WF (Lq Ls) ∧ s.dep ≤ max dd 1 ∧ s.sz ≤ 150 * dd + 52 ∧ (dd ≤ 2 → s.sz ≤ 127) ∧ (dd ≤ 1 → s.sz ≤ 52) := fun {s c' m'} e w' hm' a1 a2 a3 a4 a5 =>
      ⟨s, c', by
        show runD 7 (b_law_made (f_law_made f)) _ μ = _
        exact run_setk e, w'.up hm', a1, a2, a3, a4, a5⟩
    rw [MD_is] at fin
    by_cases hd2 : dd < 2
    · obtain ⟨s, c', e, w', a1, a2, a3⟩ := t_leaf h w q (by omega)
      have hd2' : (dd : Int) < 2 := by omega
      have h1 : MD1 [some (.r k), some (.r a), some (.d (.int (dd : Int))), none, none, none, none] μ = .ok (.rt (.d s.toD)) (μ.set k (some c')) := by simp [MD1, hd2', e]
      exact fin (seq_rt h1) w' (by omega) a1 (by omega) (by omega) (fun _ => by omega) (fun _ => a3)
    · obtain ⟨e, rfl⟩ : ∃ e, dd = e + 1 := ⟨dd - 1, by omega⟩
      have hd2' : ¬ ((e : Int) + 1 < 2) := by omega
      have hpow : 2 ^ (e + 1) = 2 * 2 ^ e := by rw [Nat.pow_succ]; omega
      have hpe : 0 < 2 ^ e := Nat.pow_pos (by decide)
      have h1 : MD1 [some (.r k), some (.r a), some (.d (.int ((e + 1 : Nat) : Int))), none, none, none, none] μ = .ok (.nx [some (.r k), some (.r a), some (.d (.int ((e + 1 : Nat) : Int))), none, none, none, none]) μ := by simp [MD1, hd2']
      obtain ⟨kind, c1, d1, k0, k1, w1⟩ := t_draw (many := 10) h w (by omega) (by omega) (by omega)
      have g1 : (μ.set k (some c1))[k]? = some (some c1) := get_set h
      obtain ⟨s, c2, d2, w2, a1, a2, a3, a4, a5⟩ := ih e (by omega) (by omega) g1 w1 q.set (by omega)
      rw [List.set_set] at d2
      have g2 : (μ.set k (some c2))[k]? = some (some c2) := get_set h
      have h2 : MD2 (f_law_made f) [some (.r k), some (.r a), some (.d (.int ((e + 1 : Nat) : Int))), none, none, none, none] μ = .ok (.nx [some (.r k), some (.r a), some (.d (.int ((e + 1 : Nat) : Int))), none, none, some (.d (.int kind)), some (.d s.toD)]) (μ.set k (some c2)) := by simp [MD2, d1, d2]
      rw [seq_ok h1, seq_ok h2] at fin
      by_cases hA : kind < 3
      · have h3 : MD3 [some (.r k), some (.r a), some (.d (.int ((e + 1 : Nat) : Int))), none, none, some (.d (.int kind)), some (.d s.toD)] (μ.set k (some c2)) = .ok (.rt (.d (Say.no s).toD)) (μ.set k (some c2)) := by simp [MD3, hA, Say.toD]
        exact fin (seq_rt h3) w2 (by omega) a1 (by show s.dep + 1 ≤ _; omega) (by show s.sz + 22 ≤ _; omega) (fun _ => by show s.sz + 22 ≤ _; have := a5 (by omega); omega) (fun _ => by omega)
      · have h3 : MD3 [some (.r k), some (.r a), some (.d (.int ((e + 1 : Nat) : Int))), none, none, some (.d (.int kind)), some (.d s.toD)] (μ.set k (some c2)) = .ok (.nx [some (.r k), some (.r a), some (.d (.int ((e + 1 : Nat) : Int))), none, none, some (.d (.int kind)), some (.d s.toD)]) (μ.set k (some c2)) := by simp [MD3, hA]
        rw [seq_ok h3] at fin
        by_cases hB : kind < 6
        · obtain ⟨y, c3, d3, w3, hy⟩ := t_pick (xs := [.str "all", .str "some"]) g2 w2 (by omega) (by decide) (by decide)
          rw [List.set_set] at d3
          obtain ⟨z, c4, d4, w4, hz⟩ := t_pick (xs := [.str "x", .str "y"]) (get_set (c' := some c3) h) w3 (by omega) (by decide) (by decide)
          rw [List.set_set] at d4
          obtain ⟨v, rfl, hv⟩ := word_in (ws := ["all", "some"]) (k := .qu) hy (by decide +kernel)
          have hz2 : ∃ l, z = .str l ∧ isXY l = true := by
            simp only [List.mem_cons, List.not_mem_nil, or_false] at hz
            rcases hz with rfl | rfl
            · exact ⟨_, rfl, by decide +kernel⟩
            · exact ⟨_, rfl, by decide +kernel⟩
          obtain ⟨l, rfl, hl⟩ := hz2
          have h4 : MD4 [some (.r k), some (.r a), some (.d (.int ((e + 1 : Nat) : Int))), none, none, some (.d (.int kind)), some (.d s.toD)] (μ.set k (some c2)) = .ok (.rt (.d (Say.qu v l s).toD)) (μ.set k (some c4)) := by simp [MD4, hB, d3, d4, Say.toD]
          exact fin (seq_rt h4) w4 (by omega) ⟨hv, hl, a1⟩ (by show s.dep + 1 ≤ _; omega) (by show s.sz + 43 ≤ _; omega) (fun _ => by show s.sz + 43 ≤ _; have := a5 (by omega); omega) (fun _ => by omega)
        · have h4 : MD4 [some (.r k), some (.r a), some (.d (.int ((e + 1 : Nat) : Int))), none, none, some (.d (.int kind)), some (.d s.toD)] (μ.set k (some c2)) = .ok (.nx [some (.r k), some (.r a), some (.d (.int ((e + 1 : Nat) : Int))), none, none, some (.d (.int kind)), some (.d s.toD)]) (μ.set k (some c2)) := by simp [MD4, hB]
          obtain ⟨y, c3, d3, w3, hy⟩ := t_pick (xs := [.str "both", .str "either"]) g2 w2 (by omega) (by decide) (by decide)
          rw [List.set_set] at d3
          obtain ⟨v, rfl, hv⟩ := word_in (ws := ["both", "either"]) (k := .bin) hy (by decide +kernel)
          have h5 : MD5 [some (.r k), some (.r a), some (.d (.int ((e + 1 : Nat) : Int))), none, none, some (.d (.int kind)), some (.d s.toD)] (μ.set k (some c2)) = .ok (.nx [some (.r k), some (.r a), some (.d (.int ((e + 1 : Nat) : Int))), some (.d (.str v)), none, some (.d (.int kind)), some (.d s.toD)]) (μ.set k (some c3)) := by simp [MD5, d3]
          rw [seq_ok h4, seq_ok h5] at fin
          obtain ⟨r, c4, d4, r0, r1, w4⟩ := t_draw (many := 2) (get_set (c' := some c3) h) w3 (by omega) (by omega) (by omega)
          rw [List.set_set] at d4
          have arg : ∃ g : Nat, gMin [.d (.int (e : Int)), .d (.int (1 + r))] (μ.set k (some c4)) = .ok (.d (.int (g : Int))) (μ.set k (some c4)) ∧ g ≤ e ∧ g ≤ 2 := by
            by_cases hr : 1 + r < (e : Int)
            · refine ⟨(1 + r).toNat, ?_, by omega, by omega⟩
              rw [show (((1 + r).toNat : Nat) : Int) = 1 + r by omega]
              simp [gMin, hr]
            · exact ⟨e, by simp [gMin, hr], Nat.le_refl _, by omega⟩
          obtain ⟨g, d5, hg, hg2⟩ := arg
          have hge : 2 ^ g ≤ 2 ^ e := Nat.pow_le_pow_right (by decide) hg
          have hpg : 0 < 2 ^ g := Nat.pow_pos (by decide)
          obtain ⟨z, c5, d6, w5, b1, b2, b3, b4, b5⟩ := ih g (by omega) (by omega) (get_set (c' := some c4) h) w4 q.set (by omega)
          rw [List.set_set] at d6
          have h6 : MD6 (f_law_made f) [some (.r k), some (.r a), some (.d (.int ((e + 1 : Nat) : Int))), some (.d (.str v)), none, some (.d (.int kind)), some (.d s.toD)] (μ.set k (some c3)) = .ok (.nx [some (.r k), some (.r a), some (.d (.int ((e + 1 : Nat) : Int))), some (.d (.str v)), some (.d z.toD), some (.d (.int kind)), some (.d s.toD)]) (μ.set k (some c5)) := by
            simp [MD6, d4, d5, d6]
          obtain ⟨r2, c6, d7, _, _, w6⟩ := t_draw (many := 2) (get_set (c' := some c5) h) w5 (by omega) (by omega) (by omega)
          rw [List.set_set] at d7
          rw [seq_ok h6] at fin
          have hz127 := b4 (by omega)
          by_cases hr : r2 = 0
          · subst hr
            have h8 : MD7 [some (.r k), some (.r a), some (.d (.int ((e + 1 : Nat) : Int))), some (.d (.str v)), some (.d z.toD), some (.d (.int kind)), some (.d s.toD)] (μ.set k (some c5)) = .ok (.rt (.d (Say.bin v s z).toD)) (μ.set k (some c6)) := by simp [MD7, d7, Say.toD]
            exact fin h8 w6 (by omega) ⟨hv, a1, b1⟩ (by show max s.dep z.dep + 1 ≤ _; omega) (by show s.sz + z.sz + 23 ≤ _; omega) (fun _ => by show s.sz + z.sz + 23 ≤ _; have := a5 (by omega); have := b5 (by omega); omega) (fun _ => by omega)
          · have h8 : MD7 [some (.r k), some (.r a), some (.d (.int ((e + 1 : Nat) : Int))), some (.d (.str v)), some (.d z.toD), some (.d (.int kind)), some (.d s.toD)] (μ.set k (some c5)) = .ok (.rt (.d (Say.bin v z s).toD)) (μ.set k (some c6)) := by simp [MD7, d7, hr, Say.toD]
            exact fin h8 w6 (by omega) ⟨hv, b1, a1⟩ (by show max z.dep s.dep + 1 ≤ _; omega) (by show z.sz + s.sz + 23 ≤ _; omega) (fun _ => by show z.sz + s.sz + 23 ≤ _; have := a5 (by omega); have := b5 (by omega); omega) (fun _ => by omega)
end LW
namespace LW
open PySem PySem.Spec TL
open L2 (atI ixN)
theorem t_whole_i {i : Int} {μ : Mu} : f_is_whole [.d (.int i)] μ = .ok (.d (.bool true)) μ := t_whole
end LW
namespace LW
open PySem PySem.Spec TL
open L2 (atI ixN)
theorem t_check_fraction {μ : Mu} {q : Rat} : f_check_fraction [.d (Fq q)] μ = .ok (.d .none) μ := by
  have lc : lLc (iAny (eVar 0)) (gNm 2) bYes (cF 1 f_is_whole (aCons (eVar 2) aNil)) [2] [some (.d (Fq q)), some (.d (.int 2)), none] μ = .ok [.bool true, .bool true] μ := by
    have := lc_of (f := PyData.int) (g := fun _ => .bool true) (i := 2) (e := cF 1 f_is_whole (aCons (eVar 2) aNil)) (ρ := [some (.d (Fq q)), some (.d (.int 2)), none]) (it := iAny (eVar 0)) (xs := [q.num, (q.den : Int)]) (μ := μ) (μ1 := μ) rfl (by simp) fun x hx => by simp [t_whole_i]
    exact this
  have ga : gAll [.d (.list [.bool true, .bool true])] μ = .ok (.d (.bool true)) μ := rfl
  rw [show Fq q = .tuple [.int q.num, .int (q.den : Int)] from rfl] at lc ⊢
  have aw : f_are_wholes [.d (.tuple [.int q.num, .int (q.den : Int)]), .d (.int 2)] μ = .ok (.d (.bool true)) μ := by
    simp [f_are_wholes, b_are_wholes, runD, initR, kinds, subTy, tyName, lc, ga]
  have g2 : gGcd [.d (.int q.num), .d (.int (q.den : Int))] μ = .ok (.d (.int 1)) μ := by
    show Out.ok (wI ((Nat.gcd q.num.natAbs ((q.den : Int)).natAbs : Nat) : Int)) μ = _
    have : Nat.gcd q.num.natAbs ((q.den : Int)).natAbs = 1 := by
      rw [Int.natAbs_natCast]
      exact q.reduced
    rw [this] <;> rfl
  have hp := den_pos q
  have ir : f_is_ratio [.d (.tuple [.int q.num, .int (q.den : Int)])] μ = .ok (.d (.bool true)) μ := by
    simp [f_is_ratio, b_is_ratio, runD, initR, aw, g2, q.den_pos]
  simp [f_check_fraction, b_check_fraction, runD, initR, ir]
end LW
namespace LW
open PySem PySem.Spec TL
open L2 (atI ixN)
noncomputable def RG1 : Sv :=
  (sAsg (eNew (lDisp aNil)) (gNm 1))
noncomputable def RG2 : Sv :=
  (sFor (iR1 (aCons (cF 2 f_law_pick (aCons (eVar 0) (aCons (eTup (aCons (eK (.int 2)) (aCons (eK (.int 1)) (aCons (eK (.int 3)) (aCons (eK (.int 8)) aNil))))) aNil))) aNil)) (gNm 2) (sExpr (eMeth1 gApp (eVar 1) (aCons (cF 1 f_law_poly (aCons (eVar 0) aNil)) aNil))))
noncomputable def RG3 : Sv :=
  (sPar 7 8 (aCons (cF 3 (f_law_made 14) (aCons (eVar 0) (aCons (eVar 1) (aCons (cF 2 f_law_pick (aCons (eVar 0) (aCons (eTup (aCons (eK (.int 3)) (aCons (eK (.int 1)) (aCons (eK (.int 4)) (aCons (eK (.int 6)) (aCons (eK (.int 2)) (aCons (eK (.int 10)) (aCons (eK (.int 5)) (aCons (eK (.int 8)) aNil))))))))) aNil))) aNil)))) (aCons (cF 2 f_law_pick (aCons (eVar 0) (aCons (eTup (aCons (eK (.str "x")) (aCons (eK (.str "y")) aNil))) aNil))) aNil)))
noncomputable def RG4 : Sv :=
  (sAsg (cF 2 f_law_draw (aCons (eVar 0) (aCons (eK (.int 8)) aNil))) (gNm 3))
noncomputable def RG5 : Sv :=
  (sAsg (eIf (tB' (e2 (gCmp fun i j => decide (j < i)) (eVar 3) (eK (.int 0)))) (e2 gSub (cF 2 f_law_draw (aCons (eVar 0) (aCons (eK (.int 9)) aNil))) (eK (.int 4))) (e2 gSub (cF 2 f_law_draw (aCons (eVar 0) (aCons (eK (.int 4000003)) aNil))) (eK (.int 2000001)))) (gNm 4))
noncomputable def RG6 : Sv :=
  (sPar 9 10 (aCons (cF 2 f_law_lean (aCons (eVar 4) (aCons (e2 gPlus (eK (.int 1)) (cF 2 f_law_draw (aCons (eVar 0) (aCons (eIf (tB' (e2 (gCmp fun i j => decide (i < j)) (eVar 3) (eK (.int 7)))) (eK (.int 3)) (eK (.int 1000003))) aNil)))) aNil))) (aCons (en gRepr (aCons (eVar 7) aNil)) aNil)))
noncomputable def RG7 : Sv :=
  (sAsg (cF 1 f_exchanged (aCons (eVar 7) aNil)) (gNm 5))
noncomputable def RG8 : Sv :=
  (sIf (bOr (tB' (e2 (gEq true) (en gRepr (aCons (eVar 5) aNil)) (en gRepr (aCons (cF 1 (f_law_swapped 24) (aCons (eVar 7) aNil)) aNil)))) (tB' (e2 (gEq true) (en gRepr (aCons (cF 1 f_exchanged (aCons (eVar 5) aNil)) aNil)) (eVar 10)))) (sRet (eK (.bool false))) sNext)
noncomputable def RG9 : Sv :=
  (sIf (tB' (e2 (gEq true) (en gRepr (aCons (cF 3 f_put_for (aCons (eVar 7) (aCons (eVar 8) (aCons (eVar 9) aNil)))) aNil)) (en gRepr (aCons (cF 3 (f_law_filled 24) (aCons (eVar 7) (aCons (eVar 8) (aCons (eVar 9) aNil)))) aNil)))) (sRet (eK (.bool false))) sNext)
noncomputable def RG10 : Sv :=
  (sAsg (cF 1 f_pushed (aCons (eVar 7) aNil)) (gNm 6))
noncomputable def RG11 : Sv :=
  (sIf (bOr (tB' (e2 (gEq true) (en gRepr (aCons (eVar 6) aNil)) (en gRepr (aCons (cF 2 (f_law_led 24) (aCons (eVar 7) (aCons (eK (.bool false)) aNil))) aNil)))) (tB' (e2 (gCmp fun i j => decide (j < i)) (cF 1 f_depth_of (aCons (eVar 6) aNil)) (cF 1 f_depth_of (aCons (eVar 7) aNil))))) (sRet (eK (.bool false))) sNext)
noncomputable def RG12 : Sv :=
  (sRet (eAnd (e2 (gEq false) (en gRepr (aCons (eVar 7) aNil)) (eVar 10)) (eOr (e2 (gEq false) (cF 1 f_depth_of (aCons (eVar 7) aNil)) (eK (.int 10))) (e2 (gEq false) (en gRepr (aCons (cF 1 f_pushed (aCons (eTup (aCons (eK (.str "not")) (aCons (eVar 7) aNil))) aNil)) aNil)) (en gRepr (aCons (cF 2 (f_law_led 24) (aCons (eVar 7) (aCons (eK (.bool true)) aNil))) aNil))))))
theorem RG_is : b_law_right = sSeq RG1 (sSeq RG2 (sSeq RG3 (sSeq RG4 (sSeq RG5 (sSeq RG6 (sSeq RG7 (sSeq RG8 (sSeq RG9 (sSeq RG10 (sSeq RG11 (RG12))))))))))) := rfl
/-- a drawn saying -/
structure Gd (Ls : List Pol) (s : Say) : Prop where
  ok : ∀ P ∈ Ls, POk P
  few : Ls.length ≤ 8
  w : s.WF (Lq Ls)
  dep : s.dep ≤ 10
theorem Gd.low {Ls : List Pol} {s : Say} (g : Gd Ls s) : s.WF (LowD 8) := g.w.mono fun _ h => lq_low g.ok h
theorem Gd.dz {Ls : List Pol} {s : Say} (g : Gd Ls s) : Dz 8 12 s.toD := (dz_say g.ok g.w).up (Nat.le_refl _) (by have := g.dep; omega)
theorem Gd.pls {Ls : List Pol} {s : Say} (g : Gd Ls s) : s.pls.length ≤ 8 := pls_few g.ok g.w g.few
theorem Gd.check {Ls : List Pol} {s : Say} {μ : Mu} (g : Gd Ls s) : f_check_saying [.d s.toD] μ = .ok (.d .none) μ := t_check_saying (by decide) g.dz g.low g.dep g.pls
theorem Gd.depth {Ls : List Pol} {s : Say} {μ : Mu} (g : Gd Ls s) : f_depth_of [.d s.toD] μ = .ok (.d (.int (s.dep : Int))) μ := t_depth_of (by decide) g.dz g.low g.dep g.pls
theorem Gd.swap {Ls : List Pol} {s : Say} (g : Gd Ls s) : Gd (Ls.map exch) s.swap := ⟨fun P hP => by
  obtain ⟨Q, hQ, rfl⟩ := List.mem_map.mp hP
  exact (g.ok Q hQ).exch, by rw [List.length_map]; exact g.few, swap_WF g.w, by rw [swap_dep]; exact g.dep⟩
theorem Gd.push {Ls : List Pol} {s : Say} (g : Gd Ls s) (n : Bool) : Gd Ls (s.push n) := ⟨g.ok, g.few, push_WF g.w, Nat.le_trans (push_dep s n) g.dep⟩
theorem Gd.exchanged {Ls : List Pol} {s : Say} {μ : Mu} (g : Gd Ls s) : f_exchanged [.d s.toD] μ = .ok (.d s.swap.toD) μ := by
  have c := g.check (μ := μ)
  have e := t_exsay (μ := μ) g.ok 24 g.w (by have := g.dep; omega)
  simp [f_exchanged, b_exchanged, runD, initR, c, e]
theorem Gd.pushed {Ls : List Pol} {s : Say} {μ : Mu} (g : Gd Ls s) : f_pushed [.d s.toD] μ = .ok (.d (s.push false).toD) μ := by
  have c := g.check (μ := μ)
  have e := t_pushed_by (n := false) (μ := μ) 24 g.w (by have := g.dep; omega)
  simp [f_pushed, b_pushed, runD, initR, c, e]
theorem Gd.put {Ls : List Pol} {s : Say} {μ : Mu} {t l : Int} {lt : Str} (g : Gd Ls s) (ho : PutOk t l) (hlt : isXY lt = true) (hq : ∃ q : Rat, Fd t l = Fq q) : f_put_for [.d s.toD, .d (.str lt), .d (Fd t l)] μ = .ok (.d (s.fill t l lt).toD) μ := by
  have c := g.check (μ := μ)
  have e := t_put_by (μ := μ) g.ok ho hlt 24 g.w (by have := g.dep; omega)
  have cl := t_letter (n := 8) (d := 0) (x := .str lt) (μ := μ) (dz_str.mpr (let_can hlt))
  have cl2 : f_check_letter [.d (.str lt)] μ = .ok (.d .none) μ := by
    have hb : letB (.str lt) = true := hlt
    rw [hb] at cl
    simp [f_check_letter, b_check_letter, runD, initR, cl]
  have cf : f_check_fraction [.d (Fd t l)] μ = .ok (.d .none) μ := by
    obtain ⟨q, hq⟩ := hq
    rw [hq]
    exact t_check_fraction
  generalize Fd t l = F at *
  simp [f_put_for, b_put_for, runD, initR, c, e, cl2, cf]
theorem Gd.shb {Ls : List Pol} {s : Say} (g : Gd Ls s) : Shb s.sz 20 s.toD := (Shb.say (g.low.mono fun _ h => Shb.low h)).up (Nat.le_refl _) (by have := g.dep; omega)
theorem sc_bd {t l : Int} {a : List Int} (ho : PutOk t l) (ha : a.length ≤ 6) (hb : BM (2 ^ 100) a) : (sc t l a).natAbs ≤ 2 ^ 300 := Nat.le_trans (hs_bd ho.t ho.l hb).1 (Nat.pow_le_pow_right (by decide) (by omega))
theorem put_shb {t l : Int} {lt : Str} {P : Pol} (ho : PutOk t l) (h : POk P) : Shb 30 2 (Pl (putP t l lt P)) := by
  unfold putP
  have hw : wid P ≤ 5 := wid_most h.n
  split
  · have hb : PB (2 ^ 300) (putX t l P) := fun r hr x hx => by
      obtain ⟨v, hv, rfl⟩ := List.mem_map.mp hr
      obtain ⟨q, hq, rfl⟩ := List.mem_map.mp (trim_mem hv)
      unfold one at hx
      split at hx
      · cases hx
      · rw [List.mem_singleton.mp hx]
        exact sc_bd ho (by rw [pad_len' (wid_le hq)]; omega) (pad_BM (h.b q hq))
    exact (Shb.pol hb (Nat.le_refl _) (by decide) (putX_PL) (Nat.le_trans putX_len h.l)).up (by decide) (Nat.le_refl _)
  · have hr : BM (2 ^ 300) (putR t l P) := fun x hx => by
      obtain ⟨j, _, rfl⟩ := List.mem_map.mp (trim_mem hx)
      exact sc_bd ho (by unfold col; rw [List.length_map]; have := h.l; omega) (col_BM h.b j)
    have hl : (putR t l P).length ≤ 5 := Nat.le_trans (trim_len _) (by rw [List.length_map, List.length_range]; exact hw)
    have hb : PB (2 ^ 300) (rowP1 (putR t l P)) := fun r hr' => by
      unfold rowP1 at hr'
      split at hr'
      · cases hr'
      · rw [List.mem_singleton.mp hr']; exact hr
    have hp : PL 5 (rowP1 (putR t l P)) := fun r hr' => by
      unfold rowP1 at hr'
      split at hr'
      · cases hr'
      · rw [List.mem_singleton.mp hr']; exact hl
    have h1 : (rowP1 (putR t l P)).length ≤ 1 := by
      unfold rowP1
      split <;> simp
    exact (Shb.pol hb (Nat.le_refl _) (by decide) hp h1).up (by decide) (Nat.le_refl _)
theorem fill_WF {Ls : List Pol} {t l : Int} {lt : Str} (hL : ∀ P ∈ Ls, POk P) (ho : PutOk t l) : ∀ {s : Say}, s.WF (Lq Ls) → (s.fill t l lt).WF fun x => Shb 30 2 x
  | .tf _, w => w
  | .rel _ x, w => by
    obtain ⟨h1, P, hP, rfl⟩ := w
    refine ⟨h1, ?_⟩
    show Shb 30 2 (Pl (putP t l lt (polOf (Pl P))))
    rw [polOf_Pl]
    exact put_shb ho (hL P hP)
  | .no a, w => fill_WF hL ho (s := a) w
  | .bin _ a b, w => ⟨w.1, fill_WF hL ho (s := a) w.2.1, fill_WF hL ho (s := b) w.2.2⟩
  | .qu v m a, w => by
    show (if m = lt then Say.qu v m a else Say.qu v m (a.fill t l lt)).WF _
    split
    · exact ⟨w.1, w.2.1, w.2.2.mono fun _ h => Shb.low (lq_low hL h)⟩
    · exact ⟨w.1, w.2.1, fill_WF hL ho (s := a) w.2.2⟩
theorem pols_list : ∀ {l : Cell}, (∀ y ∈ l, ∃ P, y = Pl P ∧ POk P) → ∃ Ls : List Pol, l = Ls.map Pl ∧ ∀ P ∈ Ls, POk P
  | [], _ => ⟨[], rfl, fun P hP => by cases hP⟩
  | y :: l, h => by
    obtain ⟨P, rfl, hP⟩ := h y List.mem_cons_self
    obtain ⟨Ls, rfl, hL⟩ := pols_list (l := l) fun z hz => h z (List.mem_cons_of_mem _ hz)
    refine ⟨P :: Ls, rfl, fun Q hQ => ?_⟩
    rcases List.mem_cons.mp hQ with rfl | hQ
    · exact hP
    · exact hL Q hQ
theorem rg_end {S : Mu} {Ls : List Pol} {s : Say} {t l : Int} {lt : Str} {o0 o1 o2 o3 o4 : Option Wv} (g : Gd Ls s) (hz : s.sz ≤ 1552) (ho : PutOk t l) (hlt : isXY lt = true) (hq : ∃ q : Rat, Fd t l = Fq q) :
    sSeq RG7 (sSeq RG8 (sSeq RG9 (sSeq RG10 (sSeq RG11 RG12)))) [o0, o1, o2, o3, o4, none, none, some (.d s.toD), some (.d (.str lt)), some (.d (Fd t l)), some (.d (.str s.toD.shown))] S = .ok (.rt (.d (.bool true))) S := by
  have r1 : gRepr [.d s.toD] S = .ok (.d (.str s.toD.shown)) S := Shb.repr g.shb (by omega) (by decide)
  have r2 : gRepr [.d s.swap.toD] S = .ok (.d (.str s.swap.toD.shown)) S := Shb.repr g.swap.shb (by rw [swap_sz]; omega) (by decide)
  have r3 : gRepr [.d (s.fill t l lt).toD] S = .ok (.d (.str (s.fill t l lt).toD.shown)) S := Shb.repr (Shb.say (fill_WF g.ok ho g.w)) (by rw [fill_sz]; omega) (by rw [fill_dep]; have := g.dep; omega)
  have r4 : ∀ n, gRepr [.d (s.push n).toD] S = .ok (.d (.str (s.push n).toD.shown)) S := fun n => Shb.repr (g.push n).shb (Nat.le_trans (push_sz s n) (by omega)) (by decide)
  have d24 : s.dep ≤ 24 := by have := g.dep; omega
  have a1 := g.exchanged (μ := S)
  have a2 := g.swap.exchanged (μ := S)
  rw [swap_swap g.ok g.w] at a2
  have a3 := t_swapped (μ := S) g.ok 24 g.w d24
  have a4 := g.put (μ := S) ho hlt hq
  have a5 := t_filled (μ := S) g.ok ho hlt 24 g.w d24
  have a6 := g.pushed (μ := S)
  have a7 := t_led (n := false) (μ := S) 24 g.w d24
  have a8 := t_led (n := true) (μ := S) 24 g.w d24
  have a9 := g.depth (μ := S)
  have a10 := (g.push false).depth (μ := S)
  have hpd := push_dep s false
  have hnd : ¬ ((s.dep : Int) < ((s.push false).dep : Int)) := by omega
  have a11 : s.dep ≠ 10 → f_pushed [.d (.tuple [.str "not", s.toD])] S = .ok (.d (s.push true).toD) S := fun hd => by
    have gn : Gd Ls (.no s) := ⟨g.ok, g.few, g.w, by show s.dep + 1 ≤ 10; have := g.dep; omega⟩
    exact gn.pushed
  have e4f := r4 false
  have e4t := r4 true
  generalize Fd t l = F at *
  generalize (s.fill t l lt).toD = T3 at *
  generalize (s.push false).toD = T4 at *
  generalize (s.push true).toD = T5 at *
  generalize s.swap.toD = T2 at *
  generalize s.toD = T at *
  generalize (s.push false).dep = d2 at *
  generalize s.dep = d1 at *
  have q7 : RG7 [o0, o1, o2, o3, o4, none, none, some (.d T), some (.d (.str lt)), some (.d F), some (.d (.str T.shown))] S = .ok (.nx [o0, o1, o2, o3, o4, some (.d T2), none, some (.d T), some (.d (.str lt)), some (.d F), some (.d (.str T.shown))]) S := by simp [RG7, a1]
  have q8 : RG8 [o0, o1, o2, o3, o4, some (.d T2), none, some (.d T), some (.d (.str lt)), some (.d F), some (.d (.str T.shown))] S = .ok (.nx [o0, o1, o2, o3, o4, some (.d T2), none, some (.d T), some (.d (.str lt)), some (.d F), some (.d (.str T.shown))]) S := by simp [RG8, r2, a3, a2, r1]
  have q9 : RG9 [o0, o1, o2, o3, o4, some (.d T2), none, some (.d T), some (.d (.str lt)), some (.d F), some (.d (.str T.shown))] S = .ok (.nx [o0, o1, o2, o3, o4, some (.d T2), none, some (.d T), some (.d (.str lt)), some (.d F), some (.d (.str T.shown))]) S := by simp [RG9, a4, a5, r3]
  have q10 : RG10 [o0, o1, o2, o3, o4, some (.d T2), none, some (.d T), some (.d (.str lt)), some (.d F), some (.d (.str T.shown))] S = .ok (.nx [o0, o1, o2, o3, o4, some (.d T2), some (.d T4), some (.d T), some (.d (.str lt)), some (.d F), some (.d (.str T.shown))]) S := by simp [RG10, a6]
  have q11 : RG11 [o0, o1, o2, o3, o4, some (.d T2), some (.d T4), some (.d T), some (.d (.str lt)), some (.d F), some (.d (.str T.shown))] S = .ok (.nx [o0, o1, o2, o3, o4, some (.d T2), some (.d T4), some (.d T), some (.d (.str lt)), some (.d F), some (.d (.str T.shown))]) S := by
    have hnd' : ¬ d1 < d2 := by omega
    simp [RG11, e4f, a7, a9, a10, hnd']
  rw [seq_ok q7, seq_ok q8, seq_ok q9, seq_ok q10, seq_ok q11]
  by_cases hd : d1 = 10
  · subst hd
    simp [RG12, r1, a9]
  · have hd' : ¬ ((d1 : Int) = 10) := by omega
    have b := a11 hd
    simp [RG12, r1, a9, hd', b, a8, e4t]
theorem t_right {μ : Mu} {k : Nat} {c : Cell} (h : μ[k]? = some (some c)) (w : Wl 0 c) : ∃ c', f_law_right [.r k] μ = .ok (.d (.bool true)) (μ.set k (some c')) := by
  have hk := lt_of_get h
  have ini : initR 11 [.r k] = [some (.r k), none, none, none, none, none, none, none, none, none, none] := rfl
  have s1 : RG1 [some (.r k), none, none, none, none, none, none, none, none, none, none] μ = .ok (.nx [some (.r k), some (.r μ.length), none, none, none, none, none, none, none, none, none]) (μ ++ [some []]) := by simp [RG1]
  obtain ⟨jd, c1, d1, w1, hj⟩ := t_pick (μ := μ ++ [some []]) (xs := [.int 2, .int 1, .int 3, .int 8]) (app_get h) w (by omega) (by decide) (by decide)
  rw [app_set hk] at d1
  have hj2 : ∃ j : Int, jd = .int j ∧ 1 ≤ j ∧ j ≤ 8 := by
    simp only [List.mem_cons, List.not_mem_nil, or_false] at hj
    rcases hj with rfl | rfl | rfl | rfl <;> exact ⟨_, rfl, by decide, by decide⟩
  obtain ⟨j, rfl, j1, j10⟩ := hj2
  have main := fillG (μ := μ) (k := k) (d := 200) (m := 1) (j := j.toNat) (mk := fun o => [some (.r k), some (.r μ.length), o, none, none, none, none, none, none, none, none]) (t := gNm 2) (b := sExpr (eMeth1 gApp (eVar 1) (aCons (cF 1 f_law_poly (aCons (eVar 0) aNil)) aNil))) (R := fun y => ∃ P, y = Pl P ∧ POk P) (μ1 := μ ++ [some []]) (o0 := none)
    (it := iR1 (aCons (cF 2 f_law_pick (aCons (eVar 0) (aCons (eTup (aCons (eK (.int 2)) (aCons (eK (.int 1)) (aCons (eK (.int 3)) (aCons (eK (.int 8)) aNil))))) aNil))) aNil)) (by omega) (it_r1 (j := j) (by simp [d1]) (by omega) (by omega)) w1 (fun w o μ => rfl) (fun o c n l hn w hl _ => ?_)
  · obtain ⟨o, c2, l, s2, w2, hl, hr⟩ := main
    obtain ⟨Ls, rfl, hL⟩ := pols_list hr
    rw [List.length_map] at hl
    have bk : ∀ c : Cell, (μ.set k (some c) ++ [some (Ls.map Pl)])[k]? = some (some c) := fun c => app_get (get_set h)
    have bs : ∀ c c' : Cell, (μ.set k (some c) ++ [some (Ls.map Pl)]).set k (some c') = μ.set k (some c') ++ [some (Ls.map Pl)] := fun c c' => by rw [app_set (by rw [List.length_set]; exact hk), List.set_set]
    have src : ∀ c : Cell, Src (μ.set k (some c) ++ [some (Ls.map Pl)]) k μ.length Ls := fun c => ⟨by omega, get_last, by omega, by omega⟩
    obtain ⟨dd0, c3, d3, w3, hq⟩ := t_pick (xs := [.int 3, .int 1, .int 4, .int 6, .int 2, .int 10, .int 5, .int 8]) (bk c2) w2 (by omega) (by decide) (by decide)
    rw [bs] at d3
    have hq2 : ∃ dd : Nat, dd0 = .int (dd : Int) ∧ 1 ≤ dd ∧ dd ≤ 10 := by
      simp only [List.mem_cons, List.not_mem_nil, or_false] at hq
      rcases hq with rfl | rfl | rfl | rfl | rfl | rfl | rfl | rfl
      · exact ⟨3, rfl, by decide, by decide⟩
      · exact ⟨1, rfl, by decide, by decide⟩
      · exact ⟨4, rfl, by decide, by decide⟩
      · exact ⟨6, rfl, by decide, by decide⟩
      · exact ⟨2, rfl, by decide, by decide⟩
      · exact ⟨10, rfl, by decide, by decide⟩
      · exact ⟨5, rfl, by decide, by decide⟩
      · exact ⟨8, rfl, by decide, by decide⟩
    obtain ⟨dd, rfl, dd1, dd10⟩ := hq2
    have hpow : 2 ^ dd ≤ 2 ^ 12 := Nat.pow_le_pow_right (by decide) (by omega)
    have hp12 : (2 : Nat) ^ 12 = 4096 := by decide
    obtain ⟨s, c4, d4, w4, a1, a2, a3, _, _⟩ := t_made 14 dd (by omega) (by omega) (bk c3) w3 (src c3) (by omega)
    rw [bs] at d4
    obtain ⟨z, c5, d5, w5, hz⟩ := t_pick (xs := [.str "x", .str "y"]) (bk c4) w4 (by omega) (by decide) (by decide)
    rw [bs] at d5
    have hz2 : ∃ lt, z = .str lt ∧ isXY lt = true := by
      simp only [List.mem_cons, List.not_mem_nil, or_false] at hz
      rcases hz with rfl | rfl
      · exact ⟨_, rfl, by decide +kernel⟩
      · exact ⟨_, rfl, by decide +kernel⟩
    obtain ⟨lt, rfl, hlt⟩ := hz2
    have g : Gd Ls s := ⟨hL, by omega, a1, by omega⟩
    have s3 : RG3 [some (.r k), some (.r μ.length), o, none, none, none, none, none, none, none, none] (μ.set k (some c2) ++ [some (Ls.map Pl)]) = .ok (.nx [some (.r k), some (.r μ.length), o, none, none, none, none, some (.d s.toD), some (.d (.str lt)), none, none]) (μ.set k (some c5) ++ [some (Ls.map Pl)]) := by
      generalize hB : Ls.map Pl = B at *
      simp [RG3, d3, d4, d5]
    obtain ⟨far, c6, d6, f0, f1, w6⟩ := t_draw (many := 8) (bk c5) w5 (by omega) (by omega) (by omega)
    rw [bs] at d6
    have s4 : RG4 [some (.r k), some (.r μ.length), o, none, none, none, none, some (.d s.toD), some (.d (.str lt)), none, none] (μ.set k (some c5) ++ [some (Ls.map Pl)]) = .ok (.nx [some (.r k), some (.r μ.length), o, some (.d (.int far)), none, none, none, some (.d s.toD), some (.d (.str lt)), none, none]) (μ.set k (some c6) ++ [some (Ls.map Pl)]) := by
      simp [RG4, d6]
    have s5 : ∃ (top : Int) (c7 : Cell), RG5 [some (.r k), some (.r μ.length), o, some (.d (.int far)), none, none, none, some (.d s.toD), some (.d (.str lt)), none, none] (μ.set k (some c6) ++ [some (Ls.map Pl)]) = .ok (.nx [some (.r k), some (.r μ.length), o, some (.d (.int far)), some (.d (.int top)), none, none, some (.d s.toD), some (.d (.str lt)), none, none]) (μ.set k (some c7) ++ [some (Ls.map Pl)]) ∧ top.natAbs ≤ 2 ^ 30 ∧ Wl (100000) c7 := by
      by_cases hf : 0 < far
      · obtain ⟨q, c7, d7, q0, q1, w7⟩ := t_draw (many := 9) (bk c6) w6 (by omega) (by omega) (by omega)
        rw [bs] at d7
        exact ⟨q - 4, c7, by simp [RG5, hf, d7], by omega, w7.up (by omega)⟩
      · obtain ⟨q, c7, d7, q0, q1, w7⟩ := t_draw (many := 4000003) (bk c6) w6 (by omega) (by omega) (by omega)
        rw [bs] at d7
        exact ⟨q - 2000001, c7, by simp [RG5, hf, d7], by omega, w7.up (by omega)⟩
    obtain ⟨top, c7, s5, htop, w7⟩ := s5
    have arg : ∃ many : Int, eIf (tB' (e2 (gCmp fun i j => decide (i < j)) (eVar 3) (eK (.int 7)))) (eK (.int 3)) (eK (.int 1000003)) [some (.r k), some (.r μ.length), o, some (.d (.int far)), some (.d (.int top)), none, none, some (.d s.toD), some (.d (.str lt)), none, none] (μ.set k (some c7) ++ [some (Ls.map Pl)]) = .ok (.d (.int many)) (μ.set k (some c7) ++ [some (Ls.map Pl)]) ∧ 0 < many ∧ many ≤ 1000003 := by
      by_cases hf : far < 7
      · exact ⟨3, by simp [hf], by omega, by omega⟩
      · exact ⟨1000003, by simp [hf], by omega, by omega⟩
    obtain ⟨many, ea, m0, m1⟩ := arg
    obtain ⟨low, c8, d8, l0, l1, w8⟩ := t_draw (many := many) (bk c7) w7 (by omega) m0 (by omega)
    rw [bs] at d8
    obtain ⟨t, l, d9, hfq, ht, hl9⟩ := t_law_lean (μ := μ.set k (some c8) ++ [some (Ls.map Pl)]) (a := top) (b := 1 + low) (by omega) (.of (k := 30) (by omega) (by decide))
    have ho : PutOk t l := ⟨Nat.le_trans ht htop, Nat.le_trans hl9 (by omega)⟩
    have hsz : s.sz ≤ 1552 := by omega
    have rp : gRepr [.d s.toD] (μ.set k (some c8) ++ [some (Ls.map Pl)]) = .ok (.d (.str s.toD.shown)) (μ.set k (some c8) ++ [some (Ls.map Pl)]) := Shb.repr g.shb (by omega) (by decide)
    have s6 : RG6 [some (.r k), some (.r μ.length), o, some (.d (.int far)), some (.d (.int top)), none, none, some (.d s.toD), some (.d (.str lt)), none, none] (μ.set k (some c7) ++ [some (Ls.map Pl)]) = .ok (.nx [some (.r k), some (.r μ.length), o, some (.d (.int far)), some (.d (.int top)), none, none, some (.d s.toD), some (.d (.str lt)), some (.d (Fd t l)), some (.d (.str s.toD.shown))]) (μ.set k (some c8) ++ [some (Ls.map Pl)]) := by
      unfold RG6
      generalize (eIf (tB' (e2 (gCmp fun i j => decide (i < j)) (eVar 3) (eK (.int 7)))) (eK (.int 3)) (eK (.int 1000003))) = A at ea
      generalize Fd t l = F at *
      generalize s.toD.shown = Sh at *
      simp [ea, d8, d9, rp]
    refine ⟨c8, ?_⟩
    unfold f_law_right
    refine (run_rt (x := .bool true) (μ' := μ.set k (some c8) ++ [some (Ls.map Pl)]) ?_).trans (by simp)
    rw [RG_is, ini, seq_ok s1]
    show sSeq (sFor _ _ _) _ _ _ = _
    rw [seq_ok s2, seq_ok s3, seq_ok s4, seq_ok s5, seq_ok s6]
    exact rg_end g hsz ho hlt hfq
  · have g1 : (μ.set k (some c) ++ [some l])[k]? = some (some c) := app_get (get_set h)
    have hd : n * 200 ≤ 200000 := by omega
    obtain ⟨P, c3, d3, w3, r3⟩ := t_poly g1 w (by omega)
    rw [app_set (by rw [List.length_set]; exact hk), List.set_set] at d3
    have lv : live (.r μ.length) (μ.set k (some c) ++ [some l]) = true := live_r get_last
    refine ⟨Pl P, c3, ?_, w3, P, rfl, r3⟩
    simp [x_meth, lv, d3, v_app (k := μ.length) (μ := μ.set k (some c3) ++ [some l]) get_last (by omega)]
end LW
namespace LW
open PySem PySem.Spec TL
open L2 (atI ixN)
theorem law_told : ∀ ns : List Int, ns.length ≤ 63 → (∀ z ∈ ns, Builtin.Int.intBits z ≤ 1048576) → arity 1 f_law [.d (.list (ns.map PyData.int))] [] = .ok (.d (.bool true)) [] := by
  intro ns hn _
  have hj : ∃ j : Int, en gMax (aCons (eK (.int 1)) (aCons (en gMin (aCons (en gLen (aCons (eVar 0) aNil)) (aCons (eK (.int 3)) aNil))) aNil)) [some (.d (.list (ns.map PyData.int))), none] [] = .ok (.d (.int j)) [] ∧ 0 ≤ j ∧ j ≤ 100 := by
    refine ⟨if (if (3 : Int) < ns.length then 3 else (ns.length : Int)) > 1 then (if (3 : Int) < ns.length then 3 else (ns.length : Int)) else 1, ?_, ?_⟩
    · simp [gMax, gMin]
    · split <;> split <;> omega
  obtain ⟨j, ej, j0, j1⟩ := hj
  obtain ⟨ys, μ', e, _, hl, hr⟩ := lc_run (Iv := fun _ _ => True) (R := fun _ y => y = .bool true) (it := iR1 (aCons (en gMax (aCons (eK (.int 1)) (aCons (en gMin (aCons (en gLen (aCons (eVar 0) aNil)) (aCons (eK (.int 3)) aNil))) aNil))) aNil)) (xs := intL 0 j.toNat 1) (i := 1)
    (e := cF 1 f_law_right (aCons (cF 2 f_law_well (aCons (eVar 0) (aCons (eVar 1) aNil))) aNil)) (ρ := [some (.d (.list (ns.map PyData.int))), none]) (μ := []) (μ1 := [])
    (it_r1 (by rw [x_cons, ej]; rfl) (by omega) (by omega)) trivial (by rw [intL_len]; omega) fun x hx n μ _ => by
      obtain ⟨q, hq, rfl⟩ := List.mem_map.mp hx
      have hq : q < j.toNat := List.mem_range.mp hq
      have eq : (0 : Int) + (q : Int) * 1 = (q : Int) := by omega
      rw [eq]
      obtain ⟨c, e1, w⟩ := t_well (ns := ns) (i := q) (μ := μ) (by omega)
      obtain ⟨c', e2⟩ := t_right (k := μ.length) (μ := μ ++ [some c]) (by simp) w
      exact ⟨.bool true, μ ++ [some c'], by simp [e1, e2], trivial, rfl⟩
  have hb : ys = (List.replicate ys.length true).map PyData.bool := by
    apply List.ext_getElem?
    intro k
    by_cases hk : k < ys.length
    · have hk' : k < (intL 0 j.toNat 1).length := by omega
      rw [List.getElem?_eq_getElem hk, hr k _ _ (List.getElem?_eq_getElem hk') (List.getElem?_eq_getElem hk)]
      simp [hk]
    · rw [List.getElem?_eq_none (by omega), List.getElem?_eq_none (by simp; omega)]
  have ga : gAll [.d (.list ys)] μ' = .ok (.d (.bool true)) μ' := by
    rw [hb]
    show (match boolsOf ((List.replicate ys.length true).map PyData.bool) with
      | some bs => Out.ok (wBl (bs.all id)) μ'
      | none => Out.bad) = _
    rw [boolsOf_bools]
    simp
  show f_law [.d (.list (ns.map PyData.int))] [] = _
  have q : b_law [some (.d (.list (ns.map PyData.int))), none] [] = .ok (.rt (.d (.bool true))) μ' := by
    unfold b_law
    simp [e, ga]
  show (match b_law [some (.d (.list (ns.map PyData.int))), none] [] with
      | .ok (.rt w) μ' => leave 0 w μ'
      | .ok (.nx _) μ' => leave 0 (.d .none) μ'
      | .ok (.er x us _) μ' => match allD us with
        | some c => .err x (c.map Wv.d) (μ'.take 0)
        | none => .bad
      | _ => .bad) = _
  rw [q]
  rfl
end LW
open PySem PySem.W PyProof.Rows
set_option maxHeartbeats 0 in
theorem PySem.Challenge.cw_twoletters_k44_whole_exchanged_put_and_p_holds : PySem.Challenge.rw_twoletters_k44_whole_exchanged_put_and_p.Holds := by
  w_on; o_law; k_head; (case hw => w_witness2)
  k_fill
  refine TL.walk_G (l := PySem.Challenge.rw_twoletters_k44_whole_exchanged_put_and_p) (n := 63) (k := 32) (x := "_law_script") (g := LW.f_law) rfl (by decide) rfl ⟨rfl, by decide, by decide⟩ (fun w h Y => PySem.W.kIn_of Y) ?F LW.law_told
  case F =>
    intro w mg fa h KX G hmg
    refine' LW.all_mk KX G hmg ?a0 ?l0 ?c0 ?k0 ?a1 ?l1 ?c1 ?k1 ?a2 ?l2 ?c2 ?k2 ?a3 ?l3 ?c3 ?k3 ?a4 ?l4 ?c4 ?k4 ?a5 ?l5 ?c5 ?k5 ?a6 ?l6 ?c6 ?k6 ?a7 ?l7 ?c7 ?k7 ?a8 ?l8 ?c8 ?k8 ?a9 ?l9 ?c9 ?k9 ?a10 ?l10 ?c10 ?k10 ?a11 ?l11 ?c11 ?k11 ?a12 ?l12 ?c12 ?k12 ?a13 ?l13 ?c13 ?k13 ?a14 ?l14 ?c14 ?k14 ?a15 ?l15 ?c15 ?k15 ?a16 ?l16 ?c16 ?k16 ?a17 ?l17 ?c17 ?k17 ?a18 ?l18 ?c18 ?k18 ?a19 ?l19 ?c19 ?k19 ?a20 ?l20 ?c20 ?k20 ?a21 ?l21 ?c21 ?k21 ?a22 ?l22 ?c22 ?k22 ?a23 ?l23 ?c23 ?k23 ?a24 ?l24 ?c24 ?k24 ?a25 ?l25 ?c25 ?k25 ?a26 ?l26 ?c26 ?k26 ?a27 ?l27 ?c27 ?k27 ?a28 ?l28 ?c28 ?k28 ?a29 ?l29 ?c29 ?k29 ?a30 ?l30 ?c30 ?k30 ?a31 ?l31 ?c31 ?k31 ?a32 ?l32 ?c32 ?k32 ?a33 ?l33 ?c33 ?k33 ?a34 ?l34 ?c34 ?k34 ?a35 ?l35 ?c35 ?k35 ?a36 ?l36 ?c36 ?k36 ?a37 ?l37 ?c37 ?k37 ?a38 ?l38 ?c38 ?k38 ?a39 ?l39 ?c39 ?k39 ?a40 ?l40 ?c40 ?k40 ?a41 ?l41 ?c41 ?k41 ?a42 ?l42 ?c42 ?k42 ?a43 ?l43 ?c43 ?k43 ?a44 ?l44 ?c44 ?k44 ?a45 ?l45 ?c45 ?k45 ?a46 ?l46 ?c46 ?k46 ?a47 ?l47 ?c47 ?k47 ?a48 ?l48 ?c48 ?k48 ?a49 ?l49 ?c49 ?k49 ?z_abs ?z_all ?z_bool ?z_divmod ?z_enumerate ?z_int ?z_isinstance ?z_len ?z_list ?z_max ?z_min ?z_range ?z_repr ?z_str ?z_sum ?z_tuple ?m_gcd ?g_LETTERS ?laLETTERS_0 ?g_MOST_DEEP ?g_MOST_DEGREE ?g_MOST_POLYS ?g_RELATIONS ?laRELATIONS_0 ?gT_OPPOSITES ?dT_OPPOSITES ?kT_OPPOSITES ?sT_OPPOSITES ?vT_OPPOSITES0 ?vT_OPPOSITES1 ?vT_OPPOSITES2 ?vT_OPPOSITES3 ?vT_OPPOSITES4 ?vT_OPPOSITES5 ?gT_PARTS_AT ?dT_PARTS_AT ?kT_PARTS_AT ?sT_PARTS_AT ?vT_PARTS_AT0 ?laPARTS_AT0_0 ?vT_PARTS_AT1 ?laPARTS_AT1_0 ?vT_PARTS_AT2 ?laPARTS_AT2_0 ?vT_PARTS_AT3 ?laPARTS_AT3_0 ?vT_PARTS_AT4 ?laPARTS_AT4_0
    (case a0 => k_is); (case l0 => k_is); (case c0 => k_is); (case k0 => k_is); (case a1 => k_is); (case l1 => k_is); (case c1 => k_is); (case k1 => k_is); (case a2 => k_is); (case l2 => k_is); (case c2 => k_is); (case k2 => k_is); (case a3 => k_is); (case l3 => k_is); (case c3 => k_is); (case k3 => k_is); (case a4 => k_is); (case l4 => k_is); (case c4 => k_is); (case k4 => k_is); (case a5 => k_is); (case l5 => k_is); (case c5 => k_is); (case k5 => k_is); (case a6 => k_is); (case l6 => k_is); (case c6 => k_is); (case k6 => k_is); (case a7 => k_is); (case l7 => k_is); (case c7 => k_is); (case k7 => k_is); (case a8 => k_is); (case l8 => k_is); (case c8 => k_is); (case k8 => k_is); (case a9 => k_is); (case l9 => k_is); (case c9 => k_is); (case k9 => k_is); (case a10 => k_is); (case l10 => k_is); (case c10 => k_is); (case k10 => k_is); (case a11 => k_is); (case l11 => k_is); (case c11 => k_is); (case k11 => k_is); (case a12 => k_is); (case l12 => k_is); (case c12 => k_is); (case k12 => k_is); (case a13 => k_is); (case l13 => k_is); (case c13 => k_is); (case k13 => k_is); (case a14 => k_is); (case l14 => k_is); (case c14 => k_is); (case k14 => k_is); (case a15 => k_is); (case l15 => k_is); (case c15 => k_is); (case k15 => k_is); (case a16 => k_is); (case l16 => k_is); (case c16 => k_is); (case k16 => k_is); (case a17 => k_is); (case l17 => k_is); (case c17 => k_is); (case k17 => k_is); (case a18 => k_is); (case l18 => k_is); (case c18 => k_is); (case k18 => k_is); (case a19 => k_is); (case l19 => k_is); (case c19 => k_is); (case k19 => k_is); (case a20 => k_is); (case l20 => k_is); (case c20 => k_is); (case k20 => k_is); (case a21 => k_is); (case l21 => k_is); (case c21 => k_is); (case k21 => k_is); (case a22 => k_is); (case l22 => k_is); (case c22 => k_is); (case k22 => k_is); (case a23 => k_is); (case l23 => k_is); (case c23 => k_is); (case k23 => k_is); (case a24 => k_is); (case l24 => k_is); (case c24 => k_is); (case k24 => k_is); (case a25 => k_is); (case l25 => k_is); (case c25 => k_is); (case k25 => k_is); (case a26 => k_is); (case l26 => k_is); (case c26 => k_is); (case k26 => k_is); (case a27 => k_is); (case l27 => k_is); (case c27 => k_is); (case k27 => k_is); (case a28 => k_is); (case l28 => k_is); (case c28 => k_is); (case k28 => k_is); (case a29 => k_is); (case l29 => k_is); (case c29 => k_is); (case k29 => k_is); (case a30 => k_is); (case l30 => k_is); (case c30 => k_is); (case k30 => k_is); (case a31 => k_is); (case l31 => k_is); (case c31 => k_is); (case k31 => k_is); (case a32 => k_is); (case l32 => k_is); (case c32 => k_is); (case k32 => k_is); (case a33 => k_is); (case l33 => k_is); (case c33 => k_is); (case k33 => k_is); (case a34 => k_is); (case l34 => k_is); (case c34 => k_is); (case k34 => k_is); (case a35 => k_is); (case l35 => k_is); (case c35 => k_is); (case k35 => k_is); (case a36 => k_is); (case l36 => k_is); (case c36 => k_is); (case k36 => k_is); (case a37 => k_is); (case l37 => k_is); (case c37 => k_is); (case k37 => k_is); (case a38 => k_is); (case l38 => k_is); (case c38 => k_is); (case k38 => k_is); (case a39 => k_is); (case l39 => k_is); (case c39 => k_is); (case k39 => k_is); (case a40 => k_is); (case l40 => k_is); (case c40 => k_is); (case k40 => k_is); (case a41 => k_is); (case l41 => k_is); (case c41 => k_is); (case k41 => k_is); (case a42 => k_is); (case l42 => k_is); (case c42 => k_is); (case k42 => k_is); (case a43 => k_is); (case l43 => k_is); (case c43 => k_is); (case k43 => k_is); (case a44 => k_is); (case l44 => k_is); (case c44 => k_is); (case k44 => k_is); (case a45 => k_is); (case l45 => k_is); (case c45 => k_is); (case k45 => k_is); (case a46 => k_is); (case l46 => k_is); (case c46 => k_is); (case k46 => k_is); (case a47 => k_is); (case l47 => k_is); (case c47 => k_is); (case k47 => k_is); (case a48 => k_is); (case l48 => k_is); (case c48 => k_is); (case k48 => k_is); (case a49 => k_is); (case l49 => k_is); (case c49 => k_is); (case k49 => k_is); (case z_abs => k_is); (case z_all => k_is); (case z_bool => k_is); (case z_divmod => k_is); (case z_enumerate => k_is); (case z_int => k_is); (case z_isinstance => k_is); (case z_len => k_is); (case z_list => k_is); (case z_max => k_is); (case z_min => k_is); (case z_range => k_is); (case z_repr => k_is); (case z_str => k_is); (case z_sum => k_is); (case z_tuple => k_is); (case m_gcd => k_is); (case g_LETTERS => k_is); (case laLETTERS_0 => k_is); (case g_MOST_DEEP => k_is); (case g_MOST_DEGREE => k_is); (case g_MOST_POLYS => k_is); (case g_RELATIONS => k_is); (case laRELATIONS_0 => k_is); (case gT_OPPOSITES => k_is); (case dT_OPPOSITES => k_is); (case kT_OPPOSITES => rfl); (case sT_OPPOSITES => decide); (case vT_OPPOSITES0 => k_is); (case vT_OPPOSITES1 => k_is); (case vT_OPPOSITES2 => k_is); (case vT_OPPOSITES3 => k_is); (case vT_OPPOSITES4 => k_is); (case vT_OPPOSITES5 => k_is); (case gT_PARTS_AT => k_is); (case dT_PARTS_AT => k_is); (case kT_PARTS_AT => rfl); (case sT_PARTS_AT => decide); (case vT_PARTS_AT0 => k_is); (case laPARTS_AT0_0 => k_is); (case vT_PARTS_AT1 => k_is); (case laPARTS_AT1_0 => k_is); (case vT_PARTS_AT2 => k_is); (case laPARTS_AT2_0 => k_is); (case vT_PARTS_AT3 => k_is); (case laPARTS_AT3_0 => k_is); (case vT_PARTS_AT4 => k_is); (case laPARTS_AT4_0 => k_is)
