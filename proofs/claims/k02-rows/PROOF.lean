import PyProof.Rows.All
import Wide.All
import OpenK.AllK
import Wide.FinOn
import HandS.ForExc
import HandS.Comp
import HandS.Iter
import HandS.Dict
import HandS.Text
import HandS.TupAny
import HandS.Zip
import HandS.IsInst
import HandS.WideBits
import HandS.Gcd
import PyProof.Rows.EqBoolInt
import PyProof.Rows.IntBool
import PyProof.ReprRoads
import PyProof.P3In
import HandS.EndBits
import HandS.RaiseMore
import HandS.Style
import HandS.TupMul
import HandS.Defaults
import KE.GoesMore
import PySem.Challenge.RW_twoletters_k02_rows_of_anything_and_thei
set_option Elab.async false
set_option linter.all false
set_option maxRecDepth 100000
set_option maxHeartbeats 4000000
/-! TL0: values, stores, outcomes; how they lie in the abstract heap. -/
namespace TL
open PySem PySem.Spec L2
abbrev St := L2.St

/-- a list of the module, known to the object -/
def LsK (K : PySem.W.Frag) (a : Addr) (xs : List V) : Prop := ∃ (its : List Value) (n : Nat), K.lookup a = some { cls := .type "list", data := .seq its.toArray n } ∧ xs.length ≤ sizeLine ∧ Vals xs its
/-- a list that stays as it is -/
def Ls (K : PySem.W.Frag) (H : Hp) (a : Addr) (xs : List V) : Prop := Rd H a (.lst xs) ∨ LsK K a xs
theorem Ls.of {K : PySem.W.Frag} {H : Hp} {a : Addr} {xs : List V} (h : H a = some (.lst xs)) : Ls K H a xs := .inl (.of h)
theorem Ls.sq {K : PySem.W.Frag} {H : Hp} {a : Addr} {xs : List V} (h : Ls K H a xs) : SqL K H a xs := by
  rcases h with h | ⟨its, n, h, hz, r⟩
  · exact .inl h
  · exact .inr ⟨_, its.toArray, n, h, rfl, rfl, rfl, by rw [List.size_toArray, ← r.length]; exact hz, by simpa using r⟩
theorem Ls.ob {X : Cx} {pins : List (Addr × Obj)} {σ : L2.St} {H : Hp} {s : Shared} {a : Addr} {xs : List V} (h : Ls X.K H a xs) (I : Inv X pins σ H s) : xs.length ≤ sizeLine ∧ ∃ (its : List Value) (n : Nat), Vals xs its ∧ s.heap.get? a = some { cls := .type "list", data := .seq its.toArray n } := by
  rcases h with h | ⟨its, n, h, hz, r⟩
  · obtain ⟨z, its, n, r, e⟩ := h.ok I.hok
    exact ⟨z, its, n, r, e⟩
  · exact ⟨hz, its, n, r, I.kIn a _ h⟩

/-! ### data in the abstract heap -/
mutual
inductive Dq (K : PySem.W.Frag) (H : Hp) : V → PyData → Prop
  | non : Dq K H .non .none
  | bl (b : Bool) : Dq K H (.bl b) (.bool b)
  | int (i : Int) : Dq K H (.int i) (.int i)
  | str (x : Str) : Dq K H (.str x) (.str x)
  | lst {a : Addr} {xs : List V} {ds : List PyData} : Ls K H a xs → DqAll K H xs ds → Dq K H (.ref a) (.list ds)
  | tup {a : Addr} {xs : List V} {ds : List PyData} : SqT K H a xs → DqAll K H xs ds → Dq K H (.ref a) (.tuple ds)
  | dic {a : Addr} : H a = some (.dK []) → Dq K H (.ref a) (.dict [])
inductive DqAll (K : PySem.W.Frag) (H : Hp) : List V → List PyData → Prop
  | nil : DqAll K H [] []
  | cons {v : V} {vs : List V} {d : PyData} {ds : List PyData} : Dq K H v d → DqAll K H vs ds → DqAll K H (v :: vs) (d :: ds)
end

theorem sameR {H H' : Hp} {a : Addr} {u : HO} (e : Same H H') (h : Rd H a u) : Rd H' a u := by
  rcases h with h | ⟨o, h⟩
  · exact .inl (e _ _ h)
  · exact .inr ⟨o, e _ _ h⟩
theorem sameL {K : PySem.W.Frag} {H H' : Hp} {a : Addr} {xs : List V} (e : Same H H') (h : Ls K H a xs) : Ls K H' a xs := h.elim (fun z => .inl (sameR e z)) .inr
theorem sameT {K : PySem.W.Frag} {H H' : Hp} {a : Addr} {xs : List V} (e : Same H H') (h : SqT K H a xs) : SqT K H' a xs := by
  rcases h with (h | ⟨o, h⟩) | h
  · exact .inl (.inl (e _ _ h))
  · exact .inl (.inr ⟨o, e _ _ h⟩)
  · exact .inr h
section
variable {K : PySem.W.Frag} {H H' : Hp}
mutual
theorem Dq.mono (e : Same H H') : ∀ {v : V} {d : PyData}, Dq K H v d → Dq K H' v d
  | _, _, .non => .non
  | _, _, .bl b => .bl b
  | _, _, .int i => .int i
  | _, _, .str x => .str x
  | _, _, .lst h hs => .lst (sameL e h) (hs.mono e)
  | _, _, .tup h hs => .tup (sameT e h) (hs.mono e)
  | _, _, .dic h => .dic (e _ _ h)
theorem DqAll.mono (e : Same H H') : ∀ {vs : List V} {ds : List PyData}, DqAll K H vs ds → DqAll K H' vs ds
  | _, _, .nil => .nil
  | _, _, .cons h hs => .cons (h.mono e) (hs.mono e)
end
theorem DqAll.length : ∀ {vs : List V} {ds : List PyData}, DqAll K H vs ds → vs.length = ds.length
  | _, _, .nil => rfl
  | _, _, .cons _ h => congrArg Nat.succ (DqAll.length h)
theorem DqAll.get : ∀ {vs : List V} {ds : List PyData} {i : Nat} {d : PyData}, DqAll K H vs ds → ds[i]? = some d → ∃ v, vs[i]? = some v ∧ Dq K H v d
  | _, _, _, _, .nil, e => by simp at e
  | _, _, 0, _, .cons r _, e => by
    simp at e
    subst e
    exact ⟨_, rfl, r⟩
  | _, _, i + 1, x, .cons _ t, e => by
    obtain ⟨u, h1, h2⟩ := DqAll.get (i := i) (d := x) t (by simpa using e)
    exact ⟨u, by simpa using h1, h2⟩
theorem DqAll.getV : ∀ {vs : List V} {ds : List PyData} {i : Nat} {v : V}, DqAll K H vs ds → vs[i]? = some v → ∃ d, ds[i]? = some d ∧ Dq K H v d
  | _, _, _, _, .nil, e => by simp at e
  | _, _, 0, _, .cons r _, e => by
    simp at e
    subst e
    exact ⟨_, rfl, r⟩
  | _, _, i + 1, x, .cons _ t, e => by
    obtain ⟨u, h1, h2⟩ := DqAll.getV (i := i) (v := x) t (by simpa using e)
    exact ⟨u, by simpa using h1, h2⟩
theorem DqAll.append : ∀ {vs ws : List V} {ds es : List PyData}, DqAll K H vs ds → DqAll K H ws es → DqAll K H (vs ++ ws) (ds ++ es)
  | _, _, _, _, .nil, s => s
  | _, _, _, _, .cons r t, s => .cons r (DqAll.append t s)
theorem DqAll.take : ∀ {vs : List V} {ds : List PyData} (n : Nat), DqAll K H vs ds → DqAll K H (vs.take n) (ds.take n)
  | _, _, 0, _ => .nil
  | _, _, _ + 1, .nil => .nil
  | _, _, n + 1, .cons r t => .cons r (DqAll.take n t)
theorem DqAll.drop : ∀ {vs : List V} {ds : List PyData} (n : Nat), DqAll K H vs ds → DqAll K H (vs.drop n) (ds.drop n)
  | _, _, 0, r => r
  | _, _, _ + 1, .nil => .nil
  | _, _, n + 1, .cons _ t => DqAll.drop n t
theorem DqAll.set {v : V} {d : PyData} (r : Dq K H v d) : ∀ {vs : List V} {ds : List PyData} (i : Nat), DqAll K H vs ds → DqAll K H (vs.set i v) (ds.set i d)
  | _, _, _, .nil => .nil
  | _, _, 0, .cons _ t => .cons r t
  | _, _, i + 1, .cons q t => .cons q (DqAll.set r i t)
theorem DqAll.dropLast {vs : List V} {ds : List PyData} (h : DqAll K H vs ds) : DqAll K H vs.dropLast ds.dropLast := by
  rw [List.dropLast_eq_take, List.dropLast_eq_take, h.length]
  exact h.take _
theorem DqAll.reverse : ∀ {vs : List V} {ds : List PyData}, DqAll K H vs ds → DqAll K H vs.reverse ds.reverse
  | _, _, .nil => .nil
  | _, _, .cons r t => by
    rw [List.reverse_cons, List.reverse_cons]
    exact (DqAll.reverse t).append (.cons r .nil)
theorem DqAll.replicate {v : V} {d : PyData} (r : Dq K H v d) : ∀ n : Nat, DqAll K H (List.replicate n v) (List.replicate n d)
  | 0 => .nil
  | n + 1 => .cons r (DqAll.replicate r n)
theorem DqAll.flat {vs : List V} {ds : List PyData} (h : DqAll K H vs ds) : ∀ n : Nat, DqAll K H (List.replicate n vs).flatten (List.replicate n ds).flatten
  | 0 => .nil
  | n + 1 => by
    rw [List.replicate_succ, List.replicate_succ, List.flatten_cons, List.flatten_cons]
    exact h.append (DqAll.flat h n)
theorem DqAll.ints : ∀ {vs : List V} {ns : List Int}, DqAll K H vs (ns.map PyData.int) → vs = ns.map V.int
  | _, [], h => by
    cases h
    rfl
  | _, n :: ns, h => by
    cases h with
    | cons r t =>
      cases r
      rw [DqAll.ints t]
      rfl
theorem DqAll.bools : ∀ {vs : List V} {ns : List Bool}, DqAll K H vs (ns.map PyData.bool) → vs = ns.map V.bl
  | _, [], h => by
    cases h
    rfl
  | _, n :: ns, h => by
    cases h with
    | cons r t =>
      cases r
      rw [DqAll.bools t]
      rfl
theorem DqAll.strs : ∀ {vs : List V} {ns : List Str}, DqAll K H vs (ns.map PyData.str) → vs = ns.map V.str
  | _, [], h => by
    cases h
    rfl
  | _, n :: ns, h => by
    cases h with
    | cons r t =>
      cases r
      rw [DqAll.strs t]
      rfl
end

theorem Paired.app {β γ : Type} {R : β → γ → Prop} : ∀ {l l2 : List β} {m m2 : List γ}, Paired R l m → Paired R l2 m2 → Paired R (l ++ l2) (m ++ m2)
  | _, _, _, _, .nil, h => h
  | _, _, _, _, .cons r t, h => .cons r (Paired.app t h)
theorem Paired.at_ {β γ : Type} {R : β → γ → Prop} : ∀ {l : List β} {m : List γ} {i : Nat}, Paired R l m → i < l.length → ∃ b c, l[i]? = some b ∧ m[i]? = some c ∧ R b c
  | _, _, i, .nil, h => absurd h (Nat.not_lt_zero _)
  | _, _, 0, .cons r t, _ => ⟨_, _, rfl, rfl, r⟩
  | _, _, i + 1, .cons r t, h => by
    obtain ⟨b, c, h1, h2, h3⟩ := Paired.at_ t (Nat.lt_of_succ_lt_succ h)
    exact ⟨b, c, by simpa using h1, by simpa using h2, h3⟩

/-! ### values, stores, outcomes -/
inductive Wv where
  | d (x : PyData)
  | r (k : Nat)
abbrev Cell := List PyData
abbrev Mu := List (Option Cell)
abbrev Rho := List (Option Wv)
inductive Out (α : Type) where
  | ok (a : α) (μ : Mu)
  | err (x : Str) (ws : List Wv) (μ : Mu)
  | bad
def Out.bind {α β : Type} (o : Out α) (k : α → Mu → Out β) : Out β :=
  match o with
  | .ok a μ => k a μ
  | .err x ws μ => .err x ws μ
  | .bad => .bad
@[simp] theorem Out.bind_ok {α β : Type} (a : α) (μ : Mu) (k : α → Mu → Out β) : (Out.ok a μ).bind k = k a μ := rfl
@[simp] theorem Out.bind_err {α β : Type} (x : Str) (ws : List Wv) (μ : Mu) (k : α → Mu → Out β) : (Out.err x ws μ).bind k = .err x ws μ := rfl
@[simp] theorem Out.bind_bad {α β : Type} (k : α → Mu → Out β) : (Out.bad : Out α).bind k = .bad := rfl

/-- a value: data frozen in F, or the address of a cell -/
def Rw (K : PySem.W.Frag) (α : List Addr) (F : Hp) : V → Wv → Prop
  | v, .d x => Dq K F v x
  | v, .r k => ∃ a, α[k]? = some a ∧ v = .ref a
abbrev Rws (K : PySem.W.Frag) (α : List Addr) (F : Hp) : List V → List Wv → Prop := Paired (Rw K α F)
/-- the slots -/
structure RepE (K : PySem.W.Frag) (α : List Addr) (F : Hp) (ρ : Rho) (σ : St) : Prop where
  len : ρ.length = σ.length
  at_ : ∀ (i : Nat) (w : Wv), ρ[i]? = some (some w) → ∃ v, σ[i]? = some (some v) ∧ Rw K α F v w
/-- the store: F is what is frozen, α the cells' addresses -/
structure Rep (K : PySem.W.Frag) (α : List Addr) (F : Hp) (μ : Mu) (H : Hp) : Prop where
  len : μ.length = α.length
  sub : Same F H
  cell : ∀ (k : Nat) (c : Cell), μ[k]? = some (some c) → ∃ a vs, α[k]? = some a ∧ H a = some (.lst vs) ∧ F a = none ∧ DqAll K F vs c
  inj : ∀ (i j : Nat) (a : Addr) (c c' : Cell), μ[i]? = some (some c) → μ[j]? = some (some c') → α[i]? = some a → α[j]? = some a → i = j
  had : ∀ a ∈ α, H a ≠ none
structure Ext (α : List Addr) (F H : Hp) (α' : List Addr) (F' H' : Hp) : Prop where
  pre : ∃ β, α' = α ++ β
  fro : Same F F'
  frame : ∀ a o, H a = some o → a ∉ α → H' a = some o
  keep : ∀ a, H a ≠ none → H' a ≠ none
  newF : ∀ a, F' a ≠ none → F a ≠ none ∨ H a = none ∨ a ∈ α
  newA : ∀ a ∈ α', a ∈ α ∨ H a = none
section
variable {K : PySem.W.Frag} {α α' α'' : List Addr} {F F' F'' H H' H'' : Hp} {μ μ' : Mu}
theorem Ext.refl : Ext α F H α F H := ⟨⟨[], by simp⟩, Same.refl _, fun _ _ h _ => h, fun _ h => h, fun _ h => .inl h, fun _ h => .inl h⟩
theorem Ext.mem (e : Ext α F H α' F' H') {a : Addr} (h : a ∈ α) : a ∈ α' := by
  obtain ⟨β, rfl⟩ := e.pre
  exact List.mem_append_left _ h
theorem Ext.trans (e : Ext α F H α' F' H') (e' : Ext α' F' H' α'' F'' H'') : Ext α F H α'' F'' H'' where
  pre := by
    obtain ⟨β, rfl⟩ := e.pre
    obtain ⟨γ, rfl⟩ := e'.pre
    exact ⟨β ++ γ, by simp⟩
  fro := e.fro.trans e'.fro
  frame := fun a o h n => e'.frame a o (e.frame a o h n) fun m => by
    rcases e.newA a m with q | q
    · exact n q
    · rw [h] at q; cases q
  keep := fun a h => e'.keep a (e.keep a h)
  newF := fun a h => by
    rcases e'.newF a h with q | q | q
    · exact e.newF a q
    · by_cases z : H a = none
      · exact .inr (.inl z)
      · exact absurd q (e.keep a z)
    · rcases e.newA a q with q | q
      · exact .inr (.inr q)
      · exact .inr (.inl q)
  newA := fun a h => by
    rcases e'.newA a h with q | q
    · exact e.newA a q
    · by_cases z : H a = none
      · exact .inr z
      · exact absurd q (e.keep a z)
theorem Rw.ext {v : V} {w : Wv} (r : Rw K α F v w) (e : Ext α F H α' F' H') : Rw K α' F' v w := by
  cases w with
  | d x => exact Dq.mono e.fro r
  | r k =>
    obtain ⟨a, h, rfl⟩ := r
    obtain ⟨β, rfl⟩ := e.pre
    exact ⟨a, by rw [List.getElem?_append_left (List.getElem?_eq_some_iff.mp h).1]; exact h, rfl⟩
theorem Rws.ext {vs : List V} {ws : List Wv} (r : Rws K α F vs ws) (e : Ext α F H α' F' H') : Rws K α' F' vs ws := Paired.mapP r fun _ _ q => q.ext e
theorem RepE.ext {ρ : Rho} {σ : St} (r : RepE K α F ρ σ) (e : Ext α F H α' F' H') : RepE K α' F' ρ σ :=
  ⟨r.len, fun i w h => let ⟨v, h1, h2⟩ := r.at_ i w h; ⟨v, h1, h2.ext e⟩⟩
theorem RepE.set {ρ : Rho} {σ : St} (r : RepE K α F ρ σ) {v : V} {w : Wv} (i : Nat) (q : Rw K α F v w) : RepE K α F (ρ.set i (some w)) (σ.set i (some v)) := by
  refine ⟨by rw [List.length_set, List.length_set]; exact r.len, fun j u h => ?_⟩
  by_cases hj : i = j
  · subst hj
    have hl : i < ρ.length := by
      have := (List.getElem?_eq_some_iff.mp h).1
      rwa [List.length_set] at this
    rw [List.getElem?_set_self hl] at h
    cases h
    exact ⟨v, List.getElem?_set_self (by rw [← r.len]; exact hl), q⟩
  · rw [List.getElem?_set_ne hj] at h
    rw [List.getElem?_set_ne hj]
    exact r.at_ j u h
/-- a new frozen object -/
theorem Rep.new {p : Addr} {o : HO} (r : Rep K α F μ H) (hp : H p = none) : Rep K α (upd F p o) μ (upd H p o) ∧ Ext α F H α (upd F p o) (upd H p o) := by
  have fp : F p = none := r.sub.free hp
  have sF : Same F (upd F p o) := fun b u h => by
    rw [upd_ne (ne_of_none h fp)]
    exact h
  have hn : p ∉ α := fun m => r.had p m hp
  refine ⟨⟨r.len, fun b u h => ?_, fun k c h => ?_, r.inj, fun a m => ?_⟩, ⟨⟨[], by simp⟩, sF, fun a u h _ => ?_, fun a h => ?_, fun a h => ?_, fun a h => .inl h⟩⟩
  · by_cases e : b = p
    · subst e
      rw [upd_same] at h ⊢
      exact h
    · rw [upd_ne e] at h ⊢
      exact r.sub _ _ h
  · obtain ⟨a, vs, h1, h2, h3, h4⟩ := r.cell k c h
    have ne : a ≠ p := ne_of_none h2 hp
    exact ⟨a, vs, h1, by rw [upd_ne ne]; exact h2, by rw [upd_ne ne]; exact h3, h4.mono sF⟩
  · have ne : a ≠ p := fun e => hn (by rw [← e]; exact m)
    rw [upd_ne ne]
    exact r.had a m
  · rw [upd_ne (ne_of_none h hp)]
    exact h
  · by_cases e : a = p
    · subst e
      rw [upd_same]
      exact fun z => nomatch z
    · rw [upd_ne e]
      exact h
  · by_cases e : a = p
    · subst e
      exact .inr (.inl hp)
    · rw [upd_ne e] at h
      exact .inl h
/-- an object laid by the side: not frozen, no cell -/
theorem Rep.side {p : Addr} {o : HO} (r : Rep K α F μ H) (hp : H p = none) : Rep K α F μ (upd H p o) ∧ Ext α F H α F (upd H p o) := by
  have hn : p ∉ α := fun m => r.had p m hp
  have sH : Same H (upd H p o) := fun b u h => by
    rw [upd_ne (ne_of_none h hp)]
    exact h
  refine ⟨⟨r.len, r.sub.trans sH, fun k c h => ?_, r.inj, fun a m => ?_⟩, ⟨⟨[], by simp⟩, Same.refl _, fun a u h _ => sH _ _ h, fun a h => ?_, fun a h => .inl h, fun a h => .inl h⟩⟩
  · obtain ⟨a, vs, h1, h2, h3, h4⟩ := r.cell k c h
    exact ⟨a, vs, h1, sH _ _ h2, h3, h4⟩
  · have ne : a ≠ p := fun e => hn (by rw [← e]; exact m)
    rw [upd_ne ne]
    exact r.had a m
  · by_cases e : a = p
    · subst e
      rw [upd_same]
      exact fun z => nomatch z
    · rw [upd_ne e]
      exact h
/-- a list by the side becomes frozen -/
theorem Rep.freezeSide {p : Addr} {o : HO} (r : Rep K α F μ H) (hp : H p = some o) (hf : F p = none) (hn : p ∉ α) : Rep K α (upd F p o) μ H := by
  have sF : Same F (upd F p o) := fun b u h => by
    rw [upd_ne (ne_of_none h hf)]
    exact h
  refine ⟨r.len, fun b u h => ?_, fun k c h => ?_, r.inj, r.had⟩
  · by_cases e : b = p
    · subst e
      rw [upd_same] at h
      cases h
      exact hp
    · rw [upd_ne e] at h
      exact r.sub _ _ h
  · obtain ⟨a, vs, h1, h2, h3, h4⟩ := r.cell k c h
    have ne : a ≠ p := fun e => hn (e ▸ List.mem_of_getElem? h1)
    exact ⟨a, vs, h1, h2, by rw [upd_ne ne]; exact h3, h4.mono sF⟩
/-- a list by the side becomes a cell -/
theorem Rep.cellSide {p : Addr} {vs : List V} {c : Cell} (r : Rep K α F μ H) (hp : H p = some (.lst vs)) (hf : F p = none) (hn : p ∉ α) (hc : DqAll K F vs c) : Rep K (α ++ [p]) F (μ ++ [some c]) H := by
  refine ⟨by simp [r.len], r.sub, fun k c' h => ?_, fun i j a c1 c2 h1 h2 h3 h4 => ?_, fun a m => ?_⟩
  · by_cases hk : k < μ.length
    · rw [List.getElem?_append_left hk] at h
      obtain ⟨a, ws, q1, q2⟩ := r.cell k c' h
      exact ⟨a, ws, by rw [List.getElem?_append_left (by rw [← r.len]; exact hk)]; exact q1, q2⟩
    · rw [List.getElem?_append_right (by omega)] at h
      have hk0 : k - μ.length = 0 := by
        by_cases z : k - μ.length = 0
        · exact z
        · rw [List.getElem?_eq_none (by simp; omega)] at h; cases h
      rw [hk0] at h
      simp at h
      subst h
      refine ⟨p, vs, ?_, hp, hf, hc⟩
      rw [List.getElem?_append_right (by rw [← r.len]; omega), ← r.len, hk0]
      rfl
  · have key : ∀ (i : Nat) (c1 : Cell), (μ ++ [some c])[i]? = some (some c1) → (α ++ [p])[i]? = some a → (i < μ.length ∧ μ[i]? = some (some c1) ∧ α[i]? = some a) ∨ (i = μ.length ∧ a = p) := fun i c1 h1 h3 => by
      by_cases hi : i < μ.length
      · rw [List.getElem?_append_left hi] at h1
        rw [List.getElem?_append_left (by rw [← r.len]; exact hi)] at h3
        exact .inl ⟨hi, h1, h3⟩
      · have hi0 : i = μ.length := by
          have := (List.getElem?_eq_some_iff.mp h1).1
          rw [List.length_append] at this
          simp at this
          omega
        subst hi0
        rw [r.len, List.getElem?_append_right (Nat.le_refl _), Nat.sub_self] at h3
        simp at h3
        exact .inr ⟨rfl, h3.symm⟩
    rcases key i c1 h1 h3 with ⟨_, a1, a2⟩ | ⟨rfl, a2⟩ <;> rcases key j c2 h2 h4 with ⟨_, b1, b2⟩ | ⟨rfl, b2⟩
    · exact r.inj i j a c1 c2 a1 b1 a2 b2
    · exact absurd (b2 ▸ List.mem_of_getElem? a2) hn
    · exact absurd (a2 ▸ List.mem_of_getElem? b2) hn
    · rfl
  · rcases List.mem_append.mp m with m | m
    · exact r.had a m
    · simp at m
      subst m
      rw [hp]
      exact fun z => nomatch z
end
end TL
/-! TL1: cells written, frozen, dropped; readings from semantic functions. -/
namespace TL
open PySem PySem.Spec L2
section
variable {K : PySem.W.Frag} {α α' α'' : List Addr} {F F' F'' H H' H'' : Hp} {μ μ' : Mu}
theorem Rep.write {k : Nat} {c c' : Cell} {a : Addr} {vs' : List V} (r : Rep K α F μ H) (hk : μ[k]? = some (some c)) (ha : α[k]? = some a) (h' : DqAll K F vs' c') :
    Rep K α F (μ.set k (some c')) (upd H a (.lst vs')) ∧ Ext α F H α F (upd H a (.lst vs')) := by
  obtain ⟨a0, vs, h1, h2, h3, h4⟩ := r.cell k c hk
  rw [ha] at h1
  cases h1
  have sF : Same F (upd H a (.lst vs')) := fun b u h => by
    rw [upd_ne (fun e => by rw [e, h3] at h; cases h)]
    exact r.sub _ _ h
  have hl : k < μ.length := (List.getElem?_eq_some_iff.mp hk).1
  have old : ∀ (i : Nat) (c1 : Cell), (μ.set k (some c'))[i]? = some (some c1) → ∃ c0, μ[i]? = some (some c0) := fun i c1 h => by
    by_cases hi : k = i
    · subst hi
      exact ⟨c, hk⟩
    · rw [List.getElem?_set_ne hi] at h
      exact ⟨c1, h⟩
  refine ⟨⟨by rw [List.length_set]; exact r.len, sF, fun i c1 h => ?_, fun i j b c1 c2 q1 q2 q3 q4 => ?_, fun b m => ?_⟩, ⟨⟨[], by simp⟩, Same.refl _, fun b u h n => ?_, fun b h => ?_, fun b h => .inl h, fun b h => .inl h⟩⟩
  · by_cases hi : k = i
    · subst hi
      rw [List.getElem?_set_self hl] at h
      cases h
      exact ⟨a, vs', ha, upd_same, h3, h'⟩
    · rw [List.getElem?_set_ne hi] at h
      obtain ⟨b, ws, g1, g2, g3, g4⟩ := r.cell i c1 h
      have ne : b ≠ a := fun e => hi (r.inj k i a c c1 hk h ha (by rw [← e]; exact g1))
      exact ⟨b, ws, g1, by rw [upd_ne ne]; exact g2, g3, g4⟩
  · obtain ⟨d1, e1⟩ := old i c1 q1
    obtain ⟨d2, e2⟩ := old j c2 q2
    exact r.inj i j b d1 d2 e1 e2 q3 q4
  · by_cases e : b = a
    · rw [e, upd_same]
      exact fun z => nomatch z
    · rw [upd_ne e]
      exact r.had b m
  · have ne : b ≠ a := fun e => n (by rw [e]; exact List.mem_of_getElem? ha)
    rw [upd_ne ne]
    exact h
  · by_cases e : b = a
    · rw [e, upd_same]
      exact fun z => nomatch z
    · rw [upd_ne e]
      exact h
theorem Rep.freeze {k : Nat} {c : Cell} (r : Rep K α F μ H) (hk : μ[k]? = some (some c)) :
    ∃ F', Rep K α F' (μ.set k none) H ∧ Ext α F H α F' H ∧ ∀ v, Rw K α F v (.r k) → Dq K F' v (.list c) := by
  obtain ⟨a, vs, h1, h2, h3, h4⟩ := r.cell k c hk
  have hl : k < μ.length := (List.getElem?_eq_some_iff.mp hk).1
  have sF : Same F (upd F a (.lst vs)) := fun b u h => by
    rw [upd_ne (ne_of_none h h3)]
    exact h
  have ham : a ∈ α := List.mem_of_getElem? h1
  refine ⟨upd F a (.lst vs), ⟨by rw [List.length_set]; exact r.len, fun b u h => ?_, fun i c1 h => ?_, fun i j b c1 c2 q1 q2 q3 q4 => ?_, r.had⟩, ⟨⟨[], by simp⟩, sF, fun b u h n => h, fun b h => h, fun b h => ?_, fun b h => .inl h⟩, fun v q => ?_⟩
  · by_cases e : b = a
    · subst e
      rw [upd_same] at h
      cases h
      exact h2
    · rw [upd_ne e] at h
      exact r.sub _ _ h
  · by_cases hi : k = i
    · subst hi
      rw [List.getElem?_set_self hl] at h
      cases h
    · rw [List.getElem?_set_ne hi] at h
      obtain ⟨b, ws, g1, g2, g3, g4⟩ := r.cell i c1 h
      have ne : b ≠ a := fun e => hi (r.inj k i a c c1 hk h h1 (by rw [← e]; exact g1))
      exact ⟨b, ws, g1, g2, by rw [upd_ne ne]; exact g3, g4.mono sF⟩
  · have old : ∀ (i : Nat) (c1 : Cell), (μ.set k none)[i]? = some (some c1) → μ[i]? = some (some c1) := fun i c1 h => by
      by_cases hi : k = i
      · subst hi
        rw [List.getElem?_set_self hl] at h
        cases h
      · rw [List.getElem?_set_ne hi] at h
        exact h
    exact r.inj i j b c1 c2 (old _ _ q1) (old _ _ q2) q3 q4
  · by_cases e : b = a
    · rw [e]
      exact .inr (.inr ham)
    · rw [upd_ne e] at h
      exact .inl h
  · obtain ⟨b, g1, rfl⟩ := q
    rw [h1] at g1
    cases g1
    exact .lst (.of upd_same) (h4.mono sF)
/-- behind a call: the callee's cells forgotten -/
theorem Rep.drop {n : Nat} (e : Ext α F H α' F' H') (hn : n = α.length) (r : Rep K α' F' μ' H') : Rep K α F' (μ'.take n) H' ∧ Ext α F H α F' H' := by
  subst hn
  obtain ⟨β, rfl⟩ := e.pre
  have at_ : ∀ (k : Nat) (c : Cell), (μ'.take α.length)[k]? = some (some c) → k < α.length ∧ μ'[k]? = some (some c) := fun k c h => by
    rw [List.getElem?_take] at h
    split at h
    · exact ⟨by assumption, h⟩
    · cases h
  have al : ∀ (k : Nat), k < α.length → (α ++ β)[k]? = α[k]? := fun k h => List.getElem?_append_left h
  refine ⟨⟨?_, r.sub, fun k c h => ?_, fun i j a c1 c2 q1 q2 q3 q4 => ?_, fun a m => r.had a (List.mem_append_left _ m)⟩, ⟨⟨[], by simp⟩, e.fro, e.frame, e.keep, e.newF, fun a h => .inl h⟩⟩
  · rw [List.length_take, r.len, List.length_append]
    omega
  · obtain ⟨hk, h⟩ := at_ k c h
    obtain ⟨a, vs, g1, g2, g3, g4⟩ := r.cell k c h
    rw [al k hk] at g1
    exact ⟨a, vs, g1, g2, g3, g4⟩
  · obtain ⟨l1, q1⟩ := at_ i c1 q1
    obtain ⟨l2, q2⟩ := at_ j c2 q2
    exact r.inj i j a c1 c2 q1 q2 (by rw [al i l1]; exact q3) (by rw [al j l2]; exact q4)
/-- .. all but one, that is handed back -/
theorem Rep.drop1 {n k : Nat} {c : Cell} (e : Ext α F H α' F' H') (hn : n = α.length) (r : Rep K α' F' μ' H') (hk : n ≤ k) (hc : μ'[k]? = some (some c)) :
    ∃ a, α'[k]? = some a ∧ Rep K (α ++ [a]) F' (μ'.take n ++ [some c]) H' ∧ Ext α F H (α ++ [a]) F' H' := by
  obtain ⟨a, vs, g1, g2, g3, g4⟩ := r.cell k c hc
  obtain ⟨r', e'⟩ := r.drop e hn
  subst hn
  have na : a ∈ α ∨ H a = none := e.newA a (List.mem_of_getElem? g1)
  obtain ⟨β, rfl⟩ := e.pre
  have kl : k < (α ++ β).length := (List.getElem?_eq_some_iff.mp g1).1
  have ml : (μ'.take α.length).length = α.length := r'.len
  have at_ : ∀ (i : Nat) (c1 : Cell) (b : Addr), (μ'.take α.length ++ [some c])[i]? = some (some c1) → (α ++ [a])[i]? = some b → (i < α.length ∧ (μ'.take α.length)[i]? = some (some c1) ∧ α[i]? = some b) ∨ (i = α.length ∧ c1 = c ∧ b = a) := fun i c1 b h1 h3 => by
    by_cases hi : i < α.length
    · rw [List.getElem?_append_left (by omega)] at h1
      rw [List.getElem?_append_left hi] at h3
      exact .inl ⟨hi, h1, h3⟩
    · have hi0 : i = α.length := by
        have := (List.getElem?_eq_some_iff.mp h1).1
        rw [List.length_append, ml] at this
        simp at this
        omega
      subst hi0
      rw [List.getElem?_append_right (Nat.le_refl _), Nat.sub_self] at h3
      rw [List.getElem?_append_right (by omega), ml, Nat.sub_self] at h1
      simp at h1 h3
      exact .inr ⟨rfl, h1.symm, h3.symm⟩
  have far : ∀ (i : Nat) (c1 : Cell), i < α.length → (μ'.take α.length)[i]? = some (some c1) → α[i]? = some a → False := fun i c1 hi q1 q2 => by
    rw [List.getElem?_take, if_pos hi] at q1
    have := r.inj k i a c c1 hc q1 g1 (by rw [List.getElem?_append_left hi]; exact q2)
    omega
  refine ⟨a, g1, ⟨by simp [ml], r.sub, fun i c1 h => ?_, fun i j b c1 c2 q1 q2 q3 q4 => ?_, fun b m => ?_⟩, ⟨⟨[a], rfl⟩, e'.fro, e'.frame, e'.keep, e'.newF, fun b m => ?_⟩⟩
  · have hb : i < (α ++ [a]).length := by
      have := (List.getElem?_eq_some_iff.mp h).1
      rw [List.length_append, ml] at this
      simpa using this
    obtain ⟨b, hb⟩ : ∃ b, (α ++ [a])[i]? = some b := ⟨_, List.getElem?_eq_getElem hb⟩
    rcases at_ i c1 b h hb with ⟨hi, q1, q2⟩ | ⟨rfl, rfl, rfl⟩
    · obtain ⟨b', ws, z1, z2, z3, z4⟩ := r'.cell i c1 q1
      rw [q2] at z1
      cases z1
      exact ⟨b, ws, hb, z2, z3, z4⟩
    · exact ⟨b, vs, hb, g2, g3, g4⟩
  · rcases at_ i c1 b q1 q3 with ⟨hi, a1, a2⟩ | ⟨rfl, rfl, rfl⟩ <;> rcases at_ j c2 b q2 q4 with ⟨hj, b1, b2⟩ | ⟨rfl, rfl, z⟩
    · exact r'.inj i j b c1 c2 a1 b1 a2 b2
    · subst z
      exact (far i c1 hi a1 a2).elim
    · exact (far j c2 hj b1 b2).elim
    · rfl
  · rcases List.mem_append.mp m with m | m
    · exact r'.had b m
    · simp at m
      rw [m, g2]
      exact fun z => nomatch z
  · rcases List.mem_append.mp m with m | m
    · exact .inl m
    · simp at m
      subst m
      exact na
end

/-! ### what is wanted behind a computation -/
def gp (K : PySem.W.Frag) (mg : Str → Option Value) {γ : Type} (α : List Addr) (F H : Hp) (o : Out γ) (G : γ → Mu → List Addr → Hp → Hp → Prop) (X : XK) : Prop :=
  match o with
  | .ok c μ' => ∀ α' F' H', Ext α F H α' F' H' → Rep K α' F' μ' H' → G c μ' α' F' H'
  | .err x ws μ' => ∀ α' F' H' C d fs, Ext α F H α' F' H' → Rep K α' F' μ' H' → mg x = some (.ref C) → H' d = some (.xd fs) → Rws K α' F' (fs.map (·.2)) ws → X (.ref C) (some d) H'
  | .bad => False
section
variable {K : PySem.W.Frag} {mg : Str → Option Value} {γ δ : Type} {α α' : List Addr} {F F' H H' : Hp} {o : Out γ} {G G' : γ → Mu → List Addr → Hp → Hp → Prop} {X : XK}
theorem gp.mono (h : gp K mg α F H o G X) (hG : ∀ c μ' α' F' H', Ext α F H α' F' H' → Rep K α' F' μ' H' → G c μ' α' F' H' → G' c μ' α' F' H') : gp K mg α F H o G' X := by
  cases o with
  | ok c μ' => exact fun α' F' H' e r => hG _ _ _ _ _ e r (h α' F' H' e r)
  | err x ws μ' => exact h
  | bad => exact h
theorem gp.base (h : gp K mg α F H o G X) (e : Ext α F H α' F' H') : gp K mg α' F' H' o G X := by
  cases o with
  | ok c μ' => exact fun α1 F1 H1 e1 r => h _ _ _ (e.trans e1) r
  | err x ws μ' => exact fun α1 F1 H1 C d fs e1 r => h _ _ _ C d fs (e.trans e1) r
  | bad => exact h
theorem gp.bind {k : γ → Mu → Out δ} {G : δ → Mu → List Addr → Hp → Hp → Prop} (h : gp K mg α F H (o.bind k) G X) :
    gp K mg α F H o (fun c μ' α' F' H' => gp K mg α' F' H' (k c μ') G X) X := by
  cases o with
  | ok c μ' => exact fun α' F' H' e r => gp.base (o := k c μ') h e
  | err x ws μ' => exact h
  | bad => exact h
theorem gp.unbind {k : γ → Mu → Out δ} {G : δ → Mu → List Addr → Hp → Hp → Prop} {μ : Mu} (r : Rep K α F μ H) {c : γ} (ho : o = .ok c μ) (h : gp K mg α F H (o.bind k) G X) : gp K mg α F H (k c μ) G X := by
  subst ho
  exact h
theorem gp.now {c : γ} {μ : Mu} (h : gp K mg α F H (.ok c μ) G X) (r : Rep K α F μ H) : G c μ α F H := h _ _ _ .refl r
theorem gp.at {c : γ} {μ : Mu} (h : gp K mg α F H (.ok c μ) G X) (e : Ext α F H α' F' H') (r : Rep K α' F' μ H') : G c μ α' F' H' := h _ _ _ e r
end
end TL
/-! TL2: readings from semantic functions; the structural rules. -/
namespace TL
open PySem PySem.Spec L2

abbrev Ev := Rho → Mu → Out Wv
abbrev Bv := Rho → Mu → Out Bool
abbrev Av := Rho → Mu → Out (List Wv)
abbrev Lv := Rho → Mu → Out Cell
inductive Fl where
  | nx (ρ : Rho)
  | rt (w : Wv)
  | bk (ρ : Rho)
  | ct (ρ : Rho)
  | er (x : Str) (ws : List Wv) (ρ : Rho)
abbrev Sv := Rho → Mu → Out Fl
/-- a target: the value stored -/
abbrev Gv := Wv → Rho → Mu → Out Rho

/-- what is wanted of a value, of a list just made -/
abbrev Gw (K : PySem.W.Frag) (Q : VK) : Wv → Mu → List Addr → Hp → Hp → Prop := fun w _ α' F' H' => ∀ v, Rw K α' F' v w → Q v H'
abbrev Gl' (K : PySem.W.Frag) (H : Hp) (Q : VK) : Cell → Mu → List Addr → Hp → Hp → Prop := fun c _ α' F' H' => ∀ (D : Addr) (vs : List V), H D = none → H' D = some (.lst vs) → F' D = none → D ∉ α' → DqAll K F' vs c → Q (.ref D) H'

section
variable (K : PySem.W.Frag) (mg : Str → Option Value) (W : WX)
def tE (f : Ev) : TE := fun σ H Q => ∃ ρ μ α F, Rep K α F μ H ∧ RepE K α F ρ σ ∧ gp K mg α F H (f ρ μ) (Gw K Q) (fun c d H' => W c d σ H')
def tT (f : Bv) : TT := fun σ H Q => ∃ ρ μ α F, Rep K α F μ H ∧ RepE K α F ρ σ ∧ gp K mg α F H (f ρ μ) (fun b _ _ _ H' => Q b H') (fun c d H' => W c d σ H')
def tA (f : Av) : TA := fun σ H Q => ∃ ρ μ α F, Rep K α F μ H ∧ RepE K α F ρ σ ∧ gp K mg α F H (f ρ μ) (fun ws _ α' F' H' => ∀ vs, Rws K α' F' vs ws → Q vs H') (fun c d H' => W c d σ H')
def tL (f : Lv) : TE := fun σ H Q => ∃ ρ μ α F, Rep K α F μ H ∧ RepE K α F ρ σ ∧ gp K mg α F H (f ρ μ) (Gl' K H Q) (fun c d H' => W c d σ H')
def GS (D : Ends) : Fl → Mu → List Addr → Hp → Hp → Prop := fun fl μ' α' F' H' =>
  match fl with
  | .nx ρ' => ∀ σ', RepE K α' F' ρ' σ' → D.nx σ' H'
  | .bk ρ' => ∀ σ', RepE K α' F' ρ' σ' → D.bk σ' H'
  | .ct ρ' => ∀ σ', RepE K α' F' ρ' σ' → D.ct σ' H'
  | .rt w => ∀ v, Rw K α' F' v w → D.rt v H'
  | .er x ws ρ' => ∀ σ' C d fs, RepE K α' F' ρ' σ' → mg x = some (.ref C) → H' d = some (.xd fs) → Rws K α' F' (fs.map (·.2)) ws → W (.ref C) (some d) σ' H'
def tS (g : Sv) : TS := fun D σ H => ∃ ρ μ α F, Rep K α F μ H ∧ RepE K α F ρ σ ∧ gp K mg α F H (g ρ μ) (GS K mg W D) (fun _ _ _ => False)
def tG (t : Gv) : TG := fun v σ H Q => ∃ ρ μ α F w, Rep K α F μ H ∧ RepE K α F ρ σ ∧ Rw K α F v w ∧ gp K mg α F H (t w ρ μ) (fun ρ' _ α' F' H' => ∀ σ', RepE K α' F' ρ' σ' → Q σ' H') (fun _ _ _ => False)
end
abbrev SE (X : Cx) (W : WX) (e : Expr) (f : Ev) : Prop := PE X e (tE X.K X.mg W f)
abbrev ST (X : Cx) (W : WX) (e : Expr) (f : Bv) : Prop := PT X e (tT X.K X.mg W f)
abbrev SA (X : Cx) (W : WX) (es : List Expr) (f : Av) : Prop := PA X es (tA X.K X.mg W f)
abbrev SL (X : Cx) (W : WX) (e : Expr) (f : Lv) : Prop := PE X e (tL X.K X.mg W f)
abbrev SS (X : Cx) (W : WX) (st : Stmt) (g : Sv) : Prop := PS X st (tS X.K X.mg W g)
abbrev SSs (X : Cx) (W : WX) (st : List Stmt) (g : Sv) : Prop := PSs X st (tS X.K X.mg W g)
abbrev SG (X : Cx) (tg : Expr) (t : Gv) : Prop := PG X tg (tG X.K X.mg t)

theorem _root_.L2.PE.imp {X : Cx} {e : Expr} {t t' : TE} (h : PE X e t) (i : ∀ σ H Q, t' σ H Q → t σ H Q) : PE X e t' := ⟨fun pins s σ H Q I q => h.run pins s σ H Q I (i _ _ _ q)⟩
theorem _root_.L2.PT.imp {X : Cx} {e : Expr} {t t' : TT} (h : PT X e t) (i : ∀ σ H Q, t' σ H Q → t σ H Q) : PT X e t' := ⟨fun pins s σ H Q I q => h.run pins s σ H Q I (i _ _ _ q)⟩
theorem _root_.L2.PA.imp {X : Cx} {e : List Expr} {t t' : TA} (h : PA X e t) (i : ∀ σ H Q, t' σ H Q → t σ H Q) : PA X e t' := ⟨fun pos pins s σ H Q I q => h.run pos pins s σ H Q I (i _ _ _ q)⟩
theorem _root_.L2.PS.imp {X : Cx} {e : Stmt} {t t' : TS} (h : PS X e t) (i : ∀ D σ H, t' D σ H → t D σ H) : PS X e t' := ⟨fun pins s σ H D I q => h.run pins s σ H D I (i _ _ _ q)⟩
theorem _root_.L2.PSs.imp {X : Cx} {e : List Stmt} {t t' : TS} (h : PSs X e t) (i : ∀ D σ H, t' D σ H → t D σ H) : PSs X e t' := ⟨fun pins s σ H D I q => h.run pins s σ H D I (i _ _ _ q)⟩
theorem _root_.L2.PG.imp {X : Cx} {e : Expr} {t t' : TG} (h : PG X e t) (i : ∀ v σ H Q, t' v σ H Q → t v σ H Q) : PG X e t' := ⟨fun pins s σ H v u Q I r q => h.run pins s σ H v u Q I r (i _ _ _ _ q)⟩

theorem gp.bind0 {K : PySem.W.Frag} {mg : Str → Option Value} {γ δ : Type} {α : List Addr} {F H : Hp} {o : Out γ} {X : XK} {k : γ → Mu → Out δ} {G : δ → Mu → List Addr → Hp → Hp → Prop} (h : gp K mg α F H (o.bind k) G X) :
    gp K mg α F H o (fun c μ' _ _ _ => gp K mg α F H (k c μ') G X) X := by
  cases o with
  | ok c μ' => exact fun α' F' H' e r => h
  | err x ws μ' => exact h
  | bad => exact h

/-! ### what functions on values ask -/
/-- a result of an operation that raises nothing -/
def r1G (K : PySem.W.Frag) (mg : Str → Option Value) (g : Wv → Mu → Out Wv) : V → Hp → VK → Prop := fun x H Q => ∃ μ α F w, Rep K α F μ H ∧ Rw K α F x w ∧ gp K mg α F H (g w μ) (Gw K Q) (fun _ _ _ => False)
def r2G (K : PySem.W.Frag) (mg : Str → Option Value) (g : Wv → Wv → Mu → Out Wv) : R2 := fun x y H Q => ∃ μ α F w1 w2, Rep K α F μ H ∧ Rw K α F x w1 ∧ Rw K α F y w2 ∧ gp K mg α F H (g w1 w2 μ) (Gw K Q) (fun _ _ _ => False)
def rnG (K : PySem.W.Frag) (mg : Str → Option Value) (g : List Wv → Mu → Out Wv) : List V → Hp → VK → Prop := fun xs H Q => ∃ μ α F ws, Rep K α F μ H ∧ Rws K α F xs ws ∧ gp K mg α F H (g ws μ) (Gw K Q) (fun _ _ _ => False)
/-- raising turned into nothing promised -/
def calm {γ : Type} (o : Out γ) : Out γ := match o with
  | .ok c μ => .ok c μ
  | _ => .bad
theorem gp.calm {K : PySem.W.Frag} {mg : Str → Option Value} {γ : Type} {α : List Addr} {F H : Hp} {o : Out γ} {G : γ → Mu → List Addr → Hp → Hp → Prop} {X X' : XK} (h : gp K mg α F H (TL.calm o) G X) : gp K mg α F H o G X' := by
  cases o with
  | ok c μ' => exact h
  | err x ws μ' => exact h.elim
  | bad => exact h
theorem gp.none {K : PySem.W.Frag} {mg : Str → Option Value} {γ : Type} {α : List Addr} {F H : Hp} {o : Out γ} {G : γ → Mu → List Addr → Hp → Hp → Prop} {X : XK} (h : gp K mg α F H (TL.calm o) G X) : gp K mg α F H (TL.calm o) G (fun _ _ _ => False) := by
  cases o with
  | ok c μ' => exact h
  | err x ws μ' => exact h.elim
  | bad => exact h

/-! ### semantic combinators -/
def eVar (i : Nat) : Ev := fun ρ μ => match ρ[i]? with
  | some (some w) => .ok w μ
  | _ => .bad
def eK (x : PyData) : Ev := fun _ μ => .ok (.d x) μ
def e1 (g : Wv → Mu → Out Wv) (a : Ev) : Ev := fun ρ μ => (a ρ μ).bind fun w μ1 => calm (g w μ1)
def e2 (g : Wv → Wv → Mu → Out Wv) (a b : Ev) : Ev := fun ρ μ => (a ρ μ).bind fun w μ1 => (b ρ μ1).bind fun u μ2 => calm (g w u μ2)
def en (g : List Wv → Mu → Out Wv) (as : Av) : Ev := fun ρ μ => (as ρ μ).bind fun ws μ1 => calm (g ws μ1)
def eCall (g : List Wv → Mu → Out Wv) (as : Av) : Ev := fun ρ μ => (as ρ μ).bind g
def aNil : Av := fun _ μ => .ok [] μ
def aCons (a : Ev) (as : Av) : Av := fun ρ μ => (a ρ μ).bind fun w μ1 => (as ρ μ1).bind fun ws μ2 => .ok (w :: ws) μ2
/-- all are data -/
def allD : List Wv → Option (List PyData)
  | [] => some []
  | .d x :: r => (allD r).map (x :: ·)
  | .r _ :: _ => none
def lDisp (as : Av) : Lv := fun ρ μ => (as ρ μ).bind fun ws μ1 => match allD ws with
  | some c => if c.length ≤ 16777216 then .ok c μ1 else .bad
  | none => .bad
def eTup (as : Av) : Ev := fun ρ μ => (lDisp as ρ μ).bind fun c μ1 => .ok (.d (.tuple c)) μ1
def eFrz (l : Lv) : Ev := fun ρ μ => (l ρ μ).bind fun c μ1 => .ok (.d (.list c)) μ1
def eNew (l : Lv) : Ev := fun ρ μ => (l ρ μ).bind fun c μ1 => .ok (.r μ1.length) (μ1 ++ [some c])
def wB (w : Wv) (μ : Mu) : Out Bool := match w with
  | .d (.bool b) => .ok b μ
  | _ => .bad
def tB' (a : Ev) : Bv := fun ρ μ => (a ρ μ).bind wB
def eB (a : Bv) : Ev := fun ρ μ => (a ρ μ).bind fun b μ1 => .ok (.d (.bool b)) μ1
def bNot (a : Bv) : Bv := fun ρ μ => (a ρ μ).bind fun b μ1 => .ok (!b) μ1
def bAnd (a b : Bv) : Bv := fun ρ μ => (a ρ μ).bind fun c μ1 => if c = true then b ρ μ1 else .ok false μ1
def bOr (a b : Bv) : Bv := fun ρ μ => (a ρ μ).bind fun c μ1 => if c = true then .ok true μ1 else b ρ μ1
def eAnd (a b : Ev) : Ev := fun ρ μ => (a ρ μ).bind fun w μ0 => (wB w μ0).bind fun c μ1 => if c = true then b ρ μ1 else .ok (.d (.bool false)) μ1
def eOr (a b : Ev) : Ev := fun ρ μ => (a ρ μ).bind fun w μ0 => (wB w μ0).bind fun c μ1 => if c = true then .ok (.d (.bool true)) μ1 else b ρ μ1
def eNot (a : Ev) : Ev := fun ρ μ => (a ρ μ).bind fun w μ0 => (wB w μ0).bind fun c μ1 => .ok (.d (.bool (!c))) μ1
def eIf (c : Bv) (a b : Ev) : Ev := fun ρ μ => (c ρ μ).bind fun c μ1 => if c = true then a ρ μ1 else b ρ μ1
def bIf (c : Bv) (a b : Bv) : Bv := fun ρ μ => (c ρ μ).bind fun c μ1 => if c = true then a ρ μ1 else b ρ μ1

theorem wB_ok {K : PySem.W.Frag} {mg : Str → Option Value} {α : List Addr} {F H : Hp} {w : Wv} {v : V} {μ : Mu} {G : Bool → Mu → List Addr → Hp → Hp → Prop} {X : XK} (h : gp K mg α F H (wB w μ) G X) (r : Rw K α F v w) : ∃ b, v = .bl b ∧ w = .d (.bool b) ∧ gp K mg α F H (.ok b μ) G X := by
  cases w with
  | r k => exact h.elim
  | d x =>
    cases x with
    | bool b =>
      cases r
      exact ⟨b, rfl, rfl, h⟩
    | _ => exact h.elim

section
variable {X : Cx} {W : WX}
theorem se_var {i : Nat} {x : Str} {pos : Pos} (hN : X.N[i]? = some x) (hv : Vis X.env.scope x) (hd : (x == ("__debug__" : Str)) = false) (hcd : (x == ("__classdict__" : Str)) = false) : SE X W (.Name x pos) (eVar i) := by
  refine (pe_var hN hv hd hcd).imp fun σ H Q h => ?_
  obtain ⟨ρ, μ, α, F, r, re, q⟩ := h
  unfold eVar at q
  split at q
  · rename_i w e
    obtain ⟨v, h1, h2⟩ := re.at_ i w e
    exact ⟨v, h1, q.now r v h2⟩
  · exact q.elim
theorem se_int {i j pos} : SE X W (.Constant (.int i) j pos) (eK (.int i)) := pe_int.imp fun σ H Q ⟨_, _, _, _, r, _, q⟩ => q.now r _ (.int i)
theorem se_str {i j pos} : SE X W (.Constant (.str i) j pos) (eK (.str i)) := pe_str.imp fun σ H Q ⟨_, _, _, _, r, _, q⟩ => q.now r _ (.str i)
theorem se_bl {i j pos} : SE X W (.Constant (.bool i) j pos) (eK (.bool i)) := pe_bl.imp fun σ H Q ⟨_, _, _, _, r, _, q⟩ => q.now r _ (.bl i)
theorem se_non {j pos} : SE X W (.Constant .none j pos) (eK .none) := pe_non.imp fun σ H Q ⟨_, _, _, _, r, _, q⟩ => q.now r _ .non
/-- a constant of the module -/
theorem se_glob {x : Str} {v : V} {u : Value} {c : PyData} {pos : Pos} (hg : Gl X x) (hm : X.mg x = some u) (r : RelV v u) (hc : ∀ F, Dq X.K F v c) (hd : (x == ("__debug__" : Str)) = false) : SE X W (.Name x pos) (eK c) :=
  (pe_glob hg hm r hd).imp fun σ H Q ⟨_, _, _, _, r, _, q⟩ => q.now r _ (hc _)

/-! arguments -/
theorem sa_nil : SA X W [] aNil := pa_nil.imp fun σ H Q ⟨_, _, _, _, r, _, q⟩ => q.now r [] .nil
theorem sa_cons {e : Expr} {es : List Expr} {a : Ev} {as : Av} (ha : SE X W e a) (hr : SA X W es as) (hs : starEach (e :: es) X.env = (false, eval e X.env) :: starEach es X.env) : SA X W (e :: es) (aCons a as) := by
  refine (pa_cons ha hr hs).imp fun σ H Q ⟨ρ, μ, α, F, r, re, q⟩ => ?_
  refine ⟨ρ, μ, α, F, r, re, q.bind.mono fun w μ1 α1 F1 H1 x1 r1 q1 v rv => ?_⟩
  refine ⟨ρ, μ1, α1, F1, r1, re.ext x1, q1.bind.mono fun ws μ2 α2 F2 H2 x2 r2 q2 vs rvs => ?_⟩
  exact q2.now r2 (v :: vs) (.cons (rv.ext x2) rvs)

/-! operators on values -/
theorem se_op {a b : Expr} {op : Operator} {pos : Pos} {g : Wv → Wv → Mu → Out Wv} {fa fb : Ev} (ho : OpR X (binaryOp op) (r2G X.K X.mg g)) (ha : SE X W a fa) (hb : SE X W b fb) : SE X W (.BinOp a op b pos) (e2 g fa fb) := by
  refine (pe_op ho ha hb).imp fun σ H Q ⟨ρ, μ, α, F, r, re, q⟩ => ?_
  refine ⟨ρ, μ, α, F, r, re, q.bind.mono fun w μ1 α1 F1 H1 x1 r1 q1 v rv => ?_⟩
  refine ⟨ρ, μ1, α1, F1, r1, re.ext x1, q1.bind.mono fun u μ2 α2 F2 H2 x2 r2 q2 v' rv' => ?_⟩
  exact ⟨μ2, α2, F2, w, u, r2, rv.ext x2, rv', q2.calm⟩
theorem se_un {a : Expr} {op : UnaryOp} {pos : Pos} {g : Wv → Mu → Out Wv} {fa : Ev} (ho : UnR X (unaryOp op) (r1G X.K X.mg g)) (ha : SE X W a fa) : SE X W (.UnaryOp op a pos) (e1 g fa) := by
  refine (pe_un ho ha).imp fun σ H Q ⟨ρ, μ, α, F, r, re, q⟩ => ?_
  refine ⟨ρ, μ, α, F, r, re, q.bind.mono fun w μ1 α1 F1 H1 x1 r1 q1 v rv => ?_⟩
  exact ⟨μ1, α1, F1, w, r1, rv, q1.calm⟩
theorem se_cmp {a b : Expr} {op : CmpOp} {pos : Pos} {g : Wv → Wv → Mu → Out Wv} {fa fb : Ev} (ho : OpR X (compareOp op) (r2G X.K X.mg g)) (ha : SE X W a fa) (hb : SE X W b fb) (hm : behindInMarks op b = false) : SE X W (.Compare a [op] [b] pos) (e2 g fa fb) := by
  refine (pe_cmpR ho ha hb hm).imp fun σ H Q ⟨ρ, μ, α, F, r, re, q⟩ => ?_
  refine ⟨ρ, μ, α, F, r, re, q.bind.mono fun w μ1 α1 F1 H1 x1 r1 q1 v rv => ?_⟩
  refine ⟨ρ, μ1, α1, F1, r1, re.ext x1, q1.bind.mono fun u μ2 α2 F2 H2 x2 r2 q2 v' rv' => ?_⟩
  exact ⟨μ2, α2, F2, w, u, r2, rv.ext x2, rv', q2.calm⟩
theorem st_cmp {a b : Expr} {op : CmpOp} {pos : Pos} {g : Wv → Wv → Mu → Out Wv} {fa fb : Ev} (ho : OpR X (compareOp op) (r2G X.K X.mg g)) (ha : SE X W a fa) (hb : SE X W b fb) (hm : behindInMarks op b = false) : ST X W (.Compare a [op] [b] pos) (tB' (e2 g fa fb)) := by
  refine (pt_cmpR ho ha hb hm).imp fun σ H Q ⟨ρ, μ, α, F, r, re, q⟩ => ?_
  refine ⟨ρ, μ, α, F, r, re, q.bind.bind.mono fun w μ1 α1 F1 H1 x1 r1 q1 v rv => ?_⟩
  refine ⟨ρ, μ1, α1, F1, r1, re.ext x1, q1.bind.mono fun u μ2 α2 F2 H2 x2 r2 q2 v' rv' => ?_⟩
  refine ⟨μ2, α2, F2, w, u, r2, rv.ext x2, rv', q2.calm.mono fun z μ3 α3 F3 H3 x3 r3 q3 v3 rv3 => ?_⟩
  obtain ⟨c, rfl, rfl, q4⟩ := wB_ok q3 rv3
  exact ⟨c, rfl, q4.now r3⟩
theorem st_val {e : Expr} {f : Ev} (h : SE X W e f) (he : ∀ whole, isTrue e X.env whole = (do let v ← whole; standAt e.pos; holding [v] (truthy v))) : ST X W e (tB' f) := by
  refine (pt_val h he).imp fun σ H Q ⟨ρ, μ, α, F, r, re, q⟩ => ?_
  refine ⟨ρ, μ, α, F, r, re, q.bind.mono fun w μ1 α1 F1 H1 x1 r1 q1 v rv => ?_⟩
  obtain ⟨c, rfl, rfl, q2⟩ := wB_ok q1 rv
  exact ⟨c, rfl, q2.now r1⟩
theorem st_not {a : Expr} {pos : Pos} {f : Bv} (ha : ST X W a f) : ST X W (.UnaryOp .Not a pos) (bNot f) := by
  refine (pt_not ha).imp fun σ H Q ⟨ρ, μ, α, F, r, re, q⟩ => ?_
  exact ⟨ρ, μ, α, F, r, re, q.bind.mono fun w μ1 α1 F1 H1 x1 r1 q1 => q1.now r1⟩
abbrev SW (X : Cx) (W : WX) (e : Expr) (f : Bv) : Prop := PW X e (tT X.K X.mg W f)
theorem _root_.L2.PW.imp {X : Cx} {e : Expr} {t t' : TT} (h : PW X e t) (i : ∀ σ H Q, t' σ H Q → t σ H Q) : PW X e t' := ⟨fun wh pins s σ H Q I q => h.run wh pins s σ H Q I (i _ _ _ q)⟩
theorem sw_and {a b : Expr} {rest : List Expr} {pos : Pos} {f g : Bv} (ha : ST X W a f) (hb : SW X W (.BoolOp .And (b :: rest) pos) g) : SW X W (.BoolOp .And (a :: b :: rest) pos) (bAnd f g) := by
  refine (pw_and ha hb).imp fun σ H Q ⟨ρ, μ, α, F, r, re, q⟩ => ?_
  refine ⟨ρ, μ, α, F, r, re, q.bind.mono fun c μ1 α1 F1 H1 x1 r1 q1 => ?_⟩
  cases c with
  | true => exact ⟨ρ, μ1, α1, F1, r1, re.ext x1, q1⟩
  | false => exact q1.now r1
theorem sw_or {a b : Expr} {rest : List Expr} {pos : Pos} {f g : Bv} (ha : ST X W a f) (hb : SW X W (.BoolOp .Or (b :: rest) pos) g) : SW X W (.BoolOp .Or (a :: b :: rest) pos) (bOr f g) := by
  refine (pw_or ha hb).imp fun σ H Q ⟨ρ, μ, α, F, r, re, q⟩ => ?_
  refine ⟨ρ, μ, α, F, r, re, q.bind.mono fun c μ1 α1 F1 H1 x1 r1 q1 => ?_⟩
  cases c with
  | false => exact ⟨ρ, μ1, α1, F1, r1, re.ext x1, q1⟩
  | true => exact q1.now r1
theorem sw_and1 {a : Expr} {pos : Pos} {f : Bv} (ha : ST X W a f) : SW X W (.BoolOp .And [a] pos) f := pw_and1 ha
theorem sw_or1 {a : Expr} {pos : Pos} {f : Bv} (ha : ST X W a f) : SW X W (.BoolOp .Or [a] pos) f := pw_or1 ha
theorem se_and {a b : Expr} {rest : List Expr} {pos : Pos} {f g : Ev} (ha : SE X W a f) (hb : SE X W (.BoolOp .And (b :: rest) pos) g) : SE X W (.BoolOp .And (a :: b :: rest) pos) (eAnd f g) := by
  refine (pe_and ha hb).imp fun σ H Q ⟨ρ, μ, α, F, r, re, q⟩ => ?_
  refine ⟨ρ, μ, α, F, r, re, q.bind.mono fun w μ1 α1 F1 H1 x1 r1 q1 v rv => ?_⟩
  obtain ⟨c, rfl, rfl, q2⟩ := wB_ok q1.bind0 rv
  refine ⟨c, rfl, ?_⟩
  cases c with
  | true => exact ⟨ρ, μ1, α1, F1, r1, re.ext x1, q1⟩
  | false => exact gp.now (c := Wv.d (.bool false)) q1 r1 _ (.bl false)
theorem se_or {a b : Expr} {rest : List Expr} {pos : Pos} {f g : Ev} (ha : SE X W a f) (hb : SE X W (.BoolOp .Or (b :: rest) pos) g) : SE X W (.BoolOp .Or (a :: b :: rest) pos) (eOr f g) := by
  refine (pe_or ha hb).imp fun σ H Q ⟨ρ, μ, α, F, r, re, q⟩ => ?_
  refine ⟨ρ, μ, α, F, r, re, q.bind.mono fun w μ1 α1 F1 H1 x1 r1 q1 v rv => ?_⟩
  obtain ⟨c, rfl, rfl, q2⟩ := wB_ok q1.bind0 rv
  refine ⟨c, rfl, ?_⟩
  cases c with
  | false => exact ⟨ρ, μ1, α1, F1, r1, re.ext x1, q1⟩
  | true => exact gp.now (c := Wv.d (.bool true)) q1 r1 _ (.bl true)
theorem se_one {op} {a : Expr} {pos : Pos} {f : Ev} (h : SE X W a f) : SE X W (.BoolOp op [a] pos) f := pe_one h
theorem se_not {a : Expr} {pos : Pos} {f : Ev} (ha : SE X W a f) : SE X W (.UnaryOp .Not a pos) (eNot f) := by
  refine (pe_not ha).imp fun σ H Q ⟨ρ, μ, α, F, r, re, q⟩ => ?_
  refine ⟨ρ, μ, α, F, r, re, q.bind.mono fun w μ1 α1 F1 H1 x1 r1 q1 v rv => ?_⟩
  obtain ⟨c, rfl, rfl, q2⟩ := wB_ok q1.bind0 rv
  exact ⟨c, rfl, gp.now (c := Wv.d (.bool (!c))) q1 r1 _ (.bl _)⟩
theorem se_if {c a b : Expr} {pos : Pos} {fc : Bv} {fa fb : Ev} (hc : ST X W c fc) (ha : SE X W a fa) (hb : SE X W b fb) : SE X W (.IfExp c a b pos) (eIf fc fa fb) := by
  refine (pe_ifExp hc ha hb).imp fun σ H Q ⟨ρ, μ, α, F, r, re, q⟩ => ?_
  refine ⟨ρ, μ, α, F, r, re, q.bind.mono fun c μ1 α1 F1 H1 x1 r1 q1 => ?_⟩
  cases c with
  | true => exact ⟨ρ, μ1, α1, F1, r1, re.ext x1, q1⟩
  | false => exact ⟨ρ, μ1, α1, F1, r1, re.ext x1, q1⟩

/-! displays -/
theorem allD_ok {K : PySem.W.Frag} {α : List Addr} {F : Hp} : ∀ {ws : List Wv} {c : Cell} {vs : List V}, allD ws = some c → Rws K α F vs ws → DqAll K F vs c
  | [], c, _, h, r => by
    cases r
    cases h
    exact .nil
  | .d x :: ws, c, _, h, r => by
    cases r with
    | cons r1 r2 =>
      unfold allD at h
      cases e : allD ws with
      | none =>
        rw [e] at h
        cases h
      | some c' =>
        rw [e] at h
        cases h
        exact .cons r1 (allD_ok e r2)
  | .r k :: ws, c, _, h, r => by cases h
theorem le_line {n : Nat} (h : n ≤ 16777216) : n ≤ sizeLine := by
  rw [sizeLine_eq]
  exact h
theorem sl_disp {es : List Expr} {pos : Pos} {as : Av} (h : SA X W es as) : SL X W (.List es pos) (lDisp as) := by
  refine (pe_lst h).imp fun σ H Q ⟨ρ, μ, α, F, r, re, q⟩ => ?_
  refine ⟨ρ, μ, α, F, r, re, q.bind0.mono fun ws μ1 α1 F1 H1 x1 r1 q1 vs rvs => ?_⟩
  cases e : allD ws with
  | none =>
    rw [e] at q1
    exact q1.elim
  | some c =>
    rw [e] at q1
    have q1' : gp X.K X.mg α F H (if c.length ≤ 16777216 then .ok c μ1 else .bad) (Gl' X.K H Q) (fun c d H' => W c d σ H') := q1
    have dq := allD_ok e rvs
    split at q1'
    · rename_i hl
      refine ⟨by rw [dq.length]; exact le_line hl, fun p hp => ?_⟩
      obtain ⟨r2, x2⟩ := r1.side (o := .lst vs) hp
      have hF : F1 p = none := r1.sub.free hp
      have hH : H p = none := by
        by_cases z : H p = none
        · exact z
        · exact absurd hp (x1.keep p z)
      exact q1'.at (x1.trans x2) r2 p vs hH upd_same hF (fun m => r1.had p m hp) dq
    · exact q1'.elim
theorem se_tup {es : List Expr} {x1} {pos : Pos} {as : Av} (h : SA X W es as) : SE X W (.Tuple es x1 pos) (eTup as) := by
  refine (pe_tup h).imp fun σ H Q ⟨ρ, μ, α, F, r, re, q⟩ => ?_
  refine ⟨ρ, μ, α, F, r, re, q.bind.bind.mono fun ws μ1 α1 F1 H1 x1 r1 q1 vs rvs => ?_⟩
  cases e : allD ws with
  | none =>
    rw [e] at q1
    exact q1.elim
  | some c =>
    rw [e] at q1
    have dq := allD_ok e rvs
    by_cases hl : c.length ≤ 16777216
    · have q2 : gp X.K X.mg α1 F1 H1 ((if c.length ≤ 16777216 then Out.ok c μ1 else .bad).bind fun c μ1 => .ok (.d (.tuple c)) μ1) (Gw X.K Q) (fun c d H' => W c d σ H') := by
        cases z : (if c.length ≤ 16777216 then Out.ok c μ1 else .bad) with
        | ok c' μ' =>
          have : gp X.K X.mg α1 F1 H1 (if c.length ≤ 16777216 then Out.ok c μ1 else .bad) _ _ := q1
          rw [z] at this
          exact fun α' F' H' e r => gp.now (this α' F' H' e r) r
        | err x ws μ' =>
          rw [if_pos hl] at z
          cases z
        | bad =>
          rw [if_pos hl] at z
          cases z
      rw [if_pos hl] at q2
      refine ⟨by rw [dq.length]; exact le_line hl, fun p hp => ?_⟩
      obtain ⟨r2, x2⟩ := r1.new (o := .tup vs) hp
      exact q2.at x2 r2 _ (.tup (.of upd_same) (dq.mono x2.fro))
    · have : gp X.K X.mg α1 F1 H1 (if c.length ≤ 16777216 then Out.ok c μ1 else .bad) _ _ := q1
      rw [if_neg hl] at this
      exact this.elim
theorem Ext.frozen {α α' : List Addr} {F F' H H' : Hp} {D : Addr} {o : HO} (e : Ext α F H α' F' H') (hD : H D = none) (hF : F' D = none) : Ext α F H α' (upd F' D o) H' :=
  ⟨e.pre, fun b u h => by
    have := e.fro _ _ h
    rw [upd_ne (ne_of_none this hF)]
    exact this, e.frame, e.keep, fun a h => by
    by_cases z : a = D
    · subst z
      exact .inr (.inl hD)
    · rw [upd_ne z] at h
      exact e.newF a h, e.newA⟩
theorem Ext.celled {α α' : List Addr} {F F' H H' : Hp} {D : Addr} (e : Ext α F H α' F' H') (hD : H D = none) : Ext α F H (α' ++ [D]) F' H' :=
  ⟨by
    obtain ⟨β, rfl⟩ := e.pre
    exact ⟨β ++ [D], by simp⟩, e.fro, e.frame, e.keep, e.newF, fun a h => by
    rcases List.mem_append.mp h with h | h
    · exact e.newA a h
    · simp at h
      subst h
      exact .inr hD⟩
theorem same_frozen {F : Hp} {D : Addr} {o : HO} (hF : F D = none) : Same F (upd F D o) := fun b u h => by
  rw [upd_ne (ne_of_none h hF)]
  exact h
theorem se_frz {e : Expr} {l : Lv} (h : SL X W e l) : SE X W e (eFrz l) := by
  refine h.imp fun σ H Q ⟨ρ, μ, α, F, r, re, q⟩ => ?_
  refine ⟨ρ, μ, α, F, r, re, q.bind0.mono fun c μ1 α1 F1 H1 x1 r1 q1 D vs hD hD1 hF hn dq => ?_⟩
  exact q1.at (x1.frozen hD hF) (r1.freezeSide hD1 hF hn) _ (.lst (.of upd_same) (dq.mono (same_frozen hF)))
theorem se_new {e : Expr} {l : Lv} (h : SL X W e l) : SE X W e (eNew l) := by
  refine h.imp fun σ H Q ⟨ρ, μ, α, F, r, re, q⟩ => ?_
  refine ⟨ρ, μ, α, F, r, re, q.bind0.mono fun c μ1 α1 F1 H1 x1 r1 q1 D vs hD hD1 hF hn dq => ?_⟩
  refine q1.at (x1.celled hD) (r1.cellSide hD1 hF hn dq) _ ⟨D, ?_, rfl⟩
  rw [r1.len, List.getElem?_append_right (Nat.le_refl _), Nat.sub_self]
  rfl
end
end TL
/-! TL3: operators, comparisons, built-in functions by data. -/
namespace TL
open PySem PySem.Spec L2

abbrev wI (i : Int) : Wv := .d (.int i)
abbrev wBl (b : Bool) : Wv := .d (.bool b)
abbrev wS (x : Str) : Wv := .d (.str x)
abbrev wT (xs : List PyData) : Wv := .d (.tuple xs)
abbrev wL (xs : List PyData) : Wv := .d (.list xs)
def bi (b : Bool) : Int := if b = true then 1 else 0
/-- a number: an int or a truth -/
def numOf : Wv → Option Int
  | .d (.int i) => some i
  | .d (.bool b) => some (bi b)
  | _ => none
theorem num_ok {K : PySem.W.Frag} {α : List Addr} {F : Hp} {v : V} {w : Wv} {i : Int} (h : numOf w = some i) (r : Rw K α F v w) : v = .int i ∨ ∃ b, v = .bl b ∧ i = bi b := by
  cases w with
  | r k => cases h
  | d x =>
    cases x with
    | int j =>
      cases h
      cases r
      exact .inl rfl
    | bool b =>
      cases h
      cases r
      exact .inr ⟨b, rfl, rfl⟩
    | _ => cases h
/-- the line of products: bits together -/

noncomputable def mulOk (i j : Int) : Bool := @decide ((Builtin.Int.intBits i : Int) + (Builtin.Int.intBits j : Int) ≤ 134217728) (Classical.propDecidable _)

def gAdd (a b : Wv) (μ : Mu) : Out Wv :=
  match numOf a, numOf b with
  | some i, some j => .ok (wI (i + j)) μ
  | _, _ => match a, b with
    | .d (.str x), .d (.str y) => if x.length + y.length ≤ 16777216 then .ok (wS (x ++ y)) μ else .bad
    | .d (.tuple xs), .d (.tuple ys) => if xs.length + ys.length ≤ 16777216 then .ok (wT (xs ++ ys)) μ else .bad
    | _, _ => .bad
def gSub (a b : Wv) (μ : Mu) : Out Wv :=
  match numOf a, numOf b with
  | some i, some j => .ok (wI (i - j)) μ
  | _, _ => .bad
noncomputable def gMul (a b : Wv) (μ : Mu) : Out Wv :=
  match numOf a, numOf b with
  | some i, some j => if mulOk i j = true then .ok (wI (i * j)) μ else .bad
  | _, _ => .bad
def gMod (a b : Wv) (μ : Mu) : Out Wv :=
  match a, b with
  | .d (.int i), .d (.int j) => if j = 0 then .bad else .ok (wI (i.fmod j)) μ
  | _, _ => .bad
def gDiv (a b : Wv) (μ : Mu) : Out Wv :=
  match a, b with
  | .d (.int i), .d (.int j) => if j = 0 ∨ Builtin.divisionGoesByPylong i j = true then .bad else .ok (wI (i.fdiv j)) μ
  | _, _ => .bad
def gPow (a b : Wv) (μ : Mu) : Out Wv :=
  match a, b with
  | .d (.int i), .d (.int j) => if 0 ≤ j ∧ j ≤ 1000000 ∧ i.natAbs < 2 ^ 64 then .ok (wI (i ^ j.toNat)) μ else .bad
  | _, _ => .bad
def gNeg (a : Wv) (μ : Mu) : Out Wv :=
  match a with
  | .d (.int i) => .ok (wI (-i)) μ
  | _ => .bad
def gCmp (p : Int → Int → Bool) (a b : Wv) (μ : Mu) : Out Wv :=
  match a, b with
  | .d (.int i), .d (.int j) => .ok (wBl (p i j)) μ
  | _, _ => .bad

section
variable {X : Cx}
theorem op_gAdd : OpR X (binaryOp .Add) (r2G X.K X.mg gAdd) := by
  intro pins s σ H x y v u Q I rx ry ⟨μ, α, F, w1, w2, r, h1, h2, q⟩
  unfold gAdd at q
  split at q
  · rename_i i j e1 e2
    have q := q.now r _ (.int _)
    rcases num_ok e1 h1 with rfl | ⟨b1, rfl, rfl⟩ <;> rcases num_ok e2 h2 with rfl | ⟨b2, rfl, rfl⟩
    · exact op_add pins s σ H _ _ v u Q I rx ry ⟨_, _, rfl, rfl, q⟩
    · obtain ⟨t, rfl⟩ := rx
      cases ry
      exact PySem.add_int_bool ⟨.int _, H, I.tok _, ⟨_, rfl⟩, q⟩
    · obtain ⟨t, rfl⟩ := ry
      cases rx
      exact PySem.IntBool.add_bool_int ⟨.int _, H, I.tok _, ⟨_, rfl⟩, q⟩
    · cases rx
      cases ry
      exact PyProof.Rows.add_bool ⟨.int _, H, I.tok _, ⟨_, rfl⟩, q⟩
  · split at q
    · split at q
      · rename_i hl
        cases h1
        cases h2
        exact op_add_str pins s σ H _ _ v u Q I rx ry ⟨_, _, rfl, rfl, le_line hl, q.now r _ (.str _)⟩
      · exact q.elim
    · rename_i xs ys _
      split at q
      · rename_i hl
        cases h1 with
        | @tup a vs _ t1 d1 =>
          cases h2 with
          | @tup b us _ t2 d2 =>
            refine op_catA pins s σ H _ _ v u Q I rx ry ⟨a, b, vs, us, rfl, rfl, sameT r.sub t1, sameT r.sub t2, ?_, fun e => ?_, fun _ e => ?_, fun _ _ p hp => ?_⟩
            · rw [d1.length, d2.length]
              exact le_line hl
            · subst e
              cases d1
              exact q.now r _ (.tup t2 d2)
            · subst e
              cases d2
              rw [List.append_nil] at q
              exact q.now r _ (.tup t1 d1)
            · obtain ⟨r2, x2⟩ := r.new (o := .tup (vs ++ us)) hp
              exact q.at x2 r2 _ (.tup (.of upd_same) ((d1.mono x2.fro).append (d2.mono x2.fro)))
      · exact q.elim
    · exact q.elim
theorem op_gSub : OpR X (binaryOp .Sub) (r2G X.K X.mg gSub) := by
  intro pins s σ H x y v u Q I rx ry ⟨μ, α, F, w1, w2, r, h1, h2, q⟩
  unfold gSub at q
  split at q
  · rename_i i j e1 e2
    have q := q.now r _ (.int _)
    rcases num_ok e1 h1 with rfl | ⟨b1, rfl, rfl⟩ <;> rcases num_ok e2 h2 with rfl | ⟨b2, rfl, rfl⟩
    · exact op_sub pins s σ H _ _ v u Q I rx ry ⟨_, _, rfl, rfl, q⟩
    · obtain ⟨t, rfl⟩ := rx
      cases ry
      exact PySem.IntBool.sub_int_bool ⟨.int _, H, I.tok _, ⟨_, rfl⟩, q⟩
    · obtain ⟨t, rfl⟩ := ry
      cases rx
      exact PySem.IntBool.sub_bool_int ⟨.int _, H, I.tok _, ⟨_, rfl⟩, q⟩
    · cases rx
      cases ry
      exact PyProof.Rows.sub_bool ⟨.int _, H, I.tok _, ⟨_, rfl⟩, q⟩
  · exact q.elim
theorem op_gMul : OpR X (binaryOp .Mult) (r2G X.K X.mg gMul) := by
  intro pins s σ H x y v u Q I rx ry ⟨μ, α, F, w1, w2, r, h1, h2, q⟩
  unfold gMul at q
  split at q
  · rename_i i j e1 e2
    split at q
    · rename_i hm
      have q := q.now r _ (.int _)
      rcases num_ok e1 h1 with rfl | ⟨b1, rfl, rfl⟩ <;> rcases num_ok e2 h2 with rfl | ⟨b2, rfl, rfl⟩
      · have hm' : (Builtin.Int.intBits i : Int) + (Builtin.Int.intBits j : Int) ≤ 134217728 := @of_decide_eq_true _ (Classical.propDecidable _) hm
        exact op_mulX pins s σ H _ _ v u Q I rx ry ⟨_, _, rfl, rfl, hm', q⟩
      · obtain ⟨t, rfl⟩ := rx
        cases ry
        exact PySem.IntBool.mul_int_bool ⟨.int _, H, I.tok _, ⟨_, rfl⟩, q⟩
      · obtain ⟨t, rfl⟩ := ry
        cases rx
        exact PySem.IntBool.mul_bool_int ⟨.int _, H, I.tok _, ⟨_, rfl⟩, q⟩
      · cases rx
        cases ry
        exact PyProof.Rows.mul_bool ⟨.int _, H, I.tok _, ⟨_, rfl⟩, q⟩
    · exact q.elim
  · exact q.elim
theorem op_gMod : OpR X (binaryOp .Mod) (r2G X.K X.mg gMod) := by
  intro pins s σ H x y v u Q I rx ry ⟨μ, α, F, w1, w2, r, h1, h2, q⟩
  unfold gMod at q
  split at q
  · split at q
    · exact q.elim
    · rename_i hz
      cases h1
      cases h2
      exact op_modN pins s σ H _ _ v u Q I rx ry ⟨_, _, rfl, rfl, hz, q.now r _ (.int _)⟩
  · exact q.elim
theorem op_gDiv : OpR X (binaryOp .FloorDiv) (r2G X.K X.mg gDiv) := by
  intro pins s σ H x y v u Q I rx ry ⟨μ, α, F, w1, w2, r, h1, h2, q⟩
  unfold gDiv at q
  split at q
  · split at q
    · exact q.elim
    · rename_i hz
      cases h1
      cases h2
      obtain ⟨t, rfl⟩ := rx
      obtain ⟨t', rfl⟩ := ry
      have hz' := not_or.mp hz
      exact PyProof.Rows.floordiv_int hz'.1 ⟨.int _, H, I.tok _, ⟨_, rfl⟩, q.now r _ (.int _)⟩ (.inl (by simpa using hz'.2))
  · exact q.elim
theorem op_gPow : OpR X (binaryOp .Pow) (r2G X.K X.mg gPow) := by
  intro pins s σ H x y v u Q I rx ry ⟨μ, α, F, w1, w2, r, h1, h2, q⟩
  unfold gPow at q
  split at q
  · split at q
    · rename_i hz
      cases h1
      cases h2
      exact op_pow pins s σ H _ _ v u Q I rx ry ⟨_, _, rfl, rfl, hz, q.now r _ (.int _)⟩
    · exact q.elim
  · exact q.elim
theorem un_gNeg : UnR X (unaryOp .USub) (r1G X.K X.mg gNeg) := by
  intro pins s σ H x v Q I rx ⟨μ, α, F, w1, r, h1, q⟩
  unfold gNeg at q
  split at q
  · cases h1
    exact un_neg pins s σ H _ v Q I rx ⟨_, rfl, q.now r _ (.int _)⟩
  · exact q.elim
theorem op_gLt : OpR X (compareOp .Lt) (r2G X.K X.mg (gCmp fun i j => decide (i < j))) := by
  intro pins s σ H x y v u Q I rx ry ⟨μ, α, F, w1, w2, r, h1, h2, q⟩
  unfold gCmp at q
  split at q
  · cases h1
    cases h2
    exact op_lt pins s σ H _ _ v u Q I rx ry ⟨_, _, rfl, rfl, q.now r _ (.bl _)⟩
  · exact q.elim
theorem op_gLe : OpR X (compareOp .LtE) (r2G X.K X.mg (gCmp fun i j => decide (i ≤ j))) := by
  intro pins s σ H x y v u Q I rx ry ⟨μ, α, F, w1, w2, r, h1, h2, q⟩
  unfold gCmp at q
  split at q
  · cases h1
    cases h2
    exact op_le pins s σ H _ _ v u Q I rx ry ⟨_, _, rfl, rfl, q.now r _ (.bl _)⟩
  · exact q.elim
theorem op_gGt : OpR X (compareOp .Gt) (r2G X.K X.mg (gCmp fun i j => decide (j < i))) := by
  intro pins s σ H x y v u Q I rx ry ⟨μ, α, F, w1, w2, r, h1, h2, q⟩
  unfold gCmp at q
  split at q
  · cases h1
    cases h2
    exact op_gt pins s σ H _ _ v u Q I rx ry ⟨_, _, rfl, rfl, q.now r _ (.bl _)⟩
  · exact q.elim
theorem op_gGe : OpR X (compareOp .GtE) (r2G X.K X.mg (gCmp fun i j => decide (j ≤ i))) := by
  intro pins s σ H x y v u Q I rx ry ⟨μ, α, F, w1, w2, r, h1, h2, q⟩
  unfold gCmp at q
  split at q
  · cases h1
    cases h2
    exact op_ge pins s σ H _ _ v u Q I rx ry ⟨_, _, rfl, rfl, q.now r _ (.bl _)⟩
  · exact q.elim
end

/-! ### data of a value -/
def dataOf (μ : Mu) : Wv → Option PyData
  | .d x => some x
  | .r k => (μ[k]?.join).map PyData.list
theorem data_ok {K : PySem.W.Frag} {α : List Addr} {F H : Hp} {μ : Mu} {v : V} {w : Wv} {x : PyData} (r : Rep K α F μ H) (h : dataOf μ w = some x) (q : Rw K α F v w) : Dq K H v x := by
  cases w with
  | d y =>
    cases h
    exact Dq.mono r.sub q
  | r k =>
    have h' : (μ[k]?.join).map PyData.list = some x := h
    obtain ⟨c, e, rfl⟩ := Option.map_eq_some_iff.mp h'
    have e' : μ[k]? = some (some c) := by
      cases z : μ[k]? with
      | none =>
        rw [z] at e
        cases e
      | some o =>
        rw [z] at e
        have e2 : o = some c := e
        rw [e2]
    obtain ⟨a, vs, h1, h2, h3, h4⟩ := r.cell k c e'
    obtain ⟨b, g1, rfl⟩ := q
    rw [h1] at g1
    cases g1
    exact .lst (.of h2) (h4.mono r.sub)
section
variable {X : Cx} {pins : List (Addr × Obj)} {σ : St} {H : Hp} {s : Shared}
mutual
theorem Dq.reads (I : Inv X pins σ H s) : ∀ (d : PyData) (v : V) (u : Value), Dq X.K H v d → RelV v u → ∃ as, Reads s.heap u d as ∧ ((∀ o, s.heap.get? sysModules = some o → o.cls ≠ .type "list") → sysModules ∉ as)
  | .none, _, _, h, r => by
    cases h
    cases r
    exact ⟨_, .none, by simp⟩
  | .bool b, _, _, h, r => by
    cases h
    cases r
    exact ⟨_, .bool b, by simp⟩
  | .int i, _, _, h, r => by
    cases h
    obtain ⟨t, rfl⟩ := r
    exact ⟨_, .int i t, by simp⟩
  | .str x, _, _, h, r => by
    cases h
    obtain ⟨t, rfl⟩ := r
    exact ⟨_, .str x t, by simp⟩
  | .list ds, _, _, h, r => by
    cases h with
    | lst hs ha =>
      cases r
      obtain ⟨z, its, n, rv, e⟩ := hs.ob I
      obtain ⟨as, hr, hm⟩ := Dq.readsAll I ds _ its ha rv
      refine ⟨_, .list e rfl rfl hr, fun hS hm' => ?_⟩
      rcases List.mem_cons.mp hm' with q | q
      · subst q
        exact hS _ e rfl
      · exact hm hS q
  | .tuple ds, _, _, h, r => by
    cases h with
    | tup hs ha =>
      cases r
      obtain ⟨its, rv, ⟨o, ho, hc, n, hd⟩, _⟩ := I.tuple hs
      obtain ⟨as, hr, hm⟩ := Dq.readsAll I ds _ its ha rv
      exact ⟨_, .tuple ho hc hd hr, hm⟩
  | .dict _, _, _, h, r => by
    cases h with
    | dic hs =>
      cases r
      obtain ⟨z, y, vs, kv, o, es, ep, e1, e2, e3, e4, e5, e6⟩ := I.hok _ _ hs
      cases kv
      have e7 : es.toList = [] := by
        cases q : es.toList with
        | nil => rfl
        | cons a b =>
          rw [q] at e5
          exact nomatch e5
      refine ⟨_, .dict (as := []) (bs := []) e1 e2.1 e3 (by rw [e7]; exact .nil) (by rw [e7]; exact .nil), fun _ hm => ?_⟩
      simp at hm
      rw [← hm] at y
      exact absurd y (by decide)
theorem Dq.readsAll (I : Inv X pins σ H s) : ∀ (ds : List PyData) (vs : List V) (us : List Value), DqAll X.K H vs ds → Vals vs us → ∃ as, ReadsAll s.heap us ds as ∧ ((∀ o, s.heap.get? sysModules = some o → o.cls ≠ .type "list") → sysModules ∉ as)
  | [], _, _, h, r => by
    cases h
    cases r
    exact ⟨_, .nil, by simp⟩
  | d :: ds, _, _, h, r => by
    cases h with
    | cons h1 h2 =>
      cases r with
      | cons r1 r2 =>
        obtain ⟨as, q1, m1⟩ := Dq.reads I d _ _ h1 r1
        obtain ⟨bs, q2, m2⟩ := Dq.readsAll I ds _ _ h2 r2
        exact ⟨_, .cons q1 q2, fun hS => by simp [m1 hS, m2 hS]⟩
end
end
end TL
/-! TL4: ==, in, is; built-in functions. -/
namespace TL
open PySem PySem.Spec L2

/-- what == of two data is, where the model's own comparison is known -/
def eqP : PyData → PyData → Option Bool
  | .str x, .str y => some (decide (x = y))
  | .tuple [], .tuple ys => some ys.isEmpty
  | .tuple (_ :: _), .tuple [] => some false
  | .list [], .list ys => some ys.isEmpty
  | .list (_ :: _), .list [] => some false
  | x, y => if SeqAt.shaped x = true ∧ SeqAt.shaped y = true then some (PyData.eqv x y) else none
def gEq (neg : Bool) (a b : Wv) (μ : Mu) : Out Wv :=
  match dataOf μ a, dataOf μ b with
  | some x, some y => match eqP x y with
    | some c => .ok (wBl (if neg then !c else c)) μ
    | none => .bad
  | _, _ => .bad
/-- x in c -/
def inP : PyData → PyData → Option Bool
  | .str x, .str y => some (!(Builtin.Str.occurrences y x 0 y.length 1).isEmpty)
  | x, .list ys => if SeqAt.shaped x = true ∧ SeqAt.shaped (.list ys) = true then some (ys.any fun z => PyData.eqv z x) else none
  | x, .tuple ys => if SeqAt.shaped x = true ∧ SeqAt.shaped (.tuple ys) = true then some (ys.any fun z => PyData.eqv z x) else none
  | _, _ => none
def gIn (neg : Bool) (a b : Wv) (μ : Mu) : Out Wv :=
  match dataOf μ a, dataOf μ b with
  | some x, some y => match inP x y with
    | some c => .ok (wBl (if neg then !c else c)) μ
    | none => .bad
  | _, _ => .bad
def isNoneD : PyData → Bool
  | .none => true
  | _ => false
/-- x is None -/
def gIsN (neg : Bool) (a b : Wv) (μ : Mu) : Out Wv :=
  match a, b with
  | .d x, .d .none => .ok (wBl (if neg then !isNoneD x else isNoneD x)) μ
  | .r _, .d .none => .ok (wBl neg) μ
  | _, _ => .bad

section
variable {X : Cx} {pins : List (Addr × Obj)} {σ : St} {H : Hp} {s : Shared}
theorem Dq.tupAt (I : Inv X pins σ H s) {xs : List PyData} {v : V} {u : Value} (h : Dq X.K H v (.tuple xs)) (r : RelV v u) : ∃ a its, u = .ref a ∧ s.heap.IsTuple a its ∧ its.size = xs.length := by
  cases h with
  | tup hs ha =>
    cases r
    obtain ⟨its, rv, p, _⟩ := I.tuple hs
    exact ⟨_, its.toArray, rfl, p, by rw [List.size_toArray, ← rv.length, ha.length]⟩
theorem Dq.lstAt (I : Inv X pins σ H s) {xs : List PyData} {v : V} {u : Value} (h : Dq X.K H v (.list xs)) (r : RelV v u) : ∃ a its, u = .ref a ∧ s.heap.IsList a its ∧ its.size = xs.length := by
  cases h with
  | lst hs ha =>
    cases r
    obtain ⟨z, its, n, rv, e⟩ := hs.ob I
    exact ⟨_, its.toArray, rfl, ⟨_, e, rfl, n, rfl⟩, by rw [List.size_toArray, ← rv.length, ha.length]⟩
/-- both answers at once -/
def EqN (A : Around) (s : Shared) (y x : Value) (b : Bool) : Prop := SeqAt.RcAt A s y x b ∧ SeqAt.RcNeAt A s y x (!b)
theorem eqN_tup0 {A : Around} {l b : Addr} {i1 i2 : Array Value} (hl : s.heap.IsTuple l i1) (hb : s.heap.IsTuple b i2) (hu : A.units < cLine) (h0 : i1.size = 0 ∨ i2.size = 0) : EqN A s (.ref l) (.ref b) (i1.size == i2.size) := by
  have he : ∀ j (h1 : j < i1.size) (h2 : j < i2.size), SeqAt.EqAt A.in1 s i1[j] i2[j] (true) := fun j h1 h2 => by omega
  have e : (List.range (min i1.size i2.size)).all (fun _ => true) = true := by simp
  have q1 := SeqAt.RcAt.tuples (e := fun _ => true) hl hb hu he
  have q2 := SeqAt.RcNeAt.tuples (e := fun _ => true) hl hb hu he
  rw [e, Bool.true_and] at q1 q2
  exact ⟨q1, q2⟩
theorem eqN_lst0 {A : Around} {l b : Addr} {i1 i2 : Array Value} (hl : s.heap.IsList l i1) (hb : s.heap.IsList b i2) (hu : A.units < cLine) (h0 : i1.size = 0 ∨ i2.size = 0) : EqN A s (.ref l) (.ref b) (i1.size == i2.size) := by
  by_cases hz : i1.size = i2.size
  · have he : ∀ j (h1 : j < i1.size) (h2 : j < i2.size), SeqAt.EqAt A.in1 s i1[j] i2[j] (true) := fun j h1 h2 => by omega
    have e : (List.range i1.size).all (fun _ => true) = true := by simp
    have q1 := SeqAt.RcAt.lists (e := fun _ => true) hl hb hz hu he
    have q2 := SeqAt.RcNeAt.lists (e := fun _ => true) hl hb hz hu he
    rw [e] at q1 q2
    rw [show (i1.size == i2.size) = true by simpa using hz]
    exact ⟨q1, q2⟩
  · rw [show (i1.size == i2.size) = false by simpa using hz]
    exact ⟨SeqAt.RcAt.lists_lengths hl hb (by simpa using hz) hu, SeqAt.RcNeAt.lists_lengths hl hb (by simpa using hz) hu⟩
theorem eqP_at (I : Inv X pins σ H s) (hu : X.A.units + 64 < cLine) {x y : PyData} {c : Bool} (h : eqP x y = some c) {v1 v2 : V} {u1 u2 : Value} (h1 : Dq X.K H v1 x) (h2 : Dq X.K H v2 y) (r1 : RelV v1 u1) (r2 : RelV v2 u2) {Q : VK} :
    (Q (.bl c) H → wpAny (model X.prog X.w) X.A (compareOp .Eq u1 u2) (EP X pins σ Q) X.xe s) ∧ (Q (.bl (!c)) H → wpAny (model X.prog X.w) X.A (compareOp .NotEq u1 u2) (EP X pins σ Q) X.xe s) := by
  have hu0 : X.A.units < cLine := by omega
  have fin : ∀ b : Bool, Q (.bl b) H → EP X pins σ Q (.bool b) s := fun b q => ⟨.bl b, H, I, rfl, q⟩
  have ofN : EqN X.A s u1 u2 c → (Q (.bl c) H → wpAny (model X.prog X.w) X.A (compareOp .Eq u1 u2) (EP X pins σ Q) X.xe s) ∧ (Q (.bl (!c)) H → wpAny (model X.prog X.w) X.A (compareOp .NotEq u1 u2) (EP X pins σ Q) X.xe s) :=
    fun n => ⟨fun q => n.1 _ _ _ _ (fin _ q), fun q => n.2 _ _ _ _ (fin _ q)⟩
  unfold eqP at h
  split at h
  · rename_i z1 z2
    cases h
    cases h1
    cases h2
    refine ⟨fun q => op_eq pins s σ H _ _ u1 u2 Q I r1 r2 ⟨rfl, ?_⟩, fun q => op_ne pins s σ H _ _ u1 u2 Q I r1 r2 ⟨rfl, ?_⟩⟩
    · have e : decide (V.str z1 = V.str z2) = decide (z1 = z2) := by simp
      rw [e]
      exact q
    · have e : decide (V.str z1 = V.str z2) = decide (z1 = z2) := by simp
      rw [e]
      exact q
  · rename_i ys
    cases h
    obtain ⟨a, i1, rfl, t1, z1⟩ := h1.tupAt I r1
    obtain ⟨b, i2, rfl, t2, z2⟩ := h2.tupAt I r2
    refine ofN ?_
    have q := eqN_tup0 (A := X.A) t1 t2 hu0 (.inl z1)
    have e : (i1.size == i2.size) = ys.isEmpty := by
      rw [z1, z2]
      cases ys <;> rfl
    rw [e] at q
    exact q
  · rename_i hd tl
    cases h
    obtain ⟨a, i1, rfl, t1, z1⟩ := h1.tupAt I r1
    obtain ⟨b, i2, rfl, t2, z2⟩ := h2.tupAt I r2
    refine ofN ?_
    have q := eqN_tup0 (A := X.A) t1 t2 hu0 (.inr z2)
    rw [show (i1.size == i2.size) = false by rw [z1, z2]; rfl] at q
    exact q
  · rename_i ys
    cases h
    obtain ⟨a, i1, rfl, t1, z1⟩ := h1.lstAt I r1
    obtain ⟨b, i2, rfl, t2, z2⟩ := h2.lstAt I r2
    refine ofN ?_
    have q := eqN_lst0 (A := X.A) t1 t2 hu0 (.inl z1)
    have e : (i1.size == i2.size) = ys.isEmpty := by
      rw [z1, z2]
      cases ys <;> rfl
    rw [e] at q
    exact q
  · rename_i hd tl
    cases h
    obtain ⟨a, i1, rfl, t1, z1⟩ := h1.lstAt I r1
    obtain ⟨b, i2, rfl, t2, z2⟩ := h2.lstAt I r2
    refine ofN ?_
    have q := eqN_lst0 (A := X.A) t1 t2 hu0 (.inr z2)
    rw [show (i1.size == i2.size) = false by rw [z1, z2]; rfl] at q
    exact q
  · split at h
    · rename_i hs
      cases h
      obtain ⟨as, d1, _⟩ := Dq.reads I x v1 u1 h1 r1
      obtain ⟨bs, d2, _⟩ := Dq.reads I y v2 u2 h2 r2
      exact ⟨fun q => SeqAt.compareEq_shaped d1 d2 hs.1 hs.2 hu (fin _ q), fun q => SeqAt.compareNe_shaped d1 d2 hs.1 hs.2 hu (fin _ q)⟩
    · cases h
end
section
variable {X : Cx}
theorem op_gEq (hu : X.A.units + 64 < cLine) : OpR X (compareOp .Eq) (r2G X.K X.mg (gEq false)) := by
  intro pins s σ H x y v u Q I rx ry ⟨μ, α, F, w1, w2, r, h1, h2, q⟩
  unfold gEq at q
  split at q
  · rename_i a b e1 e2
    split at q
    · rename_i c e
      exact (eqP_at I hu e (data_ok r e1 h1) (data_ok r e2 h2) rx ry).1 (q.now r _ (.bl _))
    · exact q.elim
  · exact q.elim
theorem op_gNe (hu : X.A.units + 64 < cLine) : OpR X (compareOp .NotEq) (r2G X.K X.mg (gEq true)) := by
  intro pins s σ H x y v u Q I rx ry ⟨μ, α, F, w1, w2, r, h1, h2, q⟩
  unfold gEq at q
  split at q
  · rename_i a b e1 e2
    split at q
    · rename_i c e
      exact (eqP_at I hu e (data_ok r e1 h1) (data_ok r e2 h2) rx ry).2 (q.now r _ (.bl _))
    · exact q.elim
  · exact q.elim
theorem shaped_all {xs : List PyData} (h : SeqAt.shaped (.tuple xs) = true) : PyData.canLayAll0 xs = true ∧ PyData.depthAll xs ≤ 64 := by
  have h1 := SeqAt.canLay_of_shaped h
  have h2 := SeqAt.depth_of_shaped h
  refine ⟨by simpa only [PyData.canLay0] using h1, ?_⟩
  simp only [PyData.depth] at h2
  omega
theorem shaped_allL {xs : List PyData} (h : SeqAt.shaped (.list xs) = true) : PyData.canLayAll0 xs = true ∧ PyData.depthAll xs ≤ 64 := by
  have h1 := SeqAt.canLay_of_shaped h
  have h2 := SeqAt.depth_of_shaped h
  refine ⟨by simpa only [PyData.canLay0] using h1, ?_⟩
  simp only [PyData.depth] at h2
  omega
theorem inP_at {pins : List (Addr × Obj)} {σ : St} {H : Hp} {s : Shared} (I : Inv X pins σ H s) (hu : X.A.units + 65 < cLine) {x y : PyData} {c : Bool} (h : inP x y = some c) {v1 v2 : V} {u1 u2 : Value} (h1 : Dq X.K H v1 x) (h2 : Dq X.K H v2 y) (r1 : RelV v1 u1) (r2 : RelV v2 u2) {Q : VK} :
    (Q (.bl c) H → wpAny (model X.prog X.w) X.A (compareOp .In u1 u2) (EP X pins σ Q) X.xe s) ∧ (Q (.bl (!c)) H → wpAny (model X.prog X.w) X.A (compareOp .NotIn u1 u2) (EP X pins σ Q) X.xe s) := by
  have fin : ∀ b : Bool, Q (.bl b) H → EP X pins σ Q (.bool b) s := fun b q => ⟨.bl b, H, I, rfl, q⟩
  unfold inP at h
  split at h
  · cases h
    cases h1
    cases h2
    exact ⟨fun q => op_in_str pins s σ H _ _ u1 u2 Q I r1 r2 ⟨_, _, rfl, rfl, q⟩, fun q => op_notin_str pins s σ H _ _ u1 u2 Q I r1 r2 ⟨_, _, rfl, rfl, q⟩⟩
  · split at h
    · rename_i hs
      cases h
      obtain ⟨as, d1, _⟩ := Dq.reads I _ v1 u1 h1 r1
      obtain ⟨bs, d2, _⟩ := Dq.reads I _ v2 u2 h2 r2
      obtain ⟨c1, c2⟩ := shaped_allL hs.2
      have hm : ∀ n : Nat, X.A.units + 1 + min (PyData.depthAll _) n < cLine := fun n => Nat.lt_of_le_of_lt (Nat.add_le_add_left (Nat.le_trans (Nat.min_le_left _ _) c2) _) (by omega)
      exact ⟨fun q => SeqAt.in_list_reads d2 d1 c1 (SeqAt.canLay_of_shaped hs.1) (hm _) (fin _ q), fun q => SeqAt.notIn_list_reads d2 d1 c1 (SeqAt.canLay_of_shaped hs.1) (hm _) (fin _ q)⟩
    · cases h
  · split at h
    · rename_i hs
      cases h
      obtain ⟨as, d1, _⟩ := Dq.reads I _ v1 u1 h1 r1
      obtain ⟨bs, d2, _⟩ := Dq.reads I _ v2 u2 h2 r2
      obtain ⟨c1, c2⟩ := shaped_all hs.2
      have hm : ∀ n : Nat, X.A.units + 1 + min (PyData.depthAll _) n < cLine := fun n => Nat.lt_of_le_of_lt (Nat.add_le_add_left (Nat.le_trans (Nat.min_le_left _ _) c2) _) (by omega)
      exact ⟨fun q => SeqAt.in_tuple_reads d2 d1 c1 (SeqAt.canLay_of_shaped hs.1) (hm _) (fin _ q), fun q => SeqAt.notIn_tuple_reads d2 d1 c1 (SeqAt.canLay_of_shaped hs.1) (hm _) (fin _ q)⟩
    · cases h
  · cases h
theorem op_gIn (hu : X.A.units + 65 < cLine) : OpR X (compareOp .In) (r2G X.K X.mg (gIn false)) := by
  intro pins s σ H x y v u Q I rx ry ⟨μ, α, F, w1, w2, r, h1, h2, q⟩
  unfold gIn at q
  split at q
  · rename_i a b e1 e2
    split at q
    · rename_i c e
      exact (inP_at I hu e (data_ok r e1 h1) (data_ok r e2 h2) rx ry).1 (q.now r _ (.bl _))
    · exact q.elim
  · exact q.elim
theorem op_gNotIn (hu : X.A.units + 65 < cLine) : OpR X (compareOp .NotIn) (r2G X.K X.mg (gIn true)) := by
  intro pins s σ H x y v u Q I rx ry ⟨μ, α, F, w1, w2, r, h1, h2, q⟩
  unfold gIn at q
  split at q
  · rename_i a b e1 e2
    split at q
    · rename_i c e
      exact (inP_at I hu e (data_ok r e1 h1) (data_ok r e2 h2) rx ry).2 (q.now r _ (.bl _))
    · exact q.elim
  · exact q.elim
theorem isNoneD_ok {K : PySem.W.Frag} {F : Hp} {v : V} {x : PyData} (h : Dq K F v x) : decide (v = .non) = isNoneD x := by
  cases h <;> simp [isNoneD]
theorem op_gIs : OpR X (compareOp .Is) (r2G X.K X.mg (gIsN false)) := by
  intro pins s σ H x y v u Q I rx ry ⟨μ, α, F, w1, w2, r, h1, h2, q⟩
  unfold gIsN at q
  split at q
  · cases h2
    refine op_isN pins s σ H _ _ v u Q I rx ry ⟨rfl, ?_⟩
    rw [isNoneD_ok h1]
    exact q.now r _ (.bl _)
  · cases h2
    obtain ⟨a, _, rfl⟩ := h1
    exact op_isN pins s σ H _ _ v u Q I rx ry ⟨rfl, q.now r _ (.bl _)⟩
  · exact q.elim
theorem op_gIsNot : OpR X (compareOp .IsNot) (r2G X.K X.mg (gIsN true)) := by
  intro pins s σ H x y v u Q I rx ry ⟨μ, α, F, w1, w2, r, h1, h2, q⟩
  unfold gIsN at q
  split at q
  · cases h2
    refine op_notN pins s σ H _ _ v u Q I rx ry ⟨rfl, ?_⟩
    rw [isNoneD_ok h1]
    exact q.now r _ (.bl _)
  · cases h2
    obtain ⟨a, _, rfl⟩ := h1
    exact op_notN pins s σ H _ _ v u Q I rx ry ⟨rfl, q.now r _ (.bl _)⟩
  · exact q.elim
end
end TL
/-! TL5: what a def promises where nothing is being printed (so that repr is known); calls. -/
namespace TL
open PySem PySem.Spec L2 PyProof.Rows

/-- as the layer's promise, told only of calls around which no repr runs -/
structure FnG (P : Program) (w : World) (K : PySem.W.Frag) (mg : Str → Option Value) (base : Heap) (k : Nat) (f : Addr) (fd : FuncData) (ps : List Str) (sp : Sp) : Prop where
  len : ∀ vs H Q E, sp vs H Q E → vs.length = ps.length
  run : ∀ (A : Around) (outer : List Env) (s : Shared) (H : Hp) (args : Args) (us : List Value) (vs : List V) (Q : VK) (E : XK), Room k A → A.guards = some [] →
    Env0 P w K mg base A outer s H → BindsTo s fd args (ps.zip us) → Vals vs us → sp vs H Q E → codeAny (model P w) A (.call (.ref f) args) (CR (L2.CX P w) outer P w H s Q E) s
theorem FnG.up {P : Program} {w : World} {K : PySem.W.Frag} {mg : Str → Option Value} {base : Heap} {j k : Nat} {f : Addr} {fd : FuncData} {ps : List Str} {sp : Sp} (G : FnG P w K mg base j f fd ps sp) (h : j ≤ k) : FnG P w K mg base k f fd ps sp :=
  ⟨G.len, fun A outer s H args us vs Q E hr => G.run A outer s H args us vs Q E (hr.mono h)⟩

/-- a def of the text keeps its promise by its body's reading -/
theorem fng_of {P : Program} {w : World} {K : PySem.W.Frag} {mg : Str → Option Value} {base : Heap} {k : Nat} {f : Addr} {x qual : Str} {st : Stmt} {fd : FuncData} {N ps : List Str} {sp : Sp}
    (F : Fun K x qual st f fd) (S : FnScope N ps (defScope st)) (len : ∀ vs H Q E, sp vs H Q E → vs.length = ps.length)
    (body : ∀ (cdv : Value) (A : Around) (outer : List Env) (s : Shared) (H : Hp) (vs : List V) (Q : VK) (E : XK), Room k (A.deeper (envOfC qual (defScope st) s.heap.objs.size f cdv)) → A.guards = some [] → sp vs H Q E →
      ∃ t, PSs (cxOf (L2.CX P w) P w K mg base N qual (defScope st) f cdv A outer s H E) (defBody st) t ∧ t { nx := fun _ H' => Q .non H', rt := Q } (L2.start N vs) H) :
    FnG P w K mg base (k + 1) f fd ps sp := by
  obtain ⟨oc, od, kV, doc, pm, an, cdv, ct, osl, efd, lk, cd⟩ := F.ex
  subst efd
  refine ⟨len, fun A outer s0 H args us vs Q E room gd env bd rel want => ?_⟩
  have count := len _ _ _ _ want
  have inK : K.In s0.heap := env.mod.kin.keeps fun b o z => (env.bs b o z).1
  have nolim : s0.heap.NoLimit := env.mod.nolimit.keeps fun b o z => (env.bs b o z).1
  have kinds : ∀ y ∈ ps.zip us, (defScope st).names.lookup y.1 = some .local ∨ ((defScope st).names.lookup y.1 = some .cell ∧ ((cellsFrom (s0.heap.objs.size + 1) (defScope st).names []).lookup y.1).isSome = true) := by
    rintro ⟨m, v⟩ hm
    cases S.par m (List.of_mem_zip hm).1 with
    | inl q => exact .inl q
    | inr q => exact .inr ⟨q, PySem.W.cellsFrom_some _ _ _ (.inl q)⟩
  refine codeAny_call_function room.depth (inK _ _ lk) rfl S.co S.gen rfl (PySem.W.codeRec_of inK cd) (bd _ _ _ _ ?_)
  refine wpAny_newFunctionEnv_cells S.kind kinds fun e2 he s1 ic => ?_
  subst he
  obtain ⟨t, ht, ready⟩ := body cdv A outer s0 H vs Q E (room.deeper _) gd want
  have I0 : Inv (cxOf (L2.CX P w) P w K mg base N qual (defScope st) f cdv A outer s0 H E) [] (L2.start N vs) H s1 := inv_start S room.hd env count rel ic
  refine ⟨nolim.keeps ic.toInCall.keep, codeAny_func (wpAny_mono (ht.run [] s1 (L2.start N vs) H _ I0 ready) (fun fl s2 hs => ?_) fun e s2 hs => hs)⟩
  cases fl with
  | ret u =>
    obtain ⟨v, σ', H', J, rv, q⟩ := hs
    exact ⟨v, H', J.os, J.bare, J.base, J.hok, rv, q⟩
  | next =>
    obtain ⟨σ', H', J, q⟩ := hs
    exact ⟨V.non, H', J.os, J.bare, J.base, J.hok, rfl, q⟩
  | brk => exact (hs.elim fun _ z => z.elim fun _ z => z.2).elim
  | cont => exact (hs.elim fun _ z => z.elim fun _ z => z.2).elim

/-! ### calls -/
section
variable {X : Cx} {W : WX} {k : Nat} {f : Addr} {fd : FuncData} {ps : List Str} {x : Str} {p pos : Pos} {e : Expr} {es : List Expr} {t : TA} {sp : Sp} {E : St → XK}
theorem run_g {pins : List (Addr × Obj)} {σ : St} {H : Hp} {s : Shared} {Q : VK} {us : List Value} {vs dv : List V} {ds : List Value} (G : FnG X.prog X.w X.K X.mg X.base k f fd ps sp) (hr : Room k X.A) (hg : X.A.guards = some []) (hb : Binds X.K fd ps ds) (hd : Vals dv ds)
    (hx : PassesAt (L2.CX X.prog X.w) X σ (E σ)) (I : Inv X pins σ H s) (r : Vals vs us) (h : sp (vs ++ dv) H Q (E σ)) : wpAny (model X.prog X.w) X.A (call (.ref f) us) (EP X pins σ Q) X.xe s := by
  have rr : Vals (vs ++ dv) (us ++ ds) := r.append hd
  have hl : (us ++ ds).length = ps.length := rr.length.symm.trans (G.len _ _ _ _ h)
  refine wpAny_call (codeAny_mono (G.run X.A X.stack s H ⟨us, []⟩ (us ++ ds) (vs ++ dv) Q (E σ) hr hg I.env0 (hb s us I.kIn hl) rr h) fun z s2 hq => ?_)
  rcases z with er | fl
  · exact hx pins H s er s2 I hq
  · cases fl with
    | ret u => exact I.after hq
    | _ => exact False.elim hq
def tCallD (sp : Sp) (dv : List V) (E : St → XK) (t : TA) : TE := fun σ H Q => t σ H fun vs H1 => sp (vs ++ dv) H1 Q (E σ)
theorem pe_callG {dv : List V} {ds : List Value} (G : FnG X.prog X.w X.K X.mg X.base k f fd ps sp) (hr : Room k X.A) (hg : X.A.guards = some []) (gl : Gl X x) (hm : X.mg x = some (.ref f)) (hk : PySem.W.keepIn X.K (.ref f) = true) (hb : Binds X.K fd ps ds) (hd : Vals dv ds)
    (hx : ∀ σ, PassesAt (L2.CX X.prog X.w) X σ (E σ)) (ha : PA X (e :: es) t) (hdb : (x == ("__debug__" : Str)) = false) (he : starEach (e :: es) X.env = (false, eval e X.env) :: starEach es X.env) (hpl : (backTo pos (starEach es X.env)).any (·.1) = false) :
    PE X (.Call (.Name x p) (e :: es) [] pos) (tCallD sp dv E t) := by
  refine ⟨fun pins s σ H Q I h => wpAny_Call_Name_kw (ld_glob I gl hm ?_ hdb)⟩
  refine PySem.W.callWith_K (h₀ := X.base) I.ok.mod.kin hk (thn (ha.run pos pins s σ H _ I h) fun us s1 hh => ?_) he hpl
  obtain ⟨vs, H1, I1, r, q⟩ := hh
  exact ⟨I1.kIn, run_g G hr hg hb hd (hx σ) I1 r q⟩
theorem pe_callG0 {dv : List V} {ds : List Value} (G : FnG X.prog X.w X.K X.mg X.base k f fd ps sp) (hr : Room k X.A) (hg : X.A.guards = some []) (gl : Gl X x) (hm : X.mg x = some (.ref f)) (hk : PySem.W.keepIn X.K (.ref f) = true) (hb : Binds X.K fd ps ds) (hd : Vals dv ds)
    (hx : ∀ σ, PassesAt (L2.CX X.prog X.w) X σ (E σ)) (hdb : (x == ("__debug__" : Str)) = false) : PE X (.Call (.Name x p) [] [] pos) (tCallD sp dv E tNil) :=
  ⟨fun pins s σ H Q I h => wpAny_Call_Name_kw (ld_glob I gl hm (PySem.W.callWith_K0 I.kIn hk (run_g (us := []) (vs := []) G hr hg hb hd (hx σ) I .nil h)) hdb)⟩
/-- the values by places -/
def permL {β : Type} (pm : List Nat) (l : List β) : List β := pm.filterMap fun i => l[i]?
theorem permL_rel {β γ : Type} {R : β → γ → Prop} {l : List β} {m : List γ} (h : Paired R l m) : ∀ pm : List Nat, Paired R (permL pm l) (permL pm m)
  | [] => .nil
  | i :: pm => by
    have ih := permL_rel h pm
    unfold permL
    rw [List.filterMap_cons, List.filterMap_cons]
    by_cases hi : i < l.length
    · obtain ⟨b, c, h1, h2, hr⟩ := Paired.at_ h hi
      rw [h1, h2]
      exact .cons hr ih
    · rw [List.getElem?_eq_none (by omega), List.getElem?_eq_none (by rw [← h.length]; omega)]
      exact ih
/-- how keywords ks bind: pm puts their values, then the defaults, in the parameters' order -/
def KwBinds (K : PySem.W.Frag) (fd : FuncData) (ps ks : List Str) (pm : List Nat) (ds : List Value) : Prop :=
  ∀ (s : Shared) (ws : List Value), K.In s.heap → (permL pm (ws ++ ds)).length = ps.length → BindsTo s fd ⟨[], ks.zip ws⟩ (ps.zip (permL pm (ws ++ ds)))
theorem run_gk {pins : List (Addr × Obj)} {σ : St} {H : Hp} {s : Shared} {Q : VK} {ws ds : List Value} {zs dv : List V} {ks : List Str} {pm : List Nat} (G : FnG X.prog X.w X.K X.mg X.base k f fd ps sp) (hr : Room k X.A) (hg : X.A.guards = some [])
    (hb : KwBinds X.K fd ps ks pm ds) (hd : Vals dv ds) (hx : PassesAt (L2.CX X.prog X.w) X σ (E σ)) (I : Inv X pins σ H s) (rz : Vals zs ws) (h : sp (permL pm (zs ++ dv)) H Q (E σ)) : wpAny (model X.prog X.w) X.A (call (.ref f) [] (ks.zip ws)) (EP X pins σ Q) X.xe s := by
  have rr : Vals (permL pm (zs ++ dv)) (permL pm (ws ++ ds)) := permL_rel (rz.append hd) pm
  have hl : (permL pm (ws ++ ds)).length = ps.length := rr.length.symm.trans (G.len _ _ _ _ h)
  refine wpAny_call (codeAny_mono (G.run X.A X.stack s H ⟨[], ks.zip ws⟩ (permL pm (ws ++ ds)) (permL pm (zs ++ dv)) Q (E σ) hr hg I.env0 (hb s ws I.kIn hl) rr h) fun z s2 hq => ?_)
  rcases z with er | fl
  · exact hx pins H s er s2 I hq
  · cases fl with
    | ret u => exact I.after hq
    | _ => exact False.elim hq
def tCallKG (sp : Sp) (pm : List Nat) (dv : List V) (E : St → XK) (tk : TA) : TE := fun σ H Q => tk σ H fun zs H2 => sp (permL pm (zs ++ dv)) H2 Q (E σ)
theorem pe_callGK {ks : List Str} {kws : List Keyword} {tk : TA} {pm : List Nat} {dv : List V} {ds : List Value} (G : FnG X.prog X.w X.K X.mg X.base k f fd ps sp) (hr : Room k X.A) (hg : X.A.guards = some []) (gl : Gl X x) (hm : X.mg x = some (.ref f)) (hk : PySem.W.keepIn X.K (.ref f) = true)
    (hb : KwBinds X.K fd ps ks pm ds) (hd : Vals dv ds) (hx : ∀ σ, PassesAt (L2.CX X.prog X.w) X σ (E σ)) (hkw : PK X kws tk) (hall : (backToKw pos (keywordEach kws X.env)).all (·.1.isSome) = true) (hks : (backToKw pos (keywordEach kws X.env)).filterMap (·.1) = ks) (hdb : (x == ("__debug__" : Str)) = false)
    (hpl : ((backTo pos (starEach [] X.env)).any (·.1) || (backToKw pos (keywordEach kws X.env)).any (·.1.isNone)) = false) : PE X (.Call (.Name x p) [] kws pos) (tCallKG sp pm dv E tk) := by
  refine ⟨fun pins s σ H Q I h => wpAny_Call_Name_kw (ld_glob I gl hm ?_ hdb)⟩
  refine PySem.W.callWith_KW0 (h₀ := X.base) I.ok.mod.kin hk hall (thn (hkw.run pos pins s σ H _ I h) fun ws s2 hh => ?_) hpl
  obtain ⟨zs, H2, I2, rz, q2⟩ := hh
  rw [hks]
  exact ⟨I2.kIn, run_gk G hr hg hb hd (hx σ) I2 rz q2⟩
end

/-- the promise by a semantic function -/
def arity (n : Nat) (g : List Wv → Mu → Out Wv) : List Wv → Mu → Out Wv := fun ws μ => if ws.length = n then g ws μ else .bad
def spG (K : PySem.W.Frag) (mg : Str → Option Value) (n : Nat) (g : List Wv → Mu → Out Wv) : Sp := fun vs H Q E => ∃ ws μ α F, Rep K α F μ H ∧ Rws K α F vs ws ∧ gp K mg α F H (arity n g ws μ) (Gw K Q) E
theorem spG.len {K : PySem.W.Frag} {mg : Str → Option Value} {n : Nat} {g : List Wv → Mu → Out Wv} {vs : List V} {H : Hp} {Q : VK} {E : XK} (h : spG K mg n g vs H Q E) : vs.length = n := by
  obtain ⟨ws, μ, α, F, r, rv, q⟩ := h
  unfold arity at q
  split at q
  · rename_i e
    rw [rv.length, e]
  · exact q.elim
section
variable {X : Cx} {W : WX} {k n : Nat} {f : Addr} {fd : FuncData} {ps : List Str} {x : Str} {p pos : Pos} {e : Expr} {es : List Expr} {as : Av} {g : List Wv → Mu → Out Wv}
/-- a call f(e, ..), the defaults ws0 behind -/
theorem se_call {dv : List V} {ds : List Value} {ws0 : List Wv} (G : FnG X.prog X.w X.K X.mg X.base k f fd ps (spG X.K X.mg n g)) (hr : Room k X.A) (hg : X.A.guards = some []) (gl : Gl X x) (hm : X.mg x = some (.ref f)) (hk : PySem.W.keepIn X.K (.ref f) = true) (hb : Binds X.K fd ps ds) (hd : Vals dv ds)
    (hw : ∀ α F, Rws X.K α F dv ws0) (tk : Takes X W) (ha : SA X W (e :: es) as) (hdb : (x == ("__debug__" : Str)) = false) (he : starEach (e :: es) X.env = (false, eval e X.env) :: starEach es X.env) (hpl : (backTo pos (starEach es X.env)).any (·.1) = false) :
    SE X W (.Call (.Name x p) (e :: es) [] pos) (eCall (fun ws μ => arity n g (ws ++ ws0) μ) as) := by
  refine (pe_callG (E := WE W) G hr hg gl hm hk hb hd (fun σ => passAt tk σ) ha hdb he hpl).imp fun σ H Q ⟨ρ, μ, α, F, r, re, q⟩ => ?_
  refine ⟨ρ, μ, α, F, r, re, q.bind.mono fun ws μ1 α1 F1 H1 x1 r1 q1 vs rv => ?_⟩
  exact ⟨ws ++ ws0, μ1, α1, F1, r1, Paired.app rv (hw _ _), q1⟩
theorem se_call0 {dv : List V} {ds : List Value} {ws0 : List Wv} (G : FnG X.prog X.w X.K X.mg X.base k f fd ps (spG X.K X.mg n g)) (hr : Room k X.A) (hg : X.A.guards = some []) (gl : Gl X x) (hm : X.mg x = some (.ref f)) (hk : PySem.W.keepIn X.K (.ref f) = true) (hb : Binds X.K fd ps ds) (hd : Vals dv ds)
    (hw : ∀ α F, Rws X.K α F dv ws0) (tk : Takes X W) (hdb : (x == ("__debug__" : Str)) = false) : SE X W (.Call (.Name x p) [] [] pos) (eCall (fun ws μ => arity n g (ws ++ ws0) μ) aNil) := by
  refine (pe_callG0 (E := WE W) G hr hg gl hm hk hb hd (fun σ => passAt tk σ) hdb).imp fun σ H Q ⟨ρ, μ, α, F, r, re, q⟩ => ?_
  exact ⟨ws0, μ, α, F, r, hw _ _, q⟩
theorem _root_.L2.PK.imp {kws : List Keyword} {t t' : TA} (h : PK X kws t) (i : ∀ σ H Q, t' σ H Q → t σ H Q) : PK X kws t' := ⟨fun pos pins s σ H Q I q => h.run pos pins s σ H Q I (i _ _ _ q)⟩
abbrev SK (X : Cx) (W : WX) (kws : List Keyword) (f : Av) : Prop := PK X kws (tA X.K X.mg W f)
theorem sk_nil : SK X W [] aNil := pk_nil.imp fun σ H Q ⟨_, _, _, _, r, _, q⟩ => q.now r [] .nil
theorem sk_cons {nm : Option Str} {kpos : Pos} {kws : List Keyword} {a : Ev} (ha : SE X W e a) (hr : SK X W kws as) : SK X W (⟨nm, e, kpos⟩ :: kws) (aCons a as) := by
  refine (pk_cons ha hr).imp fun σ H Q ⟨ρ, μ, α, F, r, re, q⟩ => ?_
  refine ⟨ρ, μ, α, F, r, re, q.bind.mono fun w μ1 α1 F1 H1 x1 r1 q1 v rv => ?_⟩
  refine ⟨ρ, μ1, α1, F1, r1, re.ext x1, q1.bind.mono fun ws μ2 α2 F2 H2 x2 r2 q2 vs rvs => ?_⟩
  exact q2.now r2 (v :: vs) (.cons (rv.ext x2) rvs)
/-- f(k = e, ..) -/
theorem se_callK {ks : List Str} {kws : List Keyword} {pm : List Nat} {dv : List V} {ds : List Value} {ws0 : List Wv} (G : FnG X.prog X.w X.K X.mg X.base k f fd ps (spG X.K X.mg n g)) (hr : Room k X.A) (hg : X.A.guards = some []) (gl : Gl X x) (hm : X.mg x = some (.ref f)) (hk : PySem.W.keepIn X.K (.ref f) = true)
    (hb : KwBinds X.K fd ps ks pm ds) (hd : Vals dv ds) (hw : ∀ α F, Rws X.K α F dv ws0) (tk : Takes X W) (ha : SK X W kws as) (hall : (backToKw pos (keywordEach kws X.env)).all (·.1.isSome) = true) (hks : (backToKw pos (keywordEach kws X.env)).filterMap (·.1) = ks) (hdb : (x == ("__debug__" : Str)) = false)
    (hpl : ((backTo pos (starEach [] X.env)).any (·.1) || (backToKw pos (keywordEach kws X.env)).any (·.1.isNone)) = false) :
    SE X W (.Call (.Name x p) [] kws pos) (eCall (fun ws μ => arity n g (permL pm (ws ++ ws0)) μ) as) := by
  refine (pe_callGK (E := WE W) G hr hg gl hm hk hb hd (fun σ => passAt tk σ) ha hall hks hdb hpl).imp fun σ H Q ⟨ρ, μ, α, F, r, re, q⟩ => ?_
  refine ⟨ρ, μ, α, F, r, re, q.bind.mono fun ws μ1 α1 F1 H1 x1 r1 q1 vs rv => ?_⟩
  exact ⟨permL pm (ws ++ ws0), μ1, α1, F1, r1, permL_rel (Paired.app rv (hw _ _)) pm, q1⟩
end

/-! ### a def's semantic function -/
/-- behind the body: the def's own cells forgotten -/
def leave (n : Nat) (w : Wv) (μ : Mu) : Out Wv :=
  match w with
  | .d x => .ok (.d x) (μ.take n)
  | .r k => if k < n then .ok (.r k) (μ.take n) else match μ[k]? with
    | some (some c) => .ok (.r n) (μ.take n ++ [some c])
    | _ => .bad
def initR (n : Nat) (ws : List Wv) : Rho := ws.map some ++ List.replicate (n - ws.length) none
def runD (n : Nat) (body : Sv) (ws : List Wv) (μ : Mu) : Out Wv :=
  match body (initR n ws) μ with
  | .ok (.rt w) μ' => leave μ.length w μ'
  | .ok (.nx _) μ' => leave μ.length (.d .none) μ'
  | .ok (.er x us _) μ' => match allD us with
    | some c => .err x (c.map Wv.d) (μ'.take μ.length)
    | none => .bad
  | _ => .bad
theorem allD_map : ∀ {us : List Wv} {c : Cell}, allD us = some c → us = c.map Wv.d
  | [], c, h => by
    cases h
    rfl
  | .d x :: r, c, h => by
    unfold allD at h
    obtain ⟨c', e, rfl⟩ := Option.map_eq_some_iff.mp h
    rw [allD_map e]
    rfl
  | .r k :: _, c, h => by cases h
theorem Rws.data {K : PySem.W.Frag} {α α' : List Addr} {F : Hp} : ∀ {vs : List V} {c : Cell}, Rws K α F vs (c.map Wv.d) → Rws K α' F vs (c.map Wv.d)
  | [], [], _ => .nil
  | [], _ :: _, h => by cases h
  | _ :: _, [], h => by cases h
  | v :: vs, d :: c, h => by
    cases h with
    | cons r t => exact .cons (show Dq K F v d from r) (Rws.data t)
theorem gp_leave {K : PySem.W.Frag} {mg : Str → Option Value} {α α' : List Addr} {F F' H H' : Hp} {μ μ' : Mu} {w : Wv} {v : V} {Q : VK} {E : XK} (h : gp K mg α F H (leave μ.length w μ') (Gw K Q) E) (r0 : Rep K α F μ H) (e : Ext α F H α' F' H') (r : Rep K α' F' μ' H') (rv : Rw K α' F' v w) : Q v H' := by
  unfold leave at h
  cases w with
  | d x =>
    obtain ⟨r2, e2⟩ := r.drop e r0.len
    exact h.at e2 r2 v rv
  | r k =>
    have h : gp K mg α F H (if k < μ.length then .ok (.r k) (μ'.take μ.length) else match μ'[k]? with
      | some (some c) => .ok (.r μ.length) (μ'.take μ.length ++ [some c])
      | _ => .bad) (Gw K Q) E := h
    split at h
    · rename_i hk
      obtain ⟨r2, e2⟩ := r.drop e r0.len
      obtain ⟨a, h1, rfl⟩ := rv
      obtain ⟨β, rfl⟩ := e.pre
      rw [List.getElem?_append_left (by rw [← r0.len]; exact hk)] at h1
      exact h.at e2 r2 _ ⟨a, h1, rfl⟩
    · rename_i hk
      split at h
      · rename_i c hc
        obtain ⟨a, g1, r2, e2⟩ := r.drop1 e r0.len (Nat.le_of_not_lt hk) hc
        obtain ⟨b, h1, rfl⟩ := rv
        rw [g1] at h1
        cases h1
        refine h.at e2 r2 _ ⟨a, ?_, rfl⟩
        rw [r0.len, List.getElem?_append_right (Nat.le_refl _), Nat.sub_self]
        rfl
      · exact h.elim
theorem repE_start {K : PySem.W.Frag} {α : List Addr} {F : Hp} {N : List Str} {vs : List V} {ws : List Wv} (h : Rws K α F vs ws) : RepE K α F (initR N.length ws) (L2.start N vs) := by
  refine ⟨?_, fun i w q => ?_⟩
  · unfold initR L2.start
    rw [List.length_append, List.length_append, List.length_map, List.length_map, List.length_replicate, List.length_replicate, h.length]
  · unfold initR at q
    by_cases hi : i < ws.length
    · rw [List.getElem?_append_left (by rw [List.length_map]; exact hi), List.getElem?_map] at q
      have hl : i < vs.length := by rw [h.length]; exact hi
      obtain ⟨v, w', h1, h2, hr⟩ := Paired.at_ h hl
      rw [h2] at q
      cases q
      refine ⟨v, ?_, hr⟩
      unfold L2.start
      rw [List.getElem?_append_left (by rw [List.length_map]; exact hl), List.getElem?_map, h1]
      rfl
    · rw [List.getElem?_append_right (by rw [List.length_map]; omega), List.getElem?_replicate] at q
      split at q <;> cases q
/-- THE RULE for a def: its body is sound for b -/
theorem fng_sem {P : Program} {w : World} {K : PySem.W.Frag} {mg : Str → Option Value} {base : Heap} {k : Nat} {f : Addr} {x qual : Str} {st : Stmt} {fd : FuncData} {N ps : List Str} {b : Sv}
    (F : Fun K x qual st f fd) (S : FnScope N ps (defScope st))
    (body : ∀ (cdv : Value) (A : Around) (outer : List Env) (s : Shared) (H : Hp) (E : XK), Room k (A.deeper (envOfC qual (defScope st) s.heap.objs.size f cdv)) → A.guards = some [] →
      SSs (cxOf (L2.CX P w) P w K mg base N qual (defScope st) f cdv A outer s H E) (fun cls d _ H => E cls d H) (defBody st) b) :
    FnG P w K mg base (k + 1) f fd ps (spG K mg ps.length (runD N.length b)) := by
  refine fng_of F S (fun vs H Q E h => h.len) fun cdv A outer s H vs Q E hr hg h => ⟨_, body cdv A outer s H E hr hg, ?_⟩
  obtain ⟨ws, μ, α, F0, r, rv, q⟩ := h
  refine ⟨initR N.length ws, μ, α, F0, r, repE_start rv, ?_⟩
  unfold arity at q
  split at q
  · unfold runD at q
    show gp K mg α F0 H (b (initR N.length ws) μ) (GS K mg _ _) _
    cases z : b (initR N.length ws) μ with
    | bad =>
      rw [z] at q
      exact q
    | err x us μ' =>
      rw [z] at q
      exact q.elim
    | ok fl μ' =>
      rw [z] at q
      intro α' F' H' e r'
      cases fl with
      | rt w1 => exact fun v hv => gp_leave q r e r' hv
      | nx ρ' => exact fun σ' _ => gp_leave (w := .d .none) q r e r' .non
      | bk ρ' => exact q.elim
      | ct ρ' => exact q.elim
      | er y us ρ' =>
        intro σ' C d fs _ h1 h2 h3
        have q : gp K mg α F0 H (match allD us with
          | some c => .err y (c.map Wv.d) (μ'.take μ.length)
          | none => .bad) (Gw K Q) E := q
        cases hc : allD us with
        | none =>
          rw [hc] at q
          exact q.elim
        | some c =>
          rw [hc] at q
          obtain ⟨r2, e2⟩ := r'.drop e r.len
          rw [allD_map hc] at h3
          exact q α F' H' C d fs e2 r2 h1 h2 h3.data
  · exact q.elim
end TL
/-! TL6: built-in functions and subscripts by data. -/
namespace TL
open PySem PySem.Spec L2

def intsOf : List PyData → Option (List Int)
  | [] => some []
  | .int i :: r => (intsOf r).map (i :: ·)
  | _ => none
def boolsOf : List PyData → Option (List Bool)
  | [] => some []
  | .bool i :: r => (boolsOf r).map (i :: ·)
  | _ => none
theorem intsOf_map : ∀ {xs : List PyData} {ns : List Int}, intsOf xs = some ns → xs = ns.map PyData.int
  | [], ns, h => by
    cases h
    rfl
  | .int i :: r, ns, h => by
    unfold intsOf at h
    obtain ⟨ms, e, rfl⟩ := Option.map_eq_some_iff.mp h
    rw [intsOf_map e]
    rfl
  | .none :: _, ns, h | .bool _ :: _, ns, h | .str _ :: _, ns, h | .list _ :: _, ns, h | .tuple _ :: _, ns, h | .dict _ :: _, ns, h => by cases h
theorem boolsOf_map : ∀ {xs : List PyData} {ns : List Bool}, boolsOf xs = some ns → xs = ns.map PyData.bool
  | [], ns, h => by
    cases h
    rfl
  | .bool i :: r, ns, h => by
    unfold boolsOf at h
    obtain ⟨ms, e, rfl⟩ := Option.map_eq_some_iff.mp h
    rw [boolsOf_map e]
    rfl
  | .none :: _, ns, h | .int _ :: _, ns, h | .str _ :: _, ns, h | .list _ :: _, ns, h | .tuple _ :: _, ns, h | .dict _ :: _, ns, h => by cases h
theorem intsOf_ints : ∀ ns : List Int, intsOf (ns.map PyData.int) = some ns
  | [] => rfl
  | n :: ns => by
    show (intsOf (ns.map PyData.int)).map (n :: ·) = _
    rw [intsOf_ints ns]
    rfl
theorem boolsOf_bools : ∀ ns : List Bool, boolsOf (ns.map PyData.bool) = some ns
  | [] => rfl
  | n :: ns => by
    show (boolsOf (ns.map PyData.bool)).map (n :: ·) = _
    rw [boolsOf_bools ns]
    rfl
/-- the greatest, the least -/
def maxI : Int → List Int → Int
  | m, [] => m
  | m, x :: r => maxI (if x > m then x else m) r
def minI : Int → List Int → Int
  | m, [] => m
  | m, x :: r => minI (if x < m then x else m) r
theorem maxI_spec : ∀ (r : List Int) (m : Int), maxI m r ∈ m :: r ∧ ∀ y ∈ m :: r, y ≤ maxI m r
  | [], m => ⟨List.mem_cons_self, fun y h => by
      simp at h
      subst h
      exact Int.le_refl _⟩
  | x :: r, m => by
    obtain ⟨h1, h2⟩ := maxI_spec r (if x > m then x else m)
    show maxI (if x > m then x else m) r ∈ _ ∧ ∀ y ∈ _, y ≤ maxI (if x > m then x else m) r
    have h3 := h2 _ List.mem_cons_self
    refine ⟨?_, fun y hy => ?_⟩
    · rcases List.mem_cons.mp h1 with e | e
      · rw [e]
        split <;> simp
      · exact List.mem_cons_of_mem _ (List.mem_cons_of_mem _ e)
    · rcases List.mem_cons.mp hy with rfl | hy
      · exact Int.le_trans (by split <;> omega) h3
      · rcases List.mem_cons.mp hy with rfl | hy
        · exact Int.le_trans (by split <;> omega) h3
        · exact h2 y (List.mem_cons_of_mem _ hy)
theorem minI_spec : ∀ (r : List Int) (m : Int), minI m r ∈ m :: r ∧ ∀ y ∈ m :: r, minI m r ≤ y
  | [], m => ⟨List.mem_cons_self, fun y h => by
      simp at h
      subst h
      exact Int.le_refl _⟩
  | x :: r, m => by
    obtain ⟨h1, h2⟩ := minI_spec r (if x < m then x else m)
    show minI (if x < m then x else m) r ∈ _ ∧ ∀ y ∈ _, minI (if x < m then x else m) r ≤ y
    have h3 := h2 _ List.mem_cons_self
    refine ⟨?_, fun y hy => ?_⟩
    · rcases List.mem_cons.mp h1 with e | e
      · rw [e]
        split <;> simp
      · exact List.mem_cons_of_mem _ (List.mem_cons_of_mem _ e)
    · rcases List.mem_cons.mp hy with rfl | hy
      · exact Int.le_trans h3 (by split <;> omega)
      · rcases List.mem_cons.mp hy with rfl | hy
        · exact Int.le_trans h3 (by split <;> omega)
        · exact h2 y (List.mem_cons_of_mem _ hy)

/-! ### what they compute -/
def gLen : List Wv → Mu → Out Wv
  | [w], μ => match dataOf μ w with
    | some (.tuple xs) => .ok (wI xs.length) μ
    | some (.list xs) => .ok (wI xs.length) μ
    | some (.str x) => if x.length ≤ 16777216 then .ok (wI x.length) μ else .bad
    | _ => .bad
  | _, _ => .bad
def gAbs : List Wv → Mu → Out Wv
  | [.d (.int i)], μ => .ok (wI (if i < 0 then -i else i)) μ
  | _, _ => .bad
def gMax : List Wv → Mu → Out Wv
  | [.d (.int i), .d (.int j)], μ => .ok (wI (if j > i then j else i)) μ
  | [w], μ => match dataOf μ w with
    | some (.list xs) => match intsOf xs with
      | some (m :: r) => .ok (wI (maxI m r)) μ
      | _ => .bad
    | _ => .bad
  | _, _ => .bad
def gMin : List Wv → Mu → Out Wv
  | [.d (.int i), .d (.int j)], μ => .ok (wI (if j < i then j else i)) μ
  | [w], μ => match dataOf μ w with
    | some (.list xs) => match intsOf xs with
      | some (m :: r) => .ok (wI (minI m r)) μ
      | _ => .bad
    | _ => .bad
  | _, _ => .bad
def gInt : List Wv → Mu → Out Wv
  | [w], μ => match numOf w with
    | some i => .ok (wI i) μ
    | none => .bad
  | _, _ => .bad
def gStr : List Wv → Mu → Out Wv
  | [.d (.int i)], μ => if i.natAbs.log2 < 1920 then .ok (wS (toString i)) μ else .bad
  | [.d (.str x)], μ => .ok (wS x) μ
  | _, _ => .bad
def gSum : List Wv → Mu → Out Wv
  | [w], μ => match dataOf μ w with
    | some (.list xs) => match intsOf xs with
      | some ns => .ok (wI ns.sum) μ
      | none => .bad
    | _ => .bad
  | _, _ => .bad
def gAll : List Wv → Mu → Out Wv
  | [w], μ => match dataOf μ w with
    | some (.list xs) => match boolsOf xs with
      | some bs => .ok (wBl (bs.all id)) μ
      | none => .bad
    | _ => .bad
  | _, _ => .bad
def gAny : List Wv → Mu → Out Wv
  | [w], μ => match dataOf μ w with
    | some (.list xs) => match boolsOf xs with
      | some bs => .ok (wBl (bs.any id)) μ
      | none => .bad
    | _ => .bad
  | _, _ => .bad
def gTuple : List Wv → Mu → Out Wv
  | [w], μ => match dataOf μ w with
    | some (.list xs) => .ok (wT xs) μ
    | some (.tuple xs) => .ok (wT xs) μ
    | _ => .bad
  | _, _ => .bad
def gDivmod : List Wv → Mu → Out Wv
  | [.d (.int i), .d (.int j)], μ => if 0 < j ∧ Builtin.divisionGoesByPylong i j = false then .ok (wT [.int (i / j), .int (i % j)]) μ else .bad
  | _, _ => .bad
def gGcd : List Wv → Mu → Out Wv
  | [.d (.int i), .d (.int j)], μ => .ok (wI ((Nat.gcd i.natAbs j.natAbs : Nat) : Int)) μ
  | _, _ => .bad
def reprOk (x : PyData) : Bool := x.showable && decide (x.shown.length ≤ 16777216) && decide (x.depth ≤ 60) && !x.hasDict
def gRepr : List Wv → Mu → Out Wv
  | [w], μ => match dataOf μ w with
    | some x => if reprOk x = true then .ok (wS x.shown) μ else .bad
    | none => .bad
  | _, _ => .bad
/-- the list that list(x) makes -/
def gList : List Wv → Mu → Out Cell
  | [w], μ => match dataOf μ w with
    | some (.list xs) => .ok xs μ
    | some (.tuple xs) => .ok xs μ
    | _ => .bad
  | _, _ => .bad

section
variable {X : Cx} {K : PySem.W.Frag} {α : List Addr} {F H : Hp} {μ : Mu} {mg : Str → Option Value}
theorem rws1 {xs : List V} {w : Wv} (h : Rws K α F xs [w]) : ∃ v, xs = [v] ∧ Rw K α F v w := by
  cases h with
  | cons r t =>
    cases t
    exact ⟨_, rfl, r⟩
theorem rws2 {xs : List V} {w u : Wv} (h : Rws K α F xs [w, u]) : ∃ v v', xs = [v, v'] ∧ Rw K α F v w ∧ Rw K α F v' u := by
  cases h with
  | cons r t =>
    obtain ⟨v', rfl, r'⟩ := rws1 t
    exact ⟨_, _, rfl, r, r'⟩
/-- one argument, its data known -/
theorem data1 {xs : List V} {w : Wv} {x : PyData} (r : Rep K α F μ H) (h : Rws K α F xs [w]) (e : dataOf μ w = some x) : ∃ v, xs = [v] ∧ Dq K H v x := by
  obtain ⟨v, rfl, q⟩ := rws1 h
  exact ⟨v, rfl, data_ok r e q⟩
theorem cr_gLen : CallR X (.builtin "len") (rnG X.K X.mg gLen) := by
  intro pins s σ H xs us Q I ru ⟨μ, α, F, ws, r, h, q⟩
  unfold gLen at q
  split at q
  · split at q
    · rename_i e
      obtain ⟨v, rfl, d⟩ := data1 r h e
      cases d with
      | tup hs ha => exact call_len_seq pins s σ H _ us Q I ru ⟨_, _, rfl, .inr hs, by rw [ha.length]; exact q.now r _ (.int _)⟩
    · rename_i e
      obtain ⟨v, rfl, d⟩ := data1 r h e
      cases d with
      | lst hs ha => exact call_len_seq pins s σ H _ us Q I ru ⟨_, _, rfl, .inl hs.sq, by rw [ha.length]; exact q.now r _ (.int _)⟩
    · rename_i e
      obtain ⟨v, rfl, d⟩ := data1 r h e
      split at q
      · rename_i hl
        cases d
        exact call_len_str pins s σ H _ us Q I ru ⟨_, rfl, le_line hl, q.now r _ (.int _)⟩
      · exact q.elim
    · exact q.elim
  · exact q.elim
theorem cr_gAbs : CallR X (.builtin "abs") (rnG X.K X.mg gAbs) := by
  intro pins s σ H xs us Q I ru ⟨μ, α, F, ws, r, h, q⟩
  unfold gAbs at q
  split at q
  · obtain ⟨v, rfl, d⟩ := rws1 h
    cases d
    exact call_abs pins s σ H _ us Q I ru ⟨_, rfl, q.now r _ (.int _)⟩
  · exact q.elim
theorem cr_gMax (hc : X.calm = true) : CallR X (.builtin "max") (rnG X.K X.mg gMax) := by
  intro pins s σ H xs us Q I ru ⟨μ, α, F, ws, r, h, q⟩
  unfold gMax at q
  split at q
  · obtain ⟨v, v', rfl, d, d'⟩ := rws2 h
    cases d
    cases d'
    exact call_max2 hc pins s σ H _ us Q I ru ⟨_, _, rfl, q.now r _ (.int _)⟩
  · split at q
    · rename_i e
      obtain ⟨v, rfl, d⟩ := data1 r h e
      split at q
      · rename_i m rest e2
        cases d with
        | lst hs ha =>
          have e3 := intsOf_map e2
          rw [e3] at ha
          have e4 := ha.ints
          subst e4
          obtain ⟨m1, m2⟩ := maxI_spec rest m
          refine cr_max hc pins s σ H _ us Q I ru ⟨_, m :: rest, rfl, hs.sq, Nat.succ_pos _, fun z hz hmax => ?_⟩
          have ez : z = maxI m rest := Int.le_antisymm (m2 z hz) (hmax _ m1)
          rw [ez]
          exact q.now r _ (.int _)
      · exact q.elim
    · exact q.elim
  · exact q.elim
theorem cr_gMin (hc : X.calm = true) : CallR X (.builtin "min") (rnG X.K X.mg gMin) := by
  intro pins s σ H xs us Q I ru ⟨μ, α, F, ws, r, h, q⟩
  unfold gMin at q
  split at q
  · obtain ⟨v, v', rfl, d, d'⟩ := rws2 h
    cases d
    cases d'
    exact call_min2 hc pins s σ H _ us Q I ru ⟨_, _, rfl, q.now r _ (.int _)⟩
  · split at q
    · rename_i e
      obtain ⟨v, rfl, d⟩ := data1 r h e
      split at q
      · rename_i m rest e2
        cases d with
        | lst hs ha =>
          have e3 := intsOf_map e2
          rw [e3] at ha
          have e4 := ha.ints
          subst e4
          obtain ⟨m1, m2⟩ := minI_spec rest m
          refine cr_min hc pins s σ H _ us Q I ru ⟨_, m :: rest, rfl, hs.sq, Nat.succ_pos _, fun z hz hmin => ?_⟩
          have ez : z = minI m rest := Int.le_antisymm (hmin _ m1) (m2 z hz)
          rw [ez]
          exact q.now r _ (.int _)
      · exact q.elim
    · exact q.elim
  · exact q.elim
theorem cr_gInt : CallR X (.type "int") (rnG X.K X.mg gInt) := by
  intro pins s σ H xs us Q I ru ⟨μ, α, F, ws, r, h, q⟩
  unfold gInt at q
  split at q
  · split at q
    · rename_i e
      obtain ⟨v, rfl, d⟩ := rws1 h
      rcases num_ok e d with rfl | ⟨b, rfl, rfl⟩
      · exact call_int1 pins s σ H _ us Q I ru (.inl ⟨_, rfl, q.now r _ (.int _)⟩)
      · refine call_int1 pins s σ H _ us Q I ru (.inr ⟨b, rfl, ?_⟩)
        exact q.now r _ (.int _)
    · exact q.elim
  · exact q.elim
theorem cr_gStr : CallR X (.type "str") (rnG X.K X.mg gStr) := by
  intro pins s σ H xs us Q I ru ⟨μ, α, F, ws, r, h, q⟩
  unfold gStr at q
  split at q
  · split at q
    · rename_i hl
      obtain ⟨v, rfl, d⟩ := rws1 h
      cases d
      exact call_str_int pins s σ H _ us Q I ru ⟨_, rfl, hl, q.now r _ (.str _)⟩
    · exact q.elim
  · obtain ⟨v, rfl, d⟩ := rws1 h
    cases d
    exact SkE.call_str_str pins s σ H _ us Q I ru ⟨_, rfl, q.now r _ (.str _)⟩
  · exact q.elim
theorem cr_gSum (hc : X.calm = true) : CallR X (.builtin "sum") (rnG X.K X.mg gSum) := by
  intro pins s σ H xs us Q I ru ⟨μ, α, F, ws, r, h, q⟩
  unfold gSum at q
  split at q
  · split at q
    · rename_i e
      obtain ⟨v, rfl, d⟩ := data1 r h e
      split at q
      · rename_i ns e2
        cases d with
        | lst hs ha =>
          have e3 := intsOf_map e2
          rw [e3] at ha
          have e4 := ha.ints
          subst e4
          exact cr_sum hc pins s σ H _ us Q I ru ⟨_, ns, rfl, hs.sq, q.now r _ (.int _)⟩
      · exact q.elim
    · exact q.elim
  · exact q.elim
theorem cr_gAll (hc : X.calm = true) : CallR X (.builtin "all") (rnG X.K X.mg gAll) := by
  intro pins s σ H xs us Q I ru ⟨μ, α, F, ws, r, h, q⟩
  unfold gAll at q
  split at q
  · split at q
    · rename_i e
      obtain ⟨v, rfl, d⟩ := data1 r h e
      split at q
      · rename_i ns e2
        cases d with
        | lst hs ha =>
          have e3 := boolsOf_map e2
          rw [e3] at ha
          have e4 := ha.bools
          subst e4
          exact cr_all hc pins s σ H _ us Q I ru ⟨_, ns, rfl, hs.sq, q.now r _ (.bl _)⟩
      · exact q.elim
    · exact q.elim
  · exact q.elim
theorem cr_gAny (hc : X.calm = true) : CallR X (.builtin "any") (rnG X.K X.mg gAny) := by
  intro pins s σ H xs us Q I ru ⟨μ, α, F, ws, r, h, q⟩
  unfold gAny at q
  split at q
  · split at q
    · rename_i e
      obtain ⟨v, rfl, d⟩ := data1 r h e
      split at q
      · rename_i ns e2
        cases d with
        | lst hs ha =>
          have e3 := boolsOf_map e2
          rw [e3] at ha
          have e4 := ha.bools
          subst e4
          exact cr_any hc pins s σ H _ us Q I ru ⟨_, ns, rfl, hs.sq, q.now r _ (.bl _)⟩
      · exact q.elim
    · exact q.elim
  · exact q.elim
theorem cr_gTuple : CallR X (.type "tuple") (rnG X.K X.mg gTuple) := by
  intro pins s σ H xs us Q I ru ⟨μ, α, F, ws, r, h, q⟩
  unfold gTuple at q
  split at q
  · rename_i w
    split at q
    · rename_i zs e
      obtain ⟨v, rfl, q0⟩ := rws1 h
      -- the items are frozen data, wherever the list stands
      obtain ⟨a, vs, rfl, hs, ha⟩ : ∃ a vs, v = .ref a ∧ SqL X.K H a vs ∧ DqAll X.K F vs zs := by
        cases w with
        | d y =>
          cases e
          cases q0 with
          | lst hs ha => exact ⟨_, _, rfl, (sameL r.sub hs).sq, ha⟩
        | r k =>
          have e : (μ[k]?.join).map PyData.list = some (.list zs) := e
          obtain ⟨c, e1, e2⟩ := Option.map_eq_some_iff.mp e
          cases e2
          have e' : μ[k]? = some (some zs) := by
            cases z : μ[k]? with
            | none =>
              rw [z] at e1
              cases e1
            | some o =>
              rw [z] at e1
              have e3 : o = some zs := e1
              rw [e3]
          obtain ⟨a, vs, h1, h2, h3, h4⟩ := r.cell k zs e'
          obtain ⟨b, g1, rfl⟩ := q0
          rw [h1] at g1
          cases g1
          exact ⟨a, vs, rfl, .of h2, h4⟩
      refine call_tuple_of pins s σ H _ us Q I ru ⟨a, vs, rfl, .inl ⟨hs, fun p hp => ?_⟩⟩
      obtain ⟨r2, x2⟩ := r.new (o := .tup vs) hp
      exact q.at x2 r2 _ (.tup (.of upd_same) (ha.mono x2.fro))
    · rename_i zs e
      obtain ⟨v, rfl, q0⟩ := rws1 h
      cases w with
      | d y =>
        cases e
        cases q0 with
        | tup hs ha => exact call_tuple_of pins s σ H _ us Q I ru ⟨_, _, rfl, .inr ⟨sameT r.sub hs, q.now r _ (.tup hs ha)⟩⟩
      | r k =>
        have e : (μ[k]?.join).map PyData.list = some (.tuple zs) := e
        obtain ⟨c, e1, e2⟩ := Option.map_eq_some_iff.mp e
        cases e2
    · exact q.elim
  · exact q.elim
theorem cr_gDivmod : CallR X (.builtin "divmod") (rnG X.K X.mg gDivmod) := by
  intro pins s σ H xs us Q I ru ⟨μ, α, F, ws, r, h, q⟩
  unfold gDivmod at q
  split at q
  · split at q
    · rename_i i j hj
      obtain ⟨v, v', rfl, d, d'⟩ := rws2 h
      cases d
      cases d'
      refine call_divmodW pins s σ H _ us Q I ru ⟨_, _, rfl, hj, fun p hp => ?_⟩
      obtain ⟨r2, x2⟩ := r.new (o := .tup [.int (i / j), .int (i % j)]) hp
      exact q.at x2 r2 _ (.tup (.of upd_same) (.cons (.int _) (.cons (.int _) .nil)))
    · exact q.elim
  · exact q.elim
theorem cr_gGcd : CallR X (.builtin "math.gcd") (rnG X.K X.mg gGcd) := by
  intro pins s σ H xs us Q I ru ⟨μ, α, F, ws, r, h, q⟩
  unfold gGcd at q
  split at q
  · obtain ⟨v, v', rfl, d, d'⟩ := rws2 h
    cases d
    cases d'
    exact cr_gcd pins s σ H _ us Q I ru ⟨_, _, rfl, q.now r _ (.int _)⟩
  · exact q.elim
theorem cr_gRepr (hg : X.A.guards = some []) (hu : X.A.units + 64 < cLine) : CallR X (.builtin "repr") (rnG X.K X.mg gRepr) := by
  intro pins s σ H xs us Q I ru ⟨μ, α, F, ws, r, h, q⟩
  unfold gRepr at q
  split at q
  · split at q
    · rename_i x e
      split at q
      · rename_i ok
        obtain ⟨v, rfl, d⟩ := data1 r h e
        unfold reprOk at ok
        simp only [Bool.and_eq_true, decide_eq_true_eq, Bool.not_eq_true'] at ok
        obtain ⟨⟨⟨k1, k2⟩, k3⟩, k4⟩ := ok
        obtain ⟨u, rfl, rw1⟩ := vals1 ru
        have q := q.now r _ (.str _)
        obtain ⟨as, d2, _⟩ := Dq.reads I x v u d rw1
        have k2' : x.shown.length ≤ sizeLine := le_line k2
        have nd : x.hasDict = true → sysModules ∉ as := fun z => by rw [k4] at z; cases z
        cases d2 with
        | none =>
          simp only [PyData.shown] at q
          exact PySem.P.repr_of_none ⟨.str _, H, I.tok _, ⟨_, rfl⟩, q⟩
        | bool b =>
          simp only [PyData.shown] at q
          exact PySem.P.repr_of_bool ⟨.str _, H, I.tok _, ⟨_, rfl⟩, q⟩
        | int i t =>
          simp only [PyData.shown] at q
          exact PySem.P.repr_of_int (by simpa [PyData.showable] using k1) ⟨.str _, H, I.tok _, ⟨_, rfl⟩, q⟩
        | str z t =>
          simp only [PyData.shown] at q k2'
          exact PySem.P.repr_of_str ⟨.str _, H, I.tok _, ⟨_, rfl⟩, q⟩ k2'
        | list h1 h2 h3 h4 => exact repr_of_reads' (.list h1 h2 h3 h4) k1 nd hg (by omega) (fun _ _ z => z) (fun h' u tk hk => ⟨.str _, H, I.kept hk, ⟨_, rfl⟩, q⟩) k2'
        | tuple h1 h2 h3 h4 => exact repr_of_reads' (.tuple h1 h2 h3 h4) k1 nd hg (by omega) (fun _ _ z => z) (fun h' u tk hk => ⟨.str _, H, I.kept hk, ⟨_, rfl⟩, q⟩) k2'
        | dict h1 h2 h3 h4 h5 => exact repr_of_reads' (.dict h1 h2 h3 h4 h5) k1 nd hg (by omega) (fun _ _ z => z) (fun h' u tk hk => ⟨.str _, H, I.kept hk, ⟨_, rfl⟩, q⟩) k2'
      · exact q.elim
    · exact q.elim
  · exact q.elim
end

/-! ### calls of them -/
section
variable {X : Cx} {W : WX} {x : Str} {p pos : Pos} {e : Expr} {es : List Expr} {as : Av} {id T : String} {g : List Wv → Mu → Out Wv}
theorem se_bi (hc : CallR X (.builtin id) (rnG X.K X.mg g)) (hg : Gl X x) (hm : X.mg x = none) (hv : bootBuiltins x = some (.builtin id)) (ha : SA X W (e :: es) as) (hn : x ≠ "__name__") (hdb : (x == ("__debug__" : Str)) = false)
    (he : starEach (e :: es) X.env = (false, eval e X.env) :: starEach es X.env) (hpl : (backTo pos (starEach es X.env)).any (·.1) = false) : SE X W (.Call (.Name x p) (e :: es) [] pos) (en g as) := by
  refine (pe_callB hc hg hm hv ha hn hdb he hpl).imp fun σ H Q ⟨ρ, μ, α, F, r, re, q⟩ => ?_
  refine ⟨ρ, μ, α, F, r, re, q.bind.mono fun ws μ1 α1 F1 H1 x1 r1 q1 vs rv => ?_⟩
  exact ⟨μ1, α1, F1, ws, r1, rv, q1.calm⟩
theorem se_bif (hc : CallR X (.builtin id) (rnG X.K X.mg g)) (hg : Gl X x) (hm : X.mg x = some (.builtin id)) (ha : SA X W (e :: es) as) (hdb : (x == ("__debug__" : Str)) = false)
    (he : starEach (e :: es) X.env = (false, eval e X.env) :: starEach es X.env) (hpl : (backTo pos (starEach es X.env)).any (·.1) = false) : SE X W (.Call (.Name x p) (e :: es) [] pos) (en g as) := by
  refine (pe_callBfun hc hg hm ha hdb he hpl).imp fun σ H Q ⟨ρ, μ, α, F, r, re, q⟩ => ?_
  refine ⟨ρ, μ, α, F, r, re, q.bind.mono fun ws μ1 α1 F1 H1 x1 r1 q1 vs rv => ?_⟩
  exact ⟨μ1, α1, F1, ws, r1, rv, q1.calm⟩
theorem se_ty (hc : CallR X (.type T) (rnG X.K X.mg g)) (hg : Gl X x) (hm : X.mg x = none) (hv : bootBuiltins x = some (.type T)) (ha : SA X W (e :: es) as) (hn : x ≠ "__name__") (hdb : (x == ("__debug__" : Str)) = false)
    (he : starEach (e :: es) X.env = (false, eval e X.env) :: starEach es X.env) (hpl : (backTo pos (starEach es X.env)).any (·.1) = false) : SE X W (.Call (.Name x p) (e :: es) [] pos) (en g as) := by
  refine (pe_callTy hc hg hm hv ha hn hdb he hpl).imp fun σ H Q ⟨ρ, μ, α, F, r, re, q⟩ => ?_
  refine ⟨ρ, μ, α, F, r, re, q.bind.mono fun ws μ1 α1 F1 H1 x1 r1 q1 vs rv => ?_⟩
  exact ⟨μ1, α1, F1, ws, r1, rv, q1.calm⟩
/-- list(e) -/
def lList (as : Av) : Lv := fun ρ μ => (as ρ μ).bind fun ws μ1 => calm (gList ws μ1)
theorem items_of {α : List Addr} {F H : Hp} {μ : Mu} {v : V} {w : Wv} {zs : List PyData} {K : PySem.W.Frag} (r : Rep K α F μ H) (e : dataOf μ w = some (.list zs)) (q0 : Rw K α F v w) : ∃ a vs, v = .ref a ∧ Ls K H a vs ∧ DqAll K F vs zs := by
  cases w with
  | d y =>
    cases e
    cases q0 with
    | lst hs ha => exact ⟨_, _, rfl, sameL r.sub hs, ha⟩
  | r k =>
    have e : (μ[k]?.join).map PyData.list = some (.list zs) := e
    obtain ⟨c, e1, e2⟩ := Option.map_eq_some_iff.mp e
    cases e2
    have e' : μ[k]? = some (some zs) := by
      cases z : μ[k]? with
      | none =>
        rw [z] at e1
        cases e1
      | some o =>
        rw [z] at e1
        have e3 : o = some zs := e1
        rw [e3]
    obtain ⟨a, vs, h1, h2, h3, h4⟩ := r.cell k zs e'
    obtain ⟨b, g1, rfl⟩ := q0
    rw [h1] at g1
    cases g1
    exact ⟨a, vs, rfl, .of h2, h4⟩
theorem tup_of {α : List Addr} {F H : Hp} {μ : Mu} {v : V} {w : Wv} {zs : List PyData} {K : PySem.W.Frag} (r : Rep K α F μ H) (e : dataOf μ w = some (.tuple zs)) (q0 : Rw K α F v w) : w = .d (.tuple zs) ∧ ∃ a vs, v = .ref a ∧ SqT K F a vs ∧ DqAll K F vs zs := by
  cases w with
  | d y =>
    cases e
    cases q0 with
    | tup hs ha => exact ⟨rfl, _, _, rfl, hs, ha⟩
  | r k =>
    have e : (μ[k]?.join).map PyData.list = some (.tuple zs) := e
    obtain ⟨c, e1, e2⟩ := Option.map_eq_some_iff.mp e
    cases e2
theorem fresh0 {α α' : List Addr} {F F' H H' : Hp} (x : Ext α F H α' F' H') {p : Addr} (hp : H' p = none) : H p = none := by
  by_cases z : H p = none
  · exact z
  · exact absurd hp (x.keep p z)
theorem sl_list (hg : Gl X x) (hm : X.mg x = none) (hv : bootBuiltins x = some (.type "list")) (ha : SA X W (e :: es) as) (hn : x ≠ "__name__") (hdb : (x == ("__debug__" : Str)) = false)
    (he : starEach (e :: es) X.env = (false, eval e X.env) :: starEach es X.env) (hpl : (backTo pos (starEach es X.env)).any (·.1) = false) : SL X W (.Call (.Name x p) (e :: es) [] pos) (lList as) := by
  refine (pe_callTy call_list_of hg hm hv ha hn hdb he hpl).imp fun σ H Q ⟨ρ, μ, α, F, r, re, q⟩ => ?_
  refine ⟨ρ, μ, α, F, r, re, q.bind0.mono fun ws μ1 α1 F1 H1 x1 r1 q1 vs rv => ?_⟩
  have q1 : gp X.K X.mg α F H (gList ws μ1) (Gl' X.K H Q) (fun _ _ _ => False) := gp.calm q1
  have fin : ∀ {zs : List PyData} {us : List V}, gList ws μ1 = .ok zs μ1 → DqAll X.K F1 us zs → ∀ l, H1 l = none → Q (.ref l) (upd H1 l (.lst us)) := fun {zs us} e d l hl => by
    rw [e] at q1
    obtain ⟨r2, x2⟩ := r1.side (o := .lst us) hl
    exact q1.at (x1.trans x2) r2 l us (fresh0 x1 hl) upd_same (r1.sub.free hl) (fun m => r1.had l m hl) d
  have q2 := q1
  unfold gList at q2
  split at q2
  · rename_i w
    split at q2
    · rename_i zs e
      obtain ⟨v, rfl, q0⟩ := rws1 rv
      obtain ⟨a, us, rfl, hs, d⟩ := items_of r1 e q0
      exact ⟨a, us, rfl, .inl hs.sq, fin (by simp only [gList, e]) d⟩
    · rename_i zs e
      obtain ⟨v, rfl, q0⟩ := rws1 rv
      obtain ⟨rfl, a, us, rfl, hs, d⟩ := tup_of r1 e q0
      exact ⟨a, us, rfl, .inr (sameT r1.sub hs), fin rfl d⟩
    · exact q2.elim
  · exact q2.elim
end
end TL
/-! TL7: subscripts, slices, x[::-1], isinstance. -/
namespace TL
open PySem PySem.Spec L2

theorem atI_rel {K : PySem.W.Frag} {F : Hp} {vs : List V} {ds : List PyData} {k : Int} {d : PyData} (h : DqAll K F vs ds) (e : atI ds k = some d) : ∃ v, atI vs k = some v ∧ Dq K F v d := by
  unfold atI at e ⊢
  rw [h.length]
  cases z : ixN ds.length k with
  | none =>
    rw [z] at e
    cases e
  | some j =>
    rw [z] at e
    exact h.get e
/-- x[i] -/
def gIx (a i : Wv) (μ : Mu) : Out Wv :=
  match dataOf μ a, i with
  | some (.tuple xs), .d (.int k) => match atI xs k with
    | some x => .ok (.d x) μ
    | none => .bad
  | some (.list xs), .d (.int k) => match atI xs k with
    | some x => .ok (.d x) μ
    | none => .bad
  | some (.str z), .d (.int k) => if z.length ≤ 16777216 then match atI z.cps.toList k with
    | some c => .ok (wS ⟨#[c]⟩) μ
    | none => .bad else .bad
  | _, _ => .bad
/-- the part from lo up to hi -/
def cutL {β : Type} (xs : List β) (lo hi : Option Int) : List β := (xs.drop (HT.sIx xs.length 0 lo)).take (HT.sIx xs.length xs.length hi - HT.sIx xs.length 0 lo)
/-- x[lo:hi] -/
def gSl (a : Wv) (lo hi : Option Int) (μ : Mu) : Out Wv :=
  match dataOf μ a with
  | some (.tuple xs) => .ok (wT (cutL xs lo hi)) μ
  | some (.list xs) => .ok (wL (cutL xs lo hi)) μ
  | some (.str z) => if z.length ≤ 16777216 then .ok (wS (cutS z lo hi)) μ else .bad
  | _ => .bad
/-- x[::-1] -/
def gRev (a : Wv) (μ : Mu) : Out Wv :=
  match dataOf μ a with
  | some (.tuple xs) => .ok (wT xs.reverse) μ
  | some (.list xs) => .ok (wL xs.reverse) μ
  | _ => .bad
section
variable {X : Cx} {W : WX}
theorem ix_g : IxR X (r2G X.K X.mg gIx) := by
  intro value slice pins s σ H x y v u Q I rx ry ⟨μ, α, F, w1, w2, r, h1, h2, q⟩ hs
  unfold gIx at q
  split at q
  · rename_i xs k e
    split at q
    · rename_i d ed
      obtain ⟨rfl, a, vs, rfl, hv, da⟩ := tup_of r e h1
      cases h2
      obtain ⟨v', e1, e2⟩ := atI_rel da ed
      exact ix_seq value slice pins s σ H _ _ v u Q I rx ry (.inr (.inl ⟨a, vs, k, v', rfl, rfl, sameT r.sub hv, e1, q.now r _ e2⟩)) hs
    · exact q.elim
  · rename_i xs k e
    split at q
    · rename_i d ed
      obtain ⟨a, vs, rfl, hv, da⟩ := items_of r e h1
      cases h2
      obtain ⟨v', e1, e2⟩ := atI_rel da ed
      exact ix_seq value slice pins s σ H _ _ v u Q I rx ry (.inl ⟨a, vs, k, v', rfl, rfl, hv.sq, e1, q.now r _ e2⟩) hs
    · exact q.elim
  · rename_i z k e
    split at q
    · rename_i hl
      split at q
      · rename_i c ec
        have d1 := data_ok r e h1
        cases d1
        cases h2
        exact ix_seq value slice pins s σ H _ _ v u Q I rx ry (.inr (.inr ⟨z, k, c, rfl, rfl, le_line hl, ec, q.now r _ (.str _)⟩)) hs
      · exact q.elim
    · exact q.elim
  · exact q.elim
theorem se_ix {a b : Expr} {pos : Pos} {fa fb : Ev} (ha : SE X W a fa) (hb : SE X W b fb) (hs : PlainIx b) : SE X W (.Subscript a b pos) (e2 gIx fa fb) := by
  refine (pe_ix ix_g ha hb hs).imp fun σ H Q ⟨ρ, μ, α, F, r, re, q⟩ => ?_
  refine ⟨ρ, μ, α, F, r, re, q.bind.mono fun w μ1 α1 F1 H1 x1 r1 q1 v rv => ?_⟩
  refine ⟨ρ, μ1, α1, F1, r1, re.ext x1, q1.bind.mono fun u μ2 α2 F2 H2 x2 r2 q2 v' rv' => ?_⟩
  exact ⟨μ2, α2, F2, w, u, r2, rv.ext x2, rv', q2.calm⟩
def oPart (f : Option Ev) (ρ : Rho) (μ : Mu) : Out (Option Int) :=
  match f with
  | none => .ok none μ
  | some f => (f ρ μ).bind fun w μ1 => match w with
    | .d (.int i) => .ok (some i) μ1
    | _ => .bad
def tO' (K : PySem.W.Frag) (mg : Str → Option Value) (W : WX) (f : Option Ev) : TO := fun σ H Q => ∃ ρ μ α F, Rep K α F μ H ∧ RepE K α F ρ σ ∧ gp K mg α F H (oPart f ρ μ) (fun o _ _ _ H' => Q o H') (fun c d H' => W c d σ H')
/-- a part of a slice -/
abbrev SO (X : Cx) (W : WX) (e : Option Expr) (f : Option Ev) : Prop := PO X e (tO' X.K X.mg W f)
theorem _root_.L2.PO.imp {e : Option Expr} {t t' : TO} (h : PO X e t) (i : ∀ σ H Q, t' σ H Q → t σ H Q) : PO X e t' := ⟨fun pins s σ H Q I q => h.run pins s σ H Q I (i _ _ _ q)⟩
theorem so_none : SO X W none none := po_none.imp fun σ H Q ⟨_, _, _, _, r, _, q⟩ => gp.now (c := (none : Option Int)) q r
theorem so_some {e : Expr} {f : Ev} (h : SE X W e f) : SO X W (some e) (some f) := by
  refine (po_some h).imp fun σ H Q ⟨ρ, μ, α, F, r, re, q⟩ => ?_
  have q : gp X.K X.mg α F H ((f ρ μ).bind fun w μ1 => match w with
    | .d (.int i) => .ok (some i) μ1
    | _ => .bad) (fun o _ _ _ H' => Q o H') (fun c d H' => W c d σ H') := q
  refine ⟨ρ, μ, α, F, r, re, q.bind.mono fun w μ1 α1 F1 H1 x1 r1 q1 v rv => ?_⟩
  split at q1
  · cases rv
    exact ⟨_, rfl, q1.now r1⟩
  · exact q1.elim
def rSG (K : PySem.W.Frag) (mg : Str → Option Value) : V → Option Int → Option Int → Hp → VK → Prop := fun x lo hi H Q => ∃ μ α F w, Rep K α F μ H ∧ Rw K α F x w ∧ gp K mg α F H (gSl w lo hi μ) (Gw K Q) (fun _ _ _ => False)
theorem DqAll.cut {K : PySem.W.Frag} {F : Hp} {vs : List V} {ds : List PyData} (h : DqAll K F vs ds) (lo hi : Option Int) : DqAll K F (cutV vs lo hi) (cutL ds lo hi) := by
  unfold cutV cutL
  rw [h.length]
  exact (h.drop _).take _
theorem cut_all (xs : List V) (lo hi : Option Int) (h : HT.sIx xs.length 0 lo = 0 ∧ HT.sIx xs.length xs.length hi = xs.length) : cutV xs lo hi = xs := by
  unfold cutV
  rw [h.1, h.2, List.drop_zero, Nat.sub_zero, List.take_length]
theorem sl_g : SlR X (rSG X.K X.mg) := by
  intro pins s σ H x v vl vu lo hi sl Q I rx hs pl pu ⟨μ, α, F, w, r, h, q⟩
  unfold gSl at q
  split at q
  · rename_i xs e
    obtain ⟨rfl, a, vs, rfl, hv, da⟩ := tup_of r e h
    have dc := da.cut lo hi
    refine sl_tupA pins s σ H _ v vl vu lo hi sl Q I rx hs pl pu ⟨a, vs, rfl, sameT r.sub hv, fun hw => ?_, fun hw p hp => ?_⟩
    · rw [cut_all vs lo hi hw] at dc
      exact q.now r _ (.tup hv dc)
    · obtain ⟨r2, x2⟩ := r.new (o := .tup (cutV vs lo hi)) hp
      exact q.at x2 r2 _ (.tup (.of upd_same) (dc.mono x2.fro))
  · rename_i xs e
    obtain ⟨a, vs, rfl, hv, da⟩ := items_of r e h
    have dc := da.cut lo hi
    refine L2.sl_list pins s σ H _ v vl vu lo hi sl Q I rx hs pl pu ⟨a, vs, rfl, hv.sq, fun p hp => ?_⟩
    obtain ⟨r2, x2⟩ := r.new (o := .lst (cutV vs lo hi)) hp
    exact q.at x2 r2 _ (.lst (.of upd_same) (dc.mono x2.fro))
  · rename_i z e
    split at q
    · rename_i hl
      have d1 := data_ok r e h
      cases d1
      exact sl_str pins s σ H _ v vl vu lo hi sl Q I rx hs pl pu ⟨z, rfl, le_line hl, q.now r _ (.str _)⟩
    · exact q.elim
  · exact q.elim
def eSl (a : Ev) (lo hi : Option Ev) : Ev := fun ρ μ => (a ρ μ).bind fun w μ1 => (oPart lo ρ μ1).bind fun l μ2 => (oPart hi ρ μ2).bind fun h μ3 => calm (gSl w l h μ3)
theorem se_sl {a : Expr} {lo hi : Option Expr} {pos p2 : Pos} {fa : Ev} {fl fh : Option Ev} (ha : SE X W a fa) (hl : SO X W lo fl) (hh : SO X W hi fh) : SE X W (.Subscript a (.Slice lo hi none p2) pos) (eSl fa fl fh) := by
  refine (pe_slice sl_g ha hl hh).imp fun σ H Q ⟨ρ, μ, α, F, r, re, q⟩ => ?_
  refine ⟨ρ, μ, α, F, r, re, q.bind.mono fun w μ1 α1 F1 H1 x1 r1 q1 v rv => ?_⟩
  refine ⟨ρ, μ1, α1, F1, r1, re.ext x1, q1.bind.mono fun l μ2 α2 F2 H2 x2 r2 q2 => ?_⟩
  refine ⟨ρ, μ2, α2, F2, r2, (re.ext x1).ext x2, q2.bind.mono fun h μ3 α3 F3 H3 x3 r3 q3 => ?_⟩
  exact ⟨μ3, α3, F3, w, r3, (rv.ext x2).ext x3, q3.calm⟩
end

/-! ### x[::-1] of a tuple -/
section
variable {prog : Program} {w : World} {A : Around} {E : Value → Shared → Prop} {s : Shared}
theorem fm_congr {β γ : Type} {f g : β → Option γ} : ∀ {l : List β}, (∀ x ∈ l, f x = g x) → l.filterMap f = l.filterMap g
  | [], _ => rfl
  | x :: r, h => by
    rw [List.filterMap_cons, List.filterMap_cons, h x List.mem_cons_self, fm_congr fun y hy => h y (List.mem_cons_of_mem _ hy)]
theorem back_all (xs : Array Value) : ((List.range xs.size).filterMap fun (k : Nat) => xs[(((xs.size : Int) - 1) + (k : Int) * (-1)).toNat]?).toArray = xs.toList.reverse.toArray := by
  have h : ∀ k : Nat, k < xs.size → xs[(((xs.size : Int) - 1) + (k : Int) * (-1)).toNat]? = xs.toList.reverse[k]? := fun k hk => by
    have e : (((xs.size : Int) - 1) + (k : Int) * (-1)).toNat = xs.size - 1 - k := by omega
    rw [e, List.getElem?_reverse (by simpa using hk)]
    simp
  have g : ∀ (l : List Value) (n : Nat), n ≤ l.length → (List.range n).filterMap (fun k => l[k]?) = l.take n := fun l n => by
    induction n with
    | zero => intro _; rfl
    | succ n ih =>
      intro hn
      rw [List.range_succ, List.filterMap_append, ih (by omega), List.take_add_one]
      simp [List.getElem?_eq_getElem (show n < l.length by omega)]
  have c : (List.range xs.size).filterMap (fun (k : Nat) => xs[(((xs.size : Int) - 1) + (k : Int) * (-1)).toNat]?) = (List.range xs.size).filterMap (fun (k : Nat) => xs.toList.reverse[k]?) := by
    refine fm_congr fun k hk => h k (by simpa using hk)
  rw [c, g xs.toList.reverse xs.size (by simp)]
  congr 1
  exact List.take_of_length_le (by simp)
theorem tuple_backwards {t sl : Addr} {items : Array Value} {k : Tok} {Q : Value → Shared → Prop} (ht : PyProof.Rows.IsTup s.heap t items) (hs : s.heap.IsSliceOf sl .none .none (.int (-1) k)) (hz : items.size ≤ sizeLine)
    (h : Q (.ref s.heap.objs.size) { s with heap := s.heap.push { cls := .type "tuple", data := .seq items.toList.reverse.toArray } }) : wpAny (model prog w) A (getItem (.ref t) (.ref sl)) Q E s := by
  have room : sizeOk (.seq items.toList.reverse.toArray) := by
    show items.toList.reverse.toArray.size ≤ sizeLine
    rw [List.size_toArray, List.length_reverse, Array.length_toList]
    exact hz
  obtain ⟨os, hos, hcs, hds⟩ := id hs
  have isSlice : s.TypeIs (.ref sl) "slice" := ⟨os, hos, hcs⟩
  unfold getItem
  try with_reducible refine wpAny_holding ?_
  first | refine wpAny_bind (wpAny_pure ?_) | skip
  refine wpAny_bind (wpAny_sequenceKey ht.typeIs (by decide) (wpAny_bind (wpAny_callSpecial?_slot (name := Str.ofString "__getitem__") ht.typeIs PyProof.Rows.slot_tuple_getitem
    (wpAny_call_entry PyProof.Rows.slot_tuple_getitem ht.typeIs PyProof.Rows.entry_tuple_getitem ?_ (PyProof.Rows.args_tuple_getitem _ _)))))
  show wpAny _ _ (Builtin.Tuple.tupleItemsOf (.ref t) >>= _) _ _ s
  refine wpAny_bind (PyProof.Rows.tupleItemsOf_ ht (wpAny_bind (wpAny_typeOf isSlice ?_)))
  rw [if_pos (by decide)]
  refine wpAny_bind ?_
  · unfold Builtin.Slice.sliceApplied Builtin.Slice.sliceFields
    refine wpAny_bind (wpAny_bind (wpAny_field hos hds (x := .none) rfl (wpAny_bind (wpAny_field hos hds (x := .none) rfl (wpAny_bind (wpAny_field hos hds (x := .int (-1) k) rfl (wpAny_pure ?_)))))))
    refine wpAny_bind (PyProof.Rows.slicePart_int ?_)
    show wpAny _ _ (if ((-1 : Int) == 0) = true then _ else _) _ _ s
    rw [if_neg (by decide)]
    refine wpAny_bind (PyProof.Rows.slicePart_none (wpAny_bind (PyProof.Rows.slicePart_none (wpAny_bind (wpAny_pure ?_)))))
    have adj : Builtin.Slice.sliceAdjust none none (-1) (items.size : Int) = ((items.size : Int) - 1, -1) := by
      unfold Builtin.Slice.sliceAdjust
      simp
    have plc : Builtin.Slice.slicePlaces ((items.size : Int) - 1) (-1) (-1) = items.size := by
      unfold Builtin.Slice.slicePlaces
      simp
      omega
    show wpAny _ _ (match Builtin.Slice.sliceAdjust none none (-1) (items.size : Int) with | (lo, hi) => pure (lo, (-1 : Int), Builtin.Slice.slicePlaces lo hi (-1))) _ _ s
    rw [adj]
    show wpAny _ _ (pure ((items.size : Int) - 1, (-1 : Int), Builtin.Slice.slicePlaces ((items.size : Int) - 1) (-1) (-1))) _ _ s
    rw [plc]
    refine wpAny_pure ?_
    have no : ¬ (((items.size : Int) - 1 == 0 && (-1 : Int) == 1 && items.size == items.size) = true) := by
      rw [show ((-1 : Int) == 1) = false by decide, Bool.and_false, Bool.false_and]
      exact Bool.false_ne_true
    show wpAny _ _ (if ((items.size : Int) - 1 == 0 && (-1 : Int) == 1 && items.size == items.size) = true then _ else _) _ _ s
    rw [if_neg no, back_all]
    first
      | exact wpAny_bind (m := Builtin.Tuple.tupleExact _) (wpAny_newObj_type (wpAny_pure ⟨_, rfl, wpAny_pure h⟩) room)
      | exact wpAny_bind (m := Builtin.Tuple.tupleExact _) (wpAny_newObj_type (wpAny_bind (wpAny_pure (wpAny_pure ⟨_, rfl, wpAny_pure h⟩))) room)
      | exact wpAny_bind (wpAny_bind (m := Builtin.Tuple.tupleExact _) (wpAny_newObj_type (wpAny_pure (wpAny_pure ⟨_, rfl, wpAny_pure h⟩)) room))
end
section
variable {X : Cx} {W : WX}
theorem se_rev {e : Expr} {f : Ev} {k : Nat} {p1 p2 p3 pos : Pos} (he : SE X W e f) : SE X W (.Subscript e (.Slice none none (some (.UnaryOp .USub (.Constant (.int 1) k p1) p2)) p3) pos) (e1 gRev f) := by
  refine ⟨fun pins s σ H Q I ⟨ρ, μ, α, F, r, re, q⟩ => ?_⟩
  have we : tE X.K X.mg W f σ H (fun x H1 => ∃ μ α F w, Rep X.K α F μ H1 ∧ Rw X.K α F x w ∧ gp X.K X.mg α F H1 (gRev w μ) (Gw X.K Q) (fun _ _ _ => False)) :=
    ⟨ρ, μ, α, F, r, re, q.bind.mono fun w μ1 α1 F1 H1 x1 r1 q1 v rv => ⟨μ1, α1, F1, w, r1, rv, q1.calm⟩⟩
  refine PyProof.Rows.Subscript_ (thn (he.run pins s σ H _ I we) fun v s1 ⟨x, H1, I1, rx, μ1, α1, F1, w, r1, rv, q1⟩ => ?_)
  -- the slice object
  have third : PO X (some (.UnaryOp .USub (.Constant (.int 1) k p1) p2)) (tPart (tUn (rU fun i => .int (-i)) (tC (.int 1)))) := po_some (pe_un un_neg pe_int)
  refine wpAny_Slice (thn (po_none.run pins s1 σ H1 (fun o G => o = none ∧ G = H1) I1 ⟨rfl, rfl⟩) fun u1 s2 ⟨o1, G1, I2, d1, e1, g1⟩ => ?_)
  subst e1 g1
  refine thn (po_none.run pins s2 σ G1 (fun o G => o = none ∧ G = G1) I2 ⟨rfl, rfl⟩) fun u2 s3 ⟨o2, G2, I3, d2, e2, g2⟩ => ?_
  subst e2 g2
  refine thn (third.run pins s3 σ G2 (fun o G => o = some (-1) ∧ G = G2) I3 ⟨1, rfl, -1, rfl, rfl, rfl⟩) fun u3 s4 ⟨o3, G3, I4, d3, e3, g3⟩ => ?_
  subst e3 g3
  have I5 : Inv X pins σ G3 { s4 with heap := s4.heap.push { cls := .type "slice", data := .fields #[u1, u2, u3] } } := I4.kept (t' := s4.toks) fun b ob z => Heap.get?_push_of_some _ z
  unfold gRev at q1
  split at q1
  · rename_i xs ex
    obtain ⟨rfl, a, vs, rfl, hv, da⟩ := tup_of r1 ex rv
    cases rx
    obtain ⟨its, ri, ht, hz⟩ := I5.tuple (sameT r1.sub hv)
    cases d1
    cases d2
    cases d3 with
    | int _ tk =>
      show wpAny (model X.prog X.w) X.A (PyProof.Rows.subscriptTail e (.Slice none none (some (.UnaryOp .USub (.Constant (.int 1) k p1) p2)) p3) (.ref a) (.ref s4.heap.objs.size)) (EP X pins σ Q) X.xe _
      refine PyProof.Rows.tail_any (ops := [.ref a, .ref s4.heap.objs.size]) ht.typeIs (PyProof.Rows.slot_tuple_getitem.lookup) ?_ (by with_unfolding_all rfl)
      refine tuple_backwards ht (Heap.IsSliceOf.new _ _ _ _) (by rw [List.size_toArray, ← ri.length]; exact hz) ?_
      have nf := I5.hok.fresh (Nat.le_refl _)
      obtain ⟨r2, x2⟩ := r1.new (o := .tup vs.reverse) nf
      refine ⟨.ref _, _, I5.laid (t' := s4.toks) (o := .tup vs.reverse) (fun b ob z => Heap.get?_push_of_some _ z) (Nat.le_refl _) ?_, rfl, q1.at x2 r2 _ (.tup (.of upd_same) (da.reverse.mono x2.fro))⟩
      exact ⟨by rw [List.length_reverse]; exact hz, its.reverse, ri.reverse, ⟨_, Heap.get?_push_size _ rfl, rfl, _, rfl⟩⟩
  · rename_i xs ex
    obtain ⟨a, vs, rfl, hv, da⟩ := items_of r1 ex rv
    cases rx
    obtain ⟨its, ri, ht, hz⟩ := I5.list hv.sq
    show wpAny (model X.prog X.w) X.A (PyProof.Rows.subscriptTail e (.Slice none none (some (.UnaryOp .USub (.Constant (.int 1) k p1) p2)) p3) (.ref a) (.ref s4.heap.objs.size)) (EP X pins σ Q) X.xe _
    refine PyProof.Rows.tail_any (ops := [.ref a, .ref s4.heap.objs.size]) ht.isList.typeIs (PySem.slot_list_getitem.lookup) ?_ (by with_unfolding_all rfl)
    refine wpAny_getItem_list_slice ht.isList (Heap.IsSliceOf.new _ _ _ _) d1 d2 d3 (by decide) ?_ (by rw [List.size_toArray, ← ri.length]; exact hz)
    rw [PySem.W.krv_pick]
    have nf := I5.hok.fresh (Nat.le_refl _)
    obtain ⟨r2, x2⟩ := r1.new (o := .lst vs.reverse) nf
    refine ⟨.ref _, _, I5.laid (t' := s4.toks) (o := .lst vs.reverse) (fun b ob z => Heap.get?_push_of_some _ z) (Nat.le_refl _) ?_, rfl, q1.at x2 r2 _ (.lst (.of upd_same) (da.reverse.mono x2.fro))⟩
    exact ⟨by rw [List.length_reverse]; exact hz, _, 0, ri.reverse, Heap.get?_push_size _ rfl⟩
  · exact q1.elim
end

/-! ### isinstance(x, T), T a built-in type -/
def tyName : PyData → String
  | .none => "NoneType"
  | .bool _ => "bool"
  | .int _ => "int"
  | .str _ => "str"
  | .list _ => "list"
  | .tuple _ => "tuple"
  | .dict _ => "dict"
/-- whether a value of the type a is one of the type b -/
def subTy (a b : String) : Bool := a == b || (a == "bool" && b == "int")
def kinds : List String := ["NoneType", "bool", "int", "str", "list", "tuple", "dict"]
def gIsi (T : String) (a : Wv) (μ : Mu) : Out Wv :=
  match dataOf μ a with
  | some x => if kinds.contains T = true then .ok (wBl (subTy (tyName x) T)) μ else .bad
  | none => .bad
theorem kitB_all : ∀ a ∈ kinds, ∀ b ∈ kinds, kitB a b = some (subTy a b) := by decide +kernel
theorem tyName_mem (x : PyData) : tyName x ∈ kinds := by cases x <;> simp [tyName, kinds]
section
variable {X : Cx} {W : WX}
theorem Dq.ty {K : PySem.W.Frag} {H : Hp} {v : V} {x : PyData} (h : Dq K H v x) : TyX K H v (.type (tyName x)) := by
  cases h with
  | non => exact .base .non
  | bl b => exact .base (.bl b)
  | int i => exact .base (.int i)
  | str z => exact .base (.str z)
  | lst hs _ =>
    rcases hs with (e | ⟨o, e⟩) | ⟨its, n, e, _⟩
    · exact .base (.lst e)
    · exact .base (.frz e)
    · exact .kList e rfl
  | tup hs _ =>
    rcases hs with (e | ⟨o, e⟩) | ⟨o, its, n, e, c, _⟩
    · exact .base (.tup e)
    · exact .fTuple e
    · exact .kTuple e c
  | dic e => exact .base (.dK e)
theorem se_isi {e : Expr} {f : Ev} {T : String} {p p2 pos : Pos} {x : Str} (hg : Gl X "isinstance") (hm : X.mg "isinstance" = none) (hgT : Gl X x) (hmT : X.mg x = none) (hvT : bootBuiltins x = some (.type T)) (hn : x ≠ "__name__") (hdb : (x == ("__debug__" : Str)) = false)
    (he : SE X W e f) (h1 : starEach (e :: [.Name x p2]) X.env = (false, eval e X.env) :: starEach [.Name x p2] X.env) : SE X W (.Call (.Name "isinstance" p) [e, .Name x p2] [] pos) (e1 (gIsi T) f) := by
  refine (pe_callB call_isi hg hm (by decide +kernel) (pa_cons he (pa_cons (pe_bltn (v := .ty T) hgT hmT hvT rfl hn hdb) pa_nil) h1) (by decide) (by decide) h1 (by rfl)).imp fun σ H Q ⟨ρ, μ, α, F, r, re, q⟩ => ?_
  refine ⟨ρ, μ, α, F, r, re, q.bind.mono fun w μ1 α1 F1 H1 x1 r1 q1 v rv => ?_⟩
  have q2 := gp.calm (X' := fun _ _ _ => False) q1
  unfold gIsi at q2
  split at q2
  · rename_i y ey
    split at q2
    · rename_i hT
      have d := data_ok r1 ey rv
      exact ⟨v, .ty T, _, _, subTy (tyName y) T, rfl, .ty T, d.ty, kit_ty (kitB_all _ (tyName_mem y) _ (by simpa using hT)), q2.now r1 _ (.bl _)⟩
    · exact q2.elim
  · exact q2.elim
end
end TL
/-! TL8: statements, targets, methods of cells. -/
namespace TL
open PySem PySem.Spec L2

/-- an expression's outcome in a statement: what is raised leaves with the slots -/
def liftO {γ : Type} (ρ : Rho) (o : Out γ) (k : γ → Mu → Out Fl) : Out Fl :=
  match o with
  | .ok c μ => k c μ
  | .err x ws μ => .ok (.er x ws ρ) μ
  | .bad => .bad
@[simp] theorem liftO_ok {γ : Type} (ρ : Rho) (c : γ) (μ : Mu) (k : γ → Mu → Out Fl) : liftO ρ (.ok c μ) k = k c μ := rfl
@[simp] theorem liftO_err {γ : Type} (ρ : Rho) (x : Str) (ws : List Wv) (μ : Mu) (k : γ → Mu → Out Fl) : liftO ρ (.err x ws μ) k = .ok (.er x ws ρ) μ := rfl
@[simp] theorem liftO_bad {γ : Type} (ρ : Rho) (k : γ → Mu → Out Fl) : liftO ρ (.bad : Out γ) k = .bad := rfl
def sNext : Sv := fun ρ μ => .ok (.nx ρ) μ
def sBreak : Sv := fun ρ μ => .ok (.bk ρ) μ
def sCont : Sv := fun ρ μ => .ok (.ct ρ) μ
def seqK (b : Sv) (fl : Fl) (μ : Mu) : Out Fl :=
  match fl with
  | .nx ρ' => b ρ' μ
  | fl => .ok fl μ
def sSeq (a b : Sv) : Sv := fun ρ μ => (a ρ μ).bind (seqK b)
def sExpr (f : Ev) : Sv := fun ρ μ => liftO ρ (f ρ μ) fun _ μ1 => .ok (.nx ρ) μ1
def sRet (f : Ev) : Sv := fun ρ μ => liftO ρ (f ρ μ) fun w μ1 => .ok (.rt w) μ1
/-- a cell handed back as a list that nobody changes any more -/
def frz (w : Wv) (μ : Mu) : Out Wv :=
  match w with
  | .d x => .ok (.d x) μ
  | .r k => match μ[k]? with
    | some (some c) => .ok (.d (.list c)) (μ.set k none)
    | _ => .bad
def sRetZ (f : Ev) : Sv := fun ρ μ => liftO ρ ((f ρ μ).bind frz) fun w μ1 => .ok (.rt w) μ1
def sIf (c : Bv) (a b : Sv) : Sv := fun ρ μ => liftO ρ (c ρ μ) fun t μ1 => if t = true then a ρ μ1 else b ρ μ1
def sAsg (f : Ev) (t : Gv) : Sv := fun ρ μ => liftO ρ (f ρ μ) fun w μ1 => (calm (t w ρ μ1)).bind fun ρ' μ2 => .ok (.nx ρ') μ2
def gNm (i : Nat) : Gv := fun w ρ μ => .ok (ρ.set i (some w)) μ
/-- targets one after another -/
def gSeq : List Gv → List Wv → Rho → Mu → Out Rho
  | [], [], ρ, μ => .ok ρ μ
  | t :: ts, w :: ws, ρ, μ => (t w ρ μ).bind fun ρ' μ' => gSeq ts ws ρ' μ'
  | _, _, _, _ => .bad
def gTp (ts : List Gv) : Gv := fun w ρ μ =>
  match w with
  | .d (.tuple xs) => if xs.length = ts.length then gSeq ts (xs.map Wv.d) ρ μ else .bad
  | _ => .bad
/-- o[i] = .. of a cell -/
def setC (o i w : Wv) (μ : Mu) : Out Unit :=
  match o, i, w with
  | .r k, .d (.int j), .d x => match μ[k]? with
    | some (some c) => match ixN c.length j with
      | some n => .ok () (μ.set k (some (c.set n x)))
      | none => .bad
    | _ => .bad
  | _, _, _ => .bad
def gSb (o i : Ev) : Gv := fun w ρ μ => (o ρ μ).bind fun ow μ1 => (i ρ μ1).bind fun iw μ2 => (setC ow iw w μ2).bind fun _ μ3 => .ok ρ μ3
/-- a, b = x, y without a pair -/
def sPar (i j : Nat) (as : Av) : Sv := fun ρ μ => liftO ρ (as ρ μ) fun ws μ1 => match ws with
  | [w, u] => .ok (.nx ((ρ.set i (some w)).set j (some u))) μ1
  | _ => .bad
/-- x.append(y), x.pop() -/
def gApp (o : Wv) (ws : List Wv) (μ : Mu) : Out Wv :=
  match o, ws with
  | .r k, [.d x] => match μ[k]? with
    | some (some c) => if c.length < 16777216 then .ok (.d .none) (μ.set k (some (c ++ [x]))) else .bad
    | _ => .bad
  | _, _ => .bad
def gPop (o : Wv) (μ : Mu) : Out Wv :=
  match o with
  | .r k => match μ[k]? with
    | some (some c) => match c[c.length - 1]? with
      | some x => .ok (.d x) (μ.set k (some c.dropLast))
      | none => .bad
    | _ => .bad
  | _ => .bad
/-- a cell is there -/
def live (w : Wv) (μ : Mu) : Bool :=
  match w with
  | .r k => match μ[k]? with
    | some (some _) => true
    | _ => false
  | _ => false
def eMeth1 (g : Wv → List Wv → Mu → Out Wv) (o : Ev) (as : Av) : Ev := fun ρ μ => (o ρ μ).bind fun w μ1 => if live w μ1 = true then (as ρ μ1).bind fun ws μ2 => calm (g w ws μ2) else .bad

section
variable {X : Cx} {W : WX}
theorem gp_lift {K : PySem.W.Frag} {mg : Str → Option Value} {γ : Type} {α : List Addr} {F H : Hp} {o : Out γ} {ρ : Rho} {σ : St} {k : γ → Mu → Out Fl} {D : Ends} {E : XK} (re : RepE K α F ρ σ) (h : gp K mg α F H (liftO ρ o k) (GS K mg W D) E) :
    gp K mg α F H o (fun c μ1 α1 F1 H1 => gp K mg α1 F1 H1 (k c μ1) (GS K mg W D) E) (fun c d H' => W c d σ H') := by
  cases o with
  | ok c μ1 => exact fun α1 F1 H1 x r => gp.base (o := k c μ1) h x
  | err y ws μ1 => exact fun α1 F1 H1 C d fs x r h1 h2 h3 => h α1 F1 H1 x r σ C d fs (re.ext x) h1 h2 h3
  | bad => exact h
theorem gp_lift0 {K : PySem.W.Frag} {mg : Str → Option Value} {γ : Type} {α : List Addr} {F H : Hp} {o : Out γ} {ρ : Rho} {σ : St} {k : γ → Mu → Out Fl} {D : Ends} {E : XK} (re : RepE K α F ρ σ) (h : gp K mg α F H (liftO ρ o k) (GS K mg W D) E) :
    gp K mg α F H o (fun c μ1 _ _ _ => gp K mg α F H (k c μ1) (GS K mg W D) E) (fun c d H' => W c d σ H') := by
  cases o with
  | ok c μ1 => exact fun α1 F1 H1 x r => h
  | err y ws μ1 => exact fun α1 F1 H1 C d fs x r h1 h2 h3 => h α1 F1 H1 x r σ C d fs (re.ext x) h1 h2 h3
  | bad => exact h
theorem ss_nil : SSs X W [] sNext := pss_nil.imp fun D σ H ⟨ρ, μ, α, F, r, re, q⟩ => q.now r σ re
theorem ss_pass {pos : Pos} : SS X W (.Pass pos) sNext := ps_pass.imp fun D σ H ⟨ρ, μ, α, F, r, re, q⟩ => q.now r σ re
theorem ss_break {pos : Pos} : SS X W (.Break pos) sBreak := ps_break.imp fun D σ H ⟨ρ, μ, α, F, r, re, q⟩ => q.now r σ re
theorem ss_continue {pos : Pos} : SS X W (.Continue pos) sCont := ps_continue.imp fun D σ H ⟨ρ, μ, α, F, r, re, q⟩ => q.now r σ re
theorem ss_never {st : Stmt} : SS X W st (fun _ _ => .bad) := ps_never.imp fun D σ H ⟨ρ, μ, α, F, r, re, q⟩ => q.elim
theorem gp_seq {K : PySem.W.Frag} {mg : Str → Option Value} {α : List Addr} {F H : Hp} {D : Ends} {a : Out Fl} {b : Sv} {E : XK} (h : gp K mg α F H (a.bind (seqK b)) (GS K mg W D) (fun _ _ _ => False)) :
    gp K mg α F H a (GS K mg W { D with nx := tS K mg W b D }) (fun _ _ _ => False) := by
  cases a with
  | bad => exact h
  | err x ws μ => exact h
  | ok fl μ =>
    intro α' F' H' x r
    cases fl with
    | nx ρ' => exact fun σ' re => ⟨ρ', μ, α', F', r, re, gp.base (o := b ρ' μ) h x⟩
    | bk ρ' => exact h α' F' H' x r
    | ct ρ' => exact h α' F' H' x r
    | rt w => exact h α' F' H' x r
    | er y ws ρ' => exact h α' F' H' x r
theorem ss_cons {st : Stmt} {rest : List Stmt} {a b : Sv} (h1 : SS X W st a) (h2 : SSs X W rest b) : SSs X W (st :: rest) (sSeq a b) := by
  refine (pss_cons h1 h2).imp fun D σ H ⟨ρ, μ, α, F, r, re, q⟩ => ?_
  exact ⟨ρ, μ, α, F, r, re, gp_seq (E := fun _ _ _ => False) q⟩
theorem ss_one {st : Stmt} {a : Sv} (h1 : SS X W st a) : SSs X W [st] a := pss_one h1
theorem ss_expr {e : Expr} {f : Ev} {pos : Pos} (he : SE X W e f) (hs : swapsWith e none pos.line X.env = pure false) : SS X W (.Expr e pos) (sExpr f) := by
  refine (ps_expr he hs).imp fun D σ H ⟨ρ, μ, α, F, r, re, q⟩ => ?_
  exact ⟨ρ, μ, α, F, r, re, (gp_lift re q).mono fun w μ1 α1 F1 H1 x1 r1 q1 v rv => q1.now r1 σ (re.ext x1)⟩
theorem ss_ret {e : Expr} {f : Ev} {pos : Pos} (he : SE X W e f) : SS X W (.Return (some e) pos) (sRet f) := by
  refine (ps_ret he).imp fun D σ H ⟨ρ, μ, α, F, r, re, q⟩ => ?_
  exact ⟨ρ, μ, α, F, r, re, (gp_lift re q).mono fun w μ1 α1 F1 H1 x1 r1 q1 v rv => q1.now r1 v rv⟩
theorem ss_retN {pos : Pos} : SS X W (.Return none pos) (fun _ μ => .ok (.rt (.d .none)) μ) :=
  ps_retN.imp fun D σ H ⟨ρ, μ, α, F, r, re, q⟩ => q.now r .non .non
theorem ss_retZ {e : Expr} {f : Ev} {pos : Pos} (he : SE X W e f) : SS X W (.Return (some e) pos) (sRetZ f) := by
  refine (ps_ret he).imp fun D σ H ⟨ρ, μ, α, F, r, re, q⟩ => ?_
  refine ⟨ρ, μ, α, F, r, re, (gp_lift re q).bind.mono fun w μ1 α1 F1 H1 x1 r1 q1 v rv => ?_⟩
  cases w with
  | d x => exact gp.now (gp.now (c := Wv.d x) q1 r1) r1 v rv
  | r k =>
    have q2 : gp X.K X.mg α1 F1 H1 (match μ1[k]? with
      | some (some c) => Out.ok (Wv.d (.list c)) (μ1.set k none)
      | _ => .bad) _ _ := q1
    split at q2
    · rename_i c e
      obtain ⟨F2, r2, x2, h2⟩ := r1.freeze e
      exact gp.now (q2.at x2 r2) r2 v (h2 v rv)
    · exact q2.elim
theorem ss_if {c : Expr} {a b : List Stmt} {fc : Bv} {fa fb : Sv} {pos : Pos} (hc : ST X W c fc) (ha : SSs X W a fa) (hb : SSs X W b fb) : SS X W (.If c a b pos) (sIf fc fa fb) := by
  refine (ps_if hc ha hb).imp fun D σ H ⟨ρ, μ, α, F, r, re, q⟩ => ?_
  refine ⟨ρ, μ, α, F, r, re, (gp_lift re q).mono fun t μ1 α1 F1 H1 x1 r1 q1 => ?_⟩
  cases t with
  | true => exact ⟨ρ, μ1, α1, F1, r1, re.ext x1, q1⟩
  | false => exact ⟨ρ, μ1, α1, F1, r1, re.ext x1, q1⟩

/-! targets -/
theorem sg_name {i : Nat} {x : Str} {pos : Pos} (hN : X.N.Nodup) (hi : X.N[i]? = some x) (hx : Loc X.env.scope x) (hf : X.fn x = true ∨ X.env.scope.names.lookup x = some .local) : SG X (.Name x pos) (gNm i) :=
  (pg_name hN hi hx hf).imp fun v σ H Q ⟨ρ, μ, α, F, w, r, re, rv, q⟩ => q.now r _ (re.set i rv)
def tGs' (K : PySem.W.Frag) (mg : Str → Option Value) (ts : List Gv) : TGs := fun vs σ H Q => ∃ ρ μ α F ws, Rep K α F μ H ∧ RepE K α F ρ σ ∧ Rws K α F vs ws ∧ gp K mg α F H (gSeq ts ws ρ μ) (fun ρ' _ α' F' H' => ∀ σ', RepE K α' F' ρ' σ' → Q σ' H') (fun _ _ _ => False)
abbrev SGs (X : Cx) (es : List Expr) (ts : List Gv) : Prop := PGs X es (tGs' X.K X.mg ts)
theorem _root_.L2.PGs.imp {es : List Expr} {t t' : TGs} (h : PGs X es t) (i : ∀ vs σ H Q, t' vs σ H Q → t vs σ H Q) : PGs X es t' := ⟨fun pins s σ H vs us Q I r q => h.run pins s σ H vs us Q I r (i _ _ _ _ q)⟩
theorem sgs_nil : SGs X [] [] := pgs_nil.imp fun vs σ H Q ⟨ρ, μ, α, F, ws, r, re, rv, q⟩ => by
  cases ws with
  | nil =>
    cases rv
    exact ⟨rfl, q.now r σ re⟩
  | cons w ws => exact q.elim
theorem sgs_cons {e : Expr} {es : List Expr} {t : Gv} {ts : List Gv} (h1 : SG X e t) (h2 : SGs X es ts) (hs : (assignEach (e :: es) X.env).map (·.2) = assign e X.env :: (assignEach es X.env).map (·.2)) : SGs X (e :: es) (t :: ts) := by
  refine (pgs_cons h1 h2 hs).imp fun vs σ H Q ⟨ρ, μ, α, F, ws, r, re, rv, q⟩ => ?_
  cases ws with
  | nil => exact q.elim
  | cons w ws =>
    cases rv with
    | cons r1 r2 =>
      refine ⟨_, _, rfl, ρ, μ, α, F, w, r, re, r1, gp.bind q |>.mono fun ρ' μ' α' F' H' x' rp q' σ' re' => ?_⟩
      exact ⟨ρ', μ', α', F', ws, rp, re', Rws.ext r2 x', q'⟩
theorem Rws.of_all {K : PySem.W.Frag} {α : List Addr} {F : Hp} : ∀ {vs : List V} {c : Cell}, DqAll K F vs c → Rws K α F vs (c.map Wv.d)
  | _, _, .nil => .nil
  | _, _, .cons h t => .cons h (Rws.of_all t)
theorem sg_tup {es : List Expr} {k : Nat} {pos : Pos} {ts : List Gv} (hc : X.calm = true) (h : SGs X es ts) (hn : (assignEach es X.env).length = ts.length) (hst : (assignEach es X.env).findIdx? (·.1) = none) : SG X (.Tuple es k pos) (gTp ts) := by
  refine (pg_tup hc h hn hst).imp fun v σ H Q ⟨ρ, μ, α, F, w, r, re, rv, q⟩ => ?_
  unfold gTp at q
  split at q
  · rename_i xs
    split at q
    · rename_i hl
      cases rv with
      | @tup a vs _ t1 d1 => exact ⟨a, vs, rfl, sameT r.sub t1, by rw [d1.length, hl], ρ, μ, α, F, _, r, re, Rws.of_all d1, q⟩
    · exact q.elim
  · exact q.elim
theorem sg_sub {o i : Expr} {pos : Pos} {fo fi : Ev} (ho : SE X (fun _ _ _ _ => False) o fo) (hi : SE X (fun _ _ _ _ => False) i fi) (ha : ∀ v, assign (.Subscript o i pos) X.env v = (do
      let ov ← holding [v] (eval o X.env)
      let iv ← holding [v, ov] (eval i X.env)
      standAt pos
      holding [v, ov, iv] (setItem ov iv v)
      release [v, ov, iv] [])) : SG X (.Subscript o i pos) (gSb fo fi) := by
  refine (pg_sub ho hi set_list ha).imp fun v σ H Q ⟨ρ, μ, α, F, w, r, re, rv, q⟩ => ?_
  refine ⟨ρ, μ, α, F, r, re, q.bind.mono fun ow μ1 α1 F1 H1 x1 r1 q1 ov rov => ?_⟩
  refine ⟨ρ, μ1, α1, F1, r1, re.ext x1, q1.bind.mono fun iw μ2 α2 F2 H2 x2 r2 q2 iv riv => ?_⟩
  have q3 := q2.bind0
  have rw2 : Rw X.K α2 F2 v w := (rv.ext x1).ext x2
  unfold setC at q3
  split at q3
  · rename_i k j y
    split at q3
    · rename_i c ec
      split at q3
      · rename_i n en
        have q4 : gp X.K X.mg α2 F2 H2 (.ok ρ (μ2.set k (some (c.set n y)))) (fun ρ' _ α' F' H' => ∀ σ', RepE X.K α' F' ρ' σ' → Q σ' H') (fun _ _ _ => False) := by
          have z : setC (.r k) (.d (.int j)) (.d y) μ2 = .ok () (μ2.set k (some (c.set n y))) := by
            simp only [setC, ec, en]
          have q5 := q2
          rw [z] at q5
          exact q5
        obtain ⟨a, vs, h1, h2, h3, h4⟩ := r2.cell k c ec
        obtain ⟨b, g1, rfl⟩ := rov.ext x2
        rw [h1] at g1
        cases g1
        cases riv
        obtain ⟨rw', xw⟩ := r2.write ec h1 (h4.set rw2 n)
        exact ⟨a, vs, j, n, rfl, rfl, h2, by rw [h4.length]; exact en, q4.at xw rw' σ (((re.ext x1).ext x2).ext xw)⟩
      · exact q3.elim
    · exact q3.elim
  · exact q3.elim
theorem ss_asg {tg e : Expr} {f : Ev} {t : Gv} {pos : Pos} (he : SE X W e f) (hg : SG X tg t) (hs : swapsWithSole [tg] e pos.line X.env = pure false) (hw : swappedStores [tg] e X.env = pure none) (h1 : (assignEach [tg] X.env).map (·.2) = [assign tg X.env]) :
    SS X W (.Assign [tg] e pos) (sAsg f t) := by
  refine (ps_asg he hg hs hw h1).imp fun D σ H ⟨ρ, μ, α, F, r, re, q⟩ => ?_
  refine ⟨ρ, μ, α, F, r, re, (gp_lift re q).mono fun w μ1 α1 F1 H1 x1 r1 q1 v rv => ?_⟩
  exact ⟨ρ, μ1, α1, F1, w, r1, re.ext x1, rv, q1.bind.calm.mono fun ρ' μ2 α2 F2 H2 x2 r2 q2 σ' re' => q2.now r2 σ' re'⟩
theorem ss_set {i : Nat} {x : Str} {e : Expr} {f : Ev} {pos pos' : Pos} (hN : X.N.Nodup) (hi : X.N[i]? = some x) (hx : Loc X.env.scope x) (he : SE X W e f) (hs : swapsWith e (some (.Name x pos')) pos.line X.env = pure false) (hf : X.fn x = true ∨ X.env.scope.names.lookup x = some .local) :
    SS X W (.Assign [.Name x pos'] e pos) (sAsg f (gNm i)) := by
  refine (ps_set hN hi hx he hs hf).imp fun D σ H ⟨ρ, μ, α, F, r, re, q⟩ => ?_
  refine ⟨ρ, μ, α, F, r, re, (gp_lift re q).mono fun w μ1 α1 F1 H1 x1 r1 q1 v rv => ?_⟩
  exact q1.now r1 _ ((re.ext x1).set i rv)
theorem ss_par {i j : Nat} {x y : Str} {a b : Expr} {as : Av} {px py pt pos : Pos} {kt k2 : Nat} {pt2 : Pos} (hc : X.calm = true) (hN : X.N.Nodup) (hi : X.N[i]? = some x) (hj : X.N[j]? = some y) (hij : i ≠ j) (hx : X.env.scope.names.lookup x = some .local) (hy : X.env.scope.names.lookup y = some .local)
    (ha : SA X W [a, b] as) (hw : swappedStores [.Tuple [.Name x px, .Name y py] kt pt] (.Tuple [a, b] k2 pt2) X.env = pure (some [x, y])) (hs : swapsWithSole [.Tuple [.Name x px, .Name y py] kt pt] (.Tuple [a, b] k2 pt2) pos.line X.env = pure false) :
    SS X W (.Assign [.Tuple [.Name x px, .Name y py] kt pt] (.Tuple [a, b] k2 pt2) pos) (sPar i j as) := by
  refine (ps_par hc hN hi hj hij hx hy ha hw hs).imp fun D σ H ⟨ρ, μ, α, F, r, re, q⟩ => ?_
  refine ⟨ρ, μ, α, F, r, re, (gp_lift re q).mono fun ws μ1 α1 F1 H1 x1 r1 q1 vs rv => ?_⟩
  split at q1
  · obtain ⟨v, v', rfl, d, d'⟩ := rws2 rv
    exact ⟨v, v', rfl, q1.now r1 _ (((re.ext x1).set i d).set j d')⟩
  · exact q1.elim

/-! methods of cells -/
theorem cell_at {K : PySem.W.Frag} {α : List Addr} {F H : Hp} {μ : Mu} {k : Nat} {c : Cell} {v : V} (r : Rep K α F μ H) (e : μ[k]? = some (some c)) (q : Rw K α F v (.r k)) : ∃ a vs, v = .ref a ∧ α[k]? = some a ∧ H a = some (.lst vs) ∧ DqAll K F vs c := by
  obtain ⟨a, vs, h1, h2, h3, h4⟩ := r.cell k c e
  obtain ⟨b, g1, rfl⟩ := q
  rw [h1] at g1
  cases g1
  exact ⟨a, vs, rfl, h1, h2, h4⟩
section
variable {o e : Expr} {es : List Expr} {apos cpos : Pos} {fo : Ev} {as : Av}
theorem se_app (ho : SE X W o fo) (ha : SA X W (e :: es) as) (hb : attributeBase o "append" X.env (eval o X.env) = eval o X.env)
    (hfew : ((backTo cpos (starEach (e :: es) X.env)).all (fun x => !x.1) && (backToKw cpos (keywordEach [] X.env)).all (fun x => x.1.isSome) && decide ((e :: es).length + ([] : List Keyword).length + (if ([] : List Keyword).isEmpty then 0 else 1) < 30)) = true)
    (hl : (apos.endLine == cpos.line) = true) (hs : starEach (e :: es) X.env = (false, eval e X.env) :: starEach es X.env) (hp : (backTo cpos (starEach es X.env)).any (·.1) = false) :
    SE X W (.Call (.Attribute o "append" apos) (e :: es) [] cpos) (eMeth1 gApp fo as) := by
  refine (pe_bm PySem.F.plainAttrs_list PySem.F.slot_list_append PySem.F.type_list_append mt_append ho ha hb hfew hl hs hp).imp fun σ H Q ⟨ρ, μ, α, F, r, re, q⟩ => ?_
  refine ⟨ρ, μ, α, F, r, re, q.bind.mono fun w μ1 α1 F1 H1 x1 r1 q1 v rv => ?_⟩
  by_cases hw : live w μ1 = true
  · rw [if_pos hw] at q1
    have ty : tyV X.K "list" v H1 := by
      unfold live at hw
      split at hw
      · split at hw
        · rename_i k c ec
          obtain ⟨a, vs, rfl, h1, h2, h4⟩ := cell_at r1 ec rv
          exact .inl ⟨rfl, _, .inl (.inl h2)⟩
        · cases hw
      · cases hw
    refine ⟨ty, ρ, μ1, α1, F1, r1, re.ext x1, q1.bind.mono fun ws μ2 α2 F2 H2 x2 r2 q2 us rus => ?_⟩
    have q3 := q2.calm (X' := fun _ _ _ => False)
    have rv2 := rv.ext x2
    unfold gApp at q3
    split at q3
    · split at q3
      · split at q3
        · rename_i k y _ c ec hl
          obtain ⟨a, vs, rfl, h1, h2, h4⟩ := cell_at r2 ec rv2
          cases rus with
          | cons r1' t1 =>
            cases t1
            have r1' : Dq X.K F2 _ y := r1'
            obtain ⟨rw', xw⟩ := r2.write ec h1 (h4.append (.cons r1' .nil))
            exact ⟨a, vs, _, rfl, rfl, h2, by rw [h4.length, sizeLine_eq]; exact hl, q3.at xw rw' _ .non⟩
        · exact q3.elim
      · exact q3.elim
    · exact q3.elim
  · rw [if_neg hw] at q1
    exact q1.elim
theorem se_pop (ho : SE X W o fo) (hb : attributeBase o "pop" X.env (eval o X.env) = eval o X.env) (hl : (apos.endLine == cpos.line) = true) :
    SE X W (.Call (.Attribute o "pop" apos) [] [] cpos) (e1 gPop fo) := by
  refine (pe_bm0 PySem.F.plainAttrs_list PySem.F.slot_list_pop PySem.F.type_list_pop mt_pop ho hb hl).imp fun σ H Q ⟨ρ, μ, α, F, r, re, q⟩ => ?_
  refine ⟨ρ, μ, α, F, r, re, q.bind.mono fun w μ1 α1 F1 H1 x1 r1 q1 v rv => ?_⟩
  have q2 := q1.calm (X' := fun _ _ _ => False)
  unfold gPop at q2
  split at q2
  · split at q2
    · rename_i k c ec
      split at q2
      · rename_i y ey
        obtain ⟨a, vs, rfl, h1, h2, h4⟩ := cell_at r1 ec rv
        obtain ⟨y', e1, dy⟩ := h4.get ey
        obtain ⟨rw', xw⟩ := r1.write ec h1 h4.dropLast
        refine ⟨.inl ⟨rfl, _, .inl (.inl h2)⟩, a, vs, y', rfl, rfl, h2, by rw [h4.length]; exact e1, q2.at xw rw' _ (dy.mono xw.fro)⟩
      · exact q2.elim
    · exact q2.elim
  · exact q2.elim
end
end
end TL
/-! TL9: what is walked over; for, while, list comprehensions. -/
namespace TL
open PySem PySem.Spec L2 PyProof.Rows RZ

/-- the items, and the cells that must not change meanwhile -/
structure Its where
  xs : Cell
  tie : List (Nat × Cell)
abbrev Iv := Rho → Mu → Out Its
def tied (i : Its) (μ : Mu) : Prop := ∀ p ∈ i.tie, μ[p.1]? = some (some p.2)
structure JOk (K : PySem.W.Frag) (α0 : List Addr) (F0 H0 : Hp) (J : It) (i : Its) : Prop where
  at_ : ∀ α F μ H, Rep K α F μ H → Ext α0 F0 H0 α F H → tied i μ →
    (∀ n, n < i.xs.length → J.go n H) ∧ (∀ n, i.xs.length ≤ n → J.stop n H) ∧ ∀ n d x H', i.xs[n]? = some d → J.yld n H x H' → ∃ F', Rep K α F' μ H' ∧ Ext α F H α F' H' ∧ Dq K F' x d
def tI (K : PySem.W.Frag) (mg : Str → Option Value) (W : WX) (f : Iv) : TI := fun σ H R => ∃ ρ μ α F, Rep K α F μ H ∧ RepE K α F ρ σ ∧ gp K mg α F H (f ρ μ) (fun i _ α' F' H' => ∀ J, JOk K α' F' H' J i → R J H') (fun c d H' => W c d σ H')
abbrev SI (X : Cx) (W : WX) (tg e : Expr) (f : Iv) : Prop := PI X tg e (tI X.K X.mg W f)
theorem _root_.L2.PI.imp {X : Cx} {tg e : Expr} {t t' : TI} (h : PI X tg e t) (i : ∀ σ H R, t' σ H R → t σ H R) : PI X tg e t' := ⟨fun pins s σ H R I q => h.run pins s σ H R I (i _ _ _ q)⟩

/-! ### any list, tuple, text -/
def iDyn (K : PySem.W.Frag) (te : TE) : TI := fun σ H R => te σ H fun v H1 =>
  (∃ a, v = .ref a ∧ (∃ xs, SqL K H1 a xs) ∧ R (Itl K a) H1) ∨ (∃ a, v = .ref a ∧ (∃ xs, SqT K H1 a xs) ∧ R (Itt K a) H1) ∨ ∃ x, v = .str x ∧ R (L2.Its x) H1
theorem pi_dyn {X : Cx} {tg e : Expr} {te : TE} (he : PE X e te) : PI X tg e (iDyn X.K te) := by
  refine ⟨fun pins s σ H R I h => ?_⟩
  refine thn (he.run pins s σ H _ I h) fun v s1 ⟨y, H1, I1, r1, q1⟩ => ?_
  rcases q1 with ⟨a, rfl, ⟨xs, hq⟩, q⟩ | ⟨a, rfl, ⟨xs, hq⟩, q⟩ | ⟨x, rfl, q⟩
  · cases r1
    obtain ⟨its, rv, p, hz⟩ := I1.list hq
    refine wpAny_pyIter_list p.isList ?_
    exact pi_one (tk := s1.toks) I1 _ (turn_list a _) ⟨_, Heap.get?_push_size _ rfl, rfl, rfl⟩ q
  · cases r1
    obtain ⟨its, rv, p, hz⟩ := I1.tuple hq
    refine wpAny_pyIter_tuple (show s1.heap.IsTuple a its.toArray from p) ?_
    exact pi_one (tk := s1.toks) I1 _ (turn_tuple a _) ⟨_, Heap.get?_push_size _ rfl, rfl, rfl⟩ q
  · obtain ⟨t, rfl⟩ := r1
    cases ha : x.cps.all (· < 128)
    · exact wpAny_pyIter_wide ha (pi_one (tk := s1.toks) I1 _ (turn_str _ x t "str_iterator" (.inr rfl)) ⟨_, Heap.get?_push_size _ rfl, rfl, rfl⟩ q)
    · exact wpAny_pyIter_ascii ha (pi_one (tk := s1.toks) I1 _ (turn_str _ x t "str_ascii_iterator" (.inl rfl)) ⟨_, Heap.get?_push_size _ rfl, rfl, rfl⟩ q)
def strL (x : Str) : Cell := x.cps.toList.map fun c => .str ⟨#[c]⟩
def itsOf (w : Wv) (μ : Mu) : Option Its :=
  match w with
  | .d (.list c) => some ⟨c, []⟩
  | .d (.tuple c) => some ⟨c, []⟩
  | .d (.str x) => some ⟨strL x, []⟩
  | .r k => match μ[k]? with
    | some (some c) => some ⟨c, [(k, c)]⟩
    | _ => none
  | _ => none
def oOf {γ : Type} (o : Option γ) (μ : Mu) : Out γ := match o with
  | some c => .ok c μ
  | none => .bad
def iAny (f : Ev) : Iv := fun ρ μ => (f ρ μ).bind fun w μ1 => oOf (itsOf w μ1) μ1
section
variable {K : PySem.W.Frag} {α0 : List Addr} {F0 H0 : Hp}
theorem jok_list {a : Addr} {vs : List V} {c : Cell} (hF : Ls K F0 a vs) (d : DqAll K F0 vs c) : JOk K α0 F0 H0 (Itl K a) ⟨c, []⟩ := by
  refine ⟨fun α F μ H r e t => ?_⟩
  have hs : SqL K H a vs := (sameL (e.fro.trans r.sub) hF).sq
  have d' := d.mono e.fro
  refine ⟨fun n hn => ?_, fun n hn => ⟨vs, hs, by rw [d'.length]; exact hn⟩, fun n y x H' hy hyl => ?_⟩
  · have hn' : n < vs.length := by rw [d'.length]; exact hn
    exact ⟨vs, vs[n], hs, List.getElem?_eq_getElem hn'⟩
  · obtain ⟨rfl, q⟩ := hyl
    obtain ⟨v, e1, e2⟩ := d'.get hy
    have := q vs hs
    rw [e1] at this
    cases this
    exact ⟨F, r, .refl, e2⟩
theorem jok_tup {a : Addr} {vs : List V} {c : Cell} (hF : SqT K F0 a vs) (d : DqAll K F0 vs c) : JOk K α0 F0 H0 (Itt K a) ⟨c, []⟩ := by
  refine ⟨fun α F μ H r e t => ?_⟩
  have hs : SqT K H a vs := sameT (e.fro.trans r.sub) hF
  have d' := d.mono e.fro
  refine ⟨fun n hn => ?_, fun n hn => ⟨vs, hs, by rw [d'.length]; exact hn⟩, fun n y x H' hy hyl => ?_⟩
  · have hn' : n < vs.length := by rw [d'.length]; exact hn
    exact ⟨vs, vs[n], hs, List.getElem?_eq_getElem hn'⟩
  · obtain ⟨rfl, q⟩ := hyl
    obtain ⟨v, e1, e2⟩ := d'.get hy
    have := q vs hs
    rw [e1] at this
    cases this
    exact ⟨F, r, .refl, e2⟩
theorem jok_cell {a : Addr} {k : Nat} {c : Cell} (ha : α0[k]? = some a) : JOk K α0 F0 H0 (Itl K a) ⟨c, [(k, c)]⟩ := by
  refine ⟨fun α F μ H r e t => ?_⟩
  have tk : μ[k]? = some (some c) := t (k, c) List.mem_cons_self
  obtain ⟨b, vs, h1, h2, h3, d'⟩ := r.cell k c tk
  obtain ⟨β, rfl⟩ := e.pre
  rw [List.getElem?_append_left (List.getElem?_eq_some_iff.mp ha).1, ha] at h1
  cases h1
  have hs : SqL K H a vs := .inl (.inl h2)
  refine ⟨fun n hn => ?_, fun n hn => ⟨vs, hs, by rw [d'.length]; exact hn⟩, fun n y x H' hy hyl => ?_⟩
  · have hn' : n < vs.length := by rw [d'.length]; exact hn
    exact ⟨vs, vs[n], hs, List.getElem?_eq_getElem hn'⟩
  · obtain ⟨rfl, q⟩ := hyl
    obtain ⟨v, e1, e2⟩ := d'.get hy
    have := q vs hs
    rw [e1] at this
    cases this
    exact ⟨F, r, .refl, e2⟩
theorem strL_get {x : Str} {n : Nat} {c : Nat} (h : x.cps[n]? = some c) : (strL x)[n]? = some (.str ⟨#[c]⟩) := by
  unfold strL
  rw [List.getElem?_map, Array.getElem?_toList, h]
  rfl
theorem strL_len {x : Str} : (strL x).length = x.cps.size := by
  unfold strL
  rw [List.length_map, Array.length_toList]
theorem jok_str {x : Str} : JOk K α0 F0 H0 (L2.Its x) ⟨strL x, []⟩ := by
  refine ⟨fun α F μ H r e t => ⟨fun n hn => ?_, fun n hn => ?_, fun n y v H' hy hyl => ?_⟩⟩
  · rw [strL_len] at hn
    exact hn
  · rw [strL_len] at hn
    exact hn
  · obtain ⟨rfl, c, hc, rfl⟩ := hyl
    have := strL_get hc
    rw [this] at hy
    cases hy
    exact ⟨F, r, .refl, .str _⟩
end
section
variable {X : Cx} {W : WX} {tg : Expr}
theorem si_any {e : Expr} {f : Ev} (he : SE X W e f) : SI X W tg e (iAny f) := by
  refine (pi_dyn he).imp fun σ H R ⟨ρ, μ, α, F, r, re, q⟩ => ?_
  refine ⟨ρ, μ, α, F, r, re, q.bind.mono fun w μ1 α1 F1 H1 x1 r1 q1 v rv => ?_⟩
  unfold itsOf at q1
  split at q1
  · have rv : Dq X.K F1 v _ := rv
    cases rv with
    | lst h d => exact .inl ⟨_, rfl, ⟨_, (sameL r1.sub h).sq⟩, q1.now r1 _ (jok_list h d)⟩
  · have rv : Dq X.K F1 v _ := rv
    cases rv with
    | tup h d => exact .inr (.inl ⟨_, rfl, ⟨_, sameT r1.sub h⟩, q1.now r1 _ (jok_tup h d)⟩)
  · have rv : Dq X.K F1 v _ := rv
    cases rv
    exact .inr (.inr ⟨_, rfl, q1.now r1 _ jok_str⟩)
  · split at q1
    · rename_i k c ec
      obtain ⟨a, vs, rfl, h1, h2, h4⟩ := cell_at r1 ec rv
      exact .inl ⟨_, rfl, ⟨_, .inl (.inl h2)⟩, q1.now r1 _ (jok_cell h1)⟩
    · exact q1.elim
  · exact q1.elim

/-! ### range, enumerate, zip -/
def intL (lo : Int) (n : Nat) (c : Int) : Cell := (List.range n).map fun (i : Nat) => .int (lo + (i : Int) * c)
theorem intL_len {lo c : Int} {n : Nat} : (intL lo n c).length = n := by
  unfold intL
  rw [List.length_map, List.length_range]
theorem intL_get {lo c : Int} {n i : Nat} {d : PyData} (h : (intL lo n c)[i]? = some d) : d = .int (lo + (i : Int) * c) := by
  unfold intL at h
  rw [List.getElem?_map] at h
  cases e : (List.range n)[i]? with
  | none =>
    rw [e] at h
    cases h
  | some j =>
    rw [e] at h
    have := (List.getElem?_eq_some_iff.mp e).2
    rw [List.getElem_range] at this
    subst this
    cases h
    rfl
theorem jok_rng {K : PySem.W.Frag} {α0 : List Addr} {F0 H0 : Hp} {lo : Int} {n : Nat} : JOk K α0 F0 H0 (Itr lo n) ⟨intL lo n 1, []⟩ := by
  refine ⟨fun α F μ H r e t => ⟨fun i hn => ?_, fun i hn => ?_, fun i y v H' hy hyl => ?_⟩⟩
  · rw [intL_len] at hn
    exact hn
  · rw [intL_len] at hn
    exact hn
  · obtain ⟨rfl, rfl⟩ := hyl
    rw [intL_get hy, Int.mul_one]
    exact ⟨F, r, .refl, .int _⟩
theorem jok_rngC {K : PySem.W.Frag} {α0 : List Addr} {F0 H0 : Hp} {lo c : Int} {n : Nat} : JOk K α0 F0 H0 (Itc lo c n) ⟨intL lo n c, []⟩ := by
  refine ⟨fun α F μ H r e t => ⟨fun i hn => ?_, fun i hn => ?_, fun i y v H' hy hyl => ?_⟩⟩
  · rw [intL_len] at hn
    exact hn
  · rw [intL_len] at hn
    exact hn
  · obtain ⟨rfl, rfl⟩ := hyl
    rw [intL_get hy]
    exact ⟨F, r, .refl, .int _⟩
noncomputable def smallI (j : Int) : Bool := @decide (-4611686018427387904 ≤ j) (Classical.propDecidable _) && @decide (j < 4611686018427387904) (Classical.propDecidable _)
theorem smallI_ok {j : Int} (h : smallI j = true) : -(2 ^ 62) ≤ j ∧ j < 2 ^ 62 := by
  unfold smallI at h
  rw [Bool.and_eq_true] at h
  have h1 := @of_decide_eq_true _ (Classical.propDecidable _) h.1
  have h2 := @of_decide_eq_true _ (Classical.propDecidable _) h.2
  exact ⟨by omega, by omega⟩
theorem smallI_is {j : Int} (h1 : -4611686018427387904 ≤ j) (h2 : j < 4611686018427387904) : smallI j = true := by
  unfold smallI
  rw [Bool.and_eq_true]
  exact ⟨@decide_eq_true _ (Classical.propDecidable _) h1, @decide_eq_true _ (Classical.propDecidable _) h2⟩
noncomputable def iR1 (as : Av) : Iv := fun ρ μ => (as ρ μ).bind fun ws μ1 => match ws with
  | [.d (.int j)] => if smallI j = true then .ok ⟨intL 0 j.toNat 1, []⟩ μ1 else .bad
  | _ => .bad
noncomputable def iR2 (as : Av) : Iv := fun ρ μ => (as ρ μ).bind fun ws μ1 => match ws with
  | [.d (.int i), .d (.int j)] => if (smallI i && smallI j) = true then .ok ⟨intL i (j - i).toNat 1, []⟩ μ1 else .bad
  | _ => .bad
/-- downwards -/
noncomputable def iR3 (as : Av) : Iv := fun ρ μ => (as ρ μ).bind fun ws μ1 => match ws with
  | [.d (.int i), .d (.int j), .d (.int (-1))] => if (smallI i && smallI j) = true then .ok ⟨intL i (i - j).toNat (-1), []⟩ μ1 else .bad
  | _ => .bad
theorem si_r1 {a : Expr} {as : Av} {p pos : Pos} (hg : Gl X "range") (hm : X.mg "range" = none) (ha : SA X W [a] as) (hs : starEach [a] X.env = [(false, eval a X.env)]) : SI X W tg (.Call (.Name "range" p) [a] [] pos) (iR1 as) := by
  refine (pi_range1 hg hm ha hs).imp fun σ H R ⟨ρ, μ, α, F, r, re, q⟩ => ?_
  refine ⟨ρ, μ, α, F, r, re, q.bind.mono fun ws μ1 α1 F1 H1 x1 r1 q1 vs rv => ?_⟩
  split at q1
  · rename_i j
    split at q1
    · rename_i h
      cases rv with
      | cons a1 t1 =>
        cases t1
        cases a1
        obtain ⟨h1, h2⟩ := smallI_ok h
        exact ⟨j, rfl, h1, h2, q1.now r1 _ jok_rng⟩
    · exact q1.elim
  · exact q1.elim
theorem si_r2 {a b : Expr} {as : Av} {p pos : Pos} (hg : Gl X "range") (hm : X.mg "range" = none) (ha : SA X W [a, b] as) (hs : starEach [a, b] X.env = [(false, eval a X.env), (false, eval b X.env)]) (hs2 : starEach [b] X.env = [(false, eval b X.env)]) :
    SI X W tg (.Call (.Name "range" p) [a, b] [] pos) (iR2 as) := by
  refine (pi_range2 hg hm ha hs hs2).imp fun σ H R ⟨ρ, μ, α, F, r, re, q⟩ => ?_
  refine ⟨ρ, μ, α, F, r, re, q.bind.mono fun ws μ1 α1 F1 H1 x1 r1 q1 vs rv => ?_⟩
  split at q1
  · rename_i i j
    split at q1
    · rename_i h
      rw [Bool.and_eq_true] at h
      cases rv with
      | cons a1 t1 =>
        cases t1 with
        | cons a2 t2 =>
          cases t2
          cases a1
          cases a2
          obtain ⟨h1, h2⟩ := smallI_ok h.1
          obtain ⟨h3, h4⟩ := smallI_ok h.2
          exact ⟨i, j, rfl, ⟨h1, h2, h3, h4⟩, q1.now r1 _ jok_rng⟩
    · exact q1.elim
  · exact q1.elim
theorem si_r3 {a b c : Expr} {as : Av} {p pos : Pos} (hg : Gl X "range") (hm : X.mg "range" = none) (ha : SA X W [a, b, c] as)
    (hs : starEach [a, b, c] X.env = (false, eval a X.env) :: starEach [b, c] X.env) (hpl : (backTo pos (starEach [b, c] X.env)).any (·.1) = false) :
    SI X W tg (.Call (.Name "range" p) [a, b, c] [] pos) (iR3 as) := by
  refine (pi_range3 hg hm ha hs hpl).imp fun σ H R ⟨ρ, μ, α, F, r, re, q⟩ => ?_
  refine ⟨ρ, μ, α, F, r, re, q.bind.mono fun ws μ1 α1 F1 H1 x1 r1 q1 vs rv => ?_⟩
  split at q1
  · rename_i i j
    split at q1
    · rename_i h
      rw [Bool.and_eq_true] at h
      cases rv with
      | cons a1 t1 =>
        cases t1 with
        | cons a2 t2 =>
          cases t2 with
          | cons a3 t3 =>
            cases t3
            cases a1
            cases a2
            cases a3
            obtain ⟨h1, h2⟩ := smallI_ok h.1
            obtain ⟨h3, h4⟩ := smallI_ok h.2
            exact ⟨i, j, -1, _, rfl, .neg h1 h2 h3 h4, q1.now r1 _ jok_rngC⟩
    · exact q1.elim
  · exact q1.elim
/-- a list: its items, its ties -/
def lstOf (w : Wv) (μ : Mu) : Option Its :=
  match w with
  | .d (.list c) => some ⟨c, []⟩
  | .r k => match μ[k]? with
    | some (some c) => some ⟨c, [(k, c)]⟩
    | _ => none
  | _ => none
def tupOf (w : Wv) : Option Its :=
  match w with
  | .d (.tuple c) => some ⟨c, []⟩
  | _ => none
/-- what is known of a list while it is tied -/
structure LKn (K : PySem.W.Frag) (α0 : List Addr) (F0 H0 : Hp) (a : Addr) (i : Its) : Prop where
  at_ : ∀ α F μ H, Rep K α F μ H → Ext α0 F0 H0 α F H → tied i μ → ∃ vs, SqL K H a vs ∧ DqAll K F vs i.xs
theorem lkn {K : PySem.W.Frag} {α : List Addr} {F H : Hp} {μ : Mu} {w : Wv} {v : V} {i : Its} (r : Rep K α F μ H) (rv : Rw K α F v w) (e : lstOf w μ = some i) : ∃ a, v = .ref a ∧ (∃ vs, SqL K H a vs) ∧ LKn K α F H a i := by
  unfold lstOf at e
  split at e
  · cases e
    have rv : Dq K F v _ := rv
    cases rv with
    | lst h d => exact ⟨_, rfl, ⟨_, (sameL r.sub h).sq⟩, ⟨fun α' F' μ' H' r' x t => ⟨_, (sameL (x.fro.trans r'.sub) h).sq, d.mono x.fro⟩⟩⟩
  · split at e
    · rename_i k _ c ec
      cases e
      obtain ⟨a, vs, rfl, h1, h2, h4⟩ := cell_at r ec rv
      refine ⟨a, rfl, ⟨_, .inl (.inl h2)⟩, ⟨fun α' F' μ' H' r' x t => ?_⟩⟩
      have tk : μ'[k]? = some (some c) := t (k, c) List.mem_cons_self
      obtain ⟨b, us, g1, g2, g3, d'⟩ := r'.cell k c tk
      obtain ⟨β, rfl⟩ := x.pre
      rw [List.getElem?_append_left (List.getElem?_eq_some_iff.mp h1).1, h1] at g1
      cases g1
      exact ⟨us, .inl (.inl g2), d'⟩
    · cases e
  · cases e
structure TKn (K : PySem.W.Frag) (α0 : List Addr) (F0 H0 : Hp) (a : Addr) (i : Its) : Prop where
  at_ : ∀ α F μ H, Rep K α F μ H → Ext α0 F0 H0 α F H → tied i μ → ∃ vs, SqT K H a vs ∧ DqAll K F vs i.xs
theorem tkn {K : PySem.W.Frag} {α : List Addr} {F H : Hp} {μ : Mu} {w : Wv} {v : V} {i : Its} (r : Rep K α F μ H) (rv : Rw K α F v w) (e : tupOf w = some i) : ∃ a, v = .ref a ∧ (∃ vs, SqT K H a vs) ∧ TKn K α F H a i := by
  unfold tupOf at e
  split at e
  · cases e
    have rv : Dq K F v _ := rv
    cases rv with
    | tup h d => exact ⟨_, rfl, ⟨_, sameT r.sub h⟩, ⟨fun α' F' μ' H' r' x t => ⟨_, sameT (x.fro.trans r'.sub) h, d.mono x.fro⟩⟩⟩
  · cases e
def enumL (c : Cell) : Cell := c.mapIdx fun n x => .tuple [.int n, x]
def zipL (c d : Cell) : Cell := List.zipWith (fun x y => PyData.tuple [x, y]) c d
def iEnumS (as : Av) : Iv := fun ρ μ => (as ρ μ).bind fun ws μ1 => match ws with
  | [w] => (oOf (lstOf w μ1) μ1).bind fun i μ2 => .ok ⟨enumL i.xs, i.tie⟩ μ2
  | _ => .bad
theorem tied_app {xs ys : Cell} {t1 t2 : List (Nat × Cell)} {μ : Mu} {zs : Cell} (h : tied ⟨zs, t1 ++ t2⟩ μ) : tied ⟨xs, t1⟩ μ ∧ tied ⟨ys, t2⟩ μ :=
  ⟨fun p hp => h p (List.mem_append_left _ hp), fun p hp => h p (List.mem_append_right _ hp)⟩
theorem jok_enum {K : PySem.W.Frag} {α0 : List Addr} {F0 H0 : Hp} {a : Addr} {i : Its} (k : LKn K α0 F0 H0 a i) : JOk K α0 F0 H0 (Ite K a) ⟨enumL i.xs, i.tie⟩ := by
  refine ⟨fun α F μ H r e t => ?_⟩
  obtain ⟨vs, hs, d⟩ := k.at_ α F μ H r e t
  have hl : (enumL i.xs).length = i.xs.length := by unfold enumL; rw [List.length_mapIdx]
  refine ⟨fun n hn => ?_, fun n hn => ⟨vs, hs, by rw [d.length, ← hl]; exact hn⟩, fun n y x H' hy hyl => ?_⟩
  · have hn' : n < vs.length := by rw [d.length, ← hl]; exact hn
    exact ⟨vs, vs[n], hs, List.getElem?_eq_getElem hn'⟩
  · obtain ⟨T, u, rfl, hT, rfl, q⟩ := hyl
    have hu := q vs hs
    obtain ⟨z, hz, dz⟩ := d.getV hu
    have hy : (enumL i.xs)[n]? = some y := hy
    unfold enumL at hy
    rw [List.getElem?_mapIdx, hz] at hy
    cases hy
    obtain ⟨r2, x2⟩ := r.new (o := .tup [.int (n : Nat), u]) hT
    exact ⟨_, r2, x2, .tup (.inl (.inl upd_same)) (.cons (.int _) (.cons (dz.mono x2.fro) .nil))⟩
theorem si_enum {e : Expr} {as : Av} {p pos tpos : Pos} {elts : List Expr} {kk : Nat} (hg : Gl X "enumerate") (hm : X.mg "enumerate" = none) (ha : SA X W [e] as) (hs : starEach [e] X.env = [(false, eval e X.env)]) :
    SI X W (.Tuple elts kk tpos) (.Call (.Name "enumerate" p) [e] [] pos) (iEnumS as) := by
  refine (pi_enum hg hm ha hs).imp fun σ H R ⟨ρ, μ, α, F, r, re, q⟩ => ?_
  refine ⟨ρ, μ, α, F, r, re, q.bind.mono fun ws μ1 α1 F1 H1 x1 r1 q1 vs rv => ?_⟩
  split at q1
  · rename_i w
    cases rv with
    | cons a1 t1 =>
      cases t1
      cases e1 : lstOf w μ1 with
      | none =>
        rw [e1] at q1
        exact q1.elim
      | some i =>
        rw [e1] at q1
        obtain ⟨a, rfl, ⟨us, hu⟩, k⟩ := lkn r1 a1 e1
        exact ⟨a, us, rfl, hu, gp.now (c := (⟨enumL i.xs, i.tie⟩ : Its)) q1 r1 _ (jok_enum k)⟩
  · exact q1.elim
def iZipS (as : Av) : Iv := fun ρ μ => (as ρ μ).bind fun ws μ1 => match ws with
  | [w, u] => match lstOf w μ1, lstOf u μ1, tupOf w, tupOf u with
    | some i, some j, _, _ => .ok ⟨zipL i.xs j.xs, i.tie ++ j.tie⟩ μ1
    | _, _, some i, some j => .ok ⟨zipL i.xs j.xs, i.tie ++ j.tie⟩ μ1
    | _, _, _, _ => .bad
  | _ => .bad
theorem zipL_len {c d : Cell} : (zipL c d).length = min c.length d.length := by unfold zipL; rw [List.length_zipWith]
theorem jok_zip {K : PySem.W.Frag} {α0 : List Addr} {F0 H0 : Hp} {a b : Addr} {i j : Its} (k : LKn K α0 F0 H0 a i) (k2 : LKn K α0 F0 H0 b j) : JOk K α0 F0 H0 (Itz K a b) ⟨zipL i.xs j.xs, i.tie ++ j.tie⟩ := by
  refine ⟨fun α F μ H r e t => ?_⟩
  obtain ⟨t1, t2⟩ := tied_app (xs := i.xs) (ys := j.xs) t
  obtain ⟨vs, hs, d⟩ := k.at_ α F μ H r e t1
  obtain ⟨us, hs2, d2⟩ := k2.at_ α F μ H r e t2
  have hl := zipL_len (c := i.xs) (d := j.xs)
  have l1 := d.length
  have l2 := d2.length
  refine ⟨fun n hn => ?_, fun n hn => ⟨vs, us, hs, hs2, ?_⟩, fun n y x H' hy hyl => ?_⟩
  · have hn : n < (zipL i.xs j.xs).length := hn
    have hn1 : n < vs.length := by omega
    have hn2 : n < us.length := by omega
    exact ⟨vs, us, vs[n], us[n], hs, hs2, List.getElem?_eq_getElem hn1, List.getElem?_eq_getElem hn2⟩
  · have hn : (zipL i.xs j.xs).length ≤ n := hn
    omega
  · obtain ⟨T, u, u2, rfl, hT, rfl, q, q2⟩ := hyl
    obtain ⟨z, hz, dz⟩ := d.getV (q vs hs)
    obtain ⟨z2, hz2, dz2⟩ := d2.getV (q2 us hs2)
    have hy : (zipL i.xs j.xs)[n]? = some y := hy
    unfold zipL at hy
    rw [List.getElem?_zipWith, hz, hz2] at hy
    cases hy
    obtain ⟨r2, x2⟩ := r.new (o := .tup [u, u2]) hT
    exact ⟨_, r2, x2, .tup (.inl (.inl upd_same)) (.cons (dz.mono x2.fro) (.cons (dz2.mono x2.fro) .nil))⟩
theorem jok_zipT {K : PySem.W.Frag} {α0 : List Addr} {F0 H0 : Hp} {a b : Addr} {i j : Its} (k : TKn K α0 F0 H0 a i) (k2 : TKn K α0 F0 H0 b j) : JOk K α0 F0 H0 (ItzT K a b) ⟨zipL i.xs j.xs, i.tie ++ j.tie⟩ := by
  refine ⟨fun α F μ H r e t => ?_⟩
  obtain ⟨t1, t2⟩ := tied_app (xs := i.xs) (ys := j.xs) t
  obtain ⟨vs, hs, d⟩ := k.at_ α F μ H r e t1
  obtain ⟨us, hs2, d2⟩ := k2.at_ α F μ H r e t2
  have hl := zipL_len (c := i.xs) (d := j.xs)
  have l1 := d.length
  have l2 := d2.length
  refine ⟨fun n hn => ?_, fun n hn => ⟨vs, us, hs, hs2, ?_⟩, fun n y x H' hy hyl => ?_⟩
  · have hn : n < (zipL i.xs j.xs).length := hn
    have hn1 : n < vs.length := by omega
    have hn2 : n < us.length := by omega
    exact ⟨vs, us, vs[n], us[n], hs, hs2, List.getElem?_eq_getElem hn1, List.getElem?_eq_getElem hn2⟩
  · have hn : (zipL i.xs j.xs).length ≤ n := hn
    omega
  · obtain ⟨T, u, u2, rfl, hT, rfl, q, q2⟩ := hyl
    obtain ⟨z, hz, dz⟩ := d.getV (q vs hs)
    obtain ⟨z2, hz2, dz2⟩ := d2.getV (q2 us hs2)
    have hy : (zipL i.xs j.xs)[n]? = some y := hy
    unfold zipL at hy
    rw [List.getElem?_zipWith, hz, hz2] at hy
    cases hy
    obtain ⟨r2, x2⟩ := r.new (o := .tup [u, u2]) hT
    exact ⟨_, r2, x2, .tup (.inl (.inl upd_same)) (.cons (dz.mono x2.fro) (.cons (dz2.mono x2.fro) .nil))⟩
theorem si_zip {e e2 : Expr} {as : Av} {p pos tpos : Pos} {elts : List Expr} {kk : Nat} (hg : Gl X "zip") (hm : X.mg "zip" = none) (ha : SA X W [e, e2] as)
    (hs : starEach [e, e2] X.env = (false, eval e X.env) :: starEach [e2] X.env) (hpl : (backTo pos (starEach [e2] X.env)).any (·.1) = false) :
    SI X W (.Tuple elts kk tpos) (.Call (.Name "zip" p) [e, e2] [] pos) (iZipS as) := by
  refine (pi_zipA hg hm ha hs hpl).imp fun σ H R ⟨ρ, μ, α, F, r, re, q⟩ => ?_
  refine ⟨ρ, μ, α, F, r, re, q.bind.mono fun ws μ1 α1 F1 H1 x1 r1 q1 vs rv => ?_⟩
  split at q1
  · rename_i w u
    obtain ⟨v, v', rfl, d, d'⟩ := rws2 rv
    split at q1
    · rename_i i j e1 e2
      obtain ⟨a, rfl, ⟨us, hu⟩, k⟩ := lkn r1 d e1
      obtain ⟨b, rfl, ⟨us2, hu2⟩, k2⟩ := lkn r1 d' e2
      exact ⟨a, b, us, us2, rfl, .inl ⟨hu, hu2, q1.now r1 _ (jok_zip k k2)⟩⟩
    · rename_i i j e1 e2 _
      obtain ⟨a, rfl, ⟨us, hu⟩, k⟩ := tkn r1 d e1
      obtain ⟨b, rfl, ⟨us2, hu2⟩, k2⟩ := tkn r1 d' e2
      exact ⟨a, b, us, us2, rfl, .inr ⟨hu, hu2, q1.now r1 _ (jok_zipT k k2)⟩⟩
    · exact q1.elim
  · exact q1.elim
end
end TL
/-! TL10: for, while, list comprehensions. -/
namespace TL
open PySem PySem.Spec L2 PyProof.Rows
open Classical in
noncomputable def loopF (i : Its) (t : Gv) (b : Sv) : Cell → Rho → Mu → Out Fl
  | [], ρ, μ => if tied i μ then .ok (.nx ρ) μ else .bad
  | x :: xs, ρ, μ => if tied i μ then (calm (t (.d x) ρ μ)).bind fun ρ1 μ1 => (calm (b ρ1 μ1)).bind fun fl μ2 =>
      match fl with
      | .nx ρ2 => loopF i t b xs ρ2 μ2
      | .ct ρ2 => loopF i t b xs ρ2 μ2
      | .bk ρ2 => .ok (.nx ρ2) μ2
      | .rt w => .ok (.rt w) μ2
      | .er x us ρ2 => .ok (.er x us ρ2) μ2
    else .bad
noncomputable def sFor (it : Iv) (t : Gv) (b : Sv) : Sv := fun ρ μ => liftO ρ (it ρ μ) fun i μ1 => loopF i t b i.xs ρ μ1
def loopW (c : Bv) (b : Sv) : Nat → Rho → Mu → Out Fl
  | 0, _, _ => .bad
  | n + 1, ρ, μ => liftO ρ (c ρ μ) fun z μ1 => if z = true then (calm (b ρ μ1)).bind fun fl μ2 =>
      match fl with
      | .nx ρ2 => loopW c b n ρ2 μ2
      | .ct ρ2 => loopW c b n ρ2 μ2
      | .bk ρ2 => .ok (.nx ρ2) μ2
      | .rt w => .ok (.rt w) μ2
      | .er x us ρ2 => .ok (.er x us ρ2) μ2
    else .ok (.nx ρ) μ1
open Classical in
noncomputable def sWhile (c : Bv) (b : Sv) : Sv := fun ρ μ => if h : ∃ n, loopW c b n ρ μ ≠ .bad then loopW c b (Classical.choose h) ρ μ else .bad
theorem loopW_succ (c : Bv) (b : Sv) : ∀ (n : Nat) (ρ : Rho) (μ : Mu), loopW c b n ρ μ ≠ .bad → loopW c b (n + 1) ρ μ = loopW c b n ρ μ
  | 0, ρ, μ, h => absurd rfl h
  | n + 1, ρ, μ, h => by
    unfold loopW at h ⊢
    cases e : c ρ μ with
    | bad => rfl
    | err x ws μ1 => rfl
    | ok z μ1 =>
      rw [e] at h
      simp only [liftO_ok] at h ⊢
      by_cases hz : z = true
      · rw [if_pos hz] at h ⊢
        rw [if_pos hz]
        cases e2 : calm (b ρ μ1) with
        | bad => rfl
        | err x ws μ2 => rfl
        | ok fl μ2 =>
          rw [e2] at h
          cases fl with
          | nx ρ2 => exact loopW_succ c b n ρ2 μ2 h
          | ct ρ2 => exact loopW_succ c b n ρ2 μ2 h
          | _ => rfl
      · rw [if_neg hz, if_neg hz]
theorem loopW_add (c : Bv) (b : Sv) (n : Nat) (ρ : Rho) (μ : Mu) (h : loopW c b n ρ μ ≠ .bad) : ∀ k, loopW c b (n + k) ρ μ = loopW c b n ρ μ
  | 0 => rfl
  | k + 1 => by
    have ih := loopW_add c b n ρ μ h k
    rw [← Nat.add_assoc, loopW_succ c b (n + k) ρ μ (by rw [ih]; exact h), ih]
/-- any number of turns that is enough -/
theorem sWhile_at {c : Bv} {b : Sv} {ρ : Rho} {μ : Mu} {o : Out Fl} (n : Nat) (h : loopW c b n ρ μ = o) (hb : o ≠ .bad) : sWhile c b ρ μ = o := by
  have ex : ∃ n, loopW c b n ρ μ ≠ .bad := ⟨n, by rw [h]; exact hb⟩
  unfold sWhile
  rw [dif_pos ex]
  have h1 := loopW_add c b _ ρ μ (Classical.choose_spec ex) n
  have h2 := loopW_add c b n ρ μ (by rw [h]; exact hb) (Classical.choose ex)
  rw [Nat.add_comm] at h2
  rw [← h1, h2, h]

section
variable {X : Cx} {W : WX}
section
variable {K : PySem.W.Frag} {mg : Str → Option Value} {γ δ : Type} {α0 α : List Addr} {F0 H0 F H : Hp} {o : Out γ} {E : XK}
/-- the computation goes on elsewhere; the rest is told from the old place -/
theorem gp.keep {k : γ → Mu → Out δ} {G : δ → Mu → List Addr → Hp → Hp → Prop} (h : gp K mg α0 F0 H0 (o.bind k) G E) (x : Ext α0 F0 H0 α F H) : gp K mg α F H o (fun c μ' _ _ _ => gp K mg α0 F0 H0 (k c μ') G E) E := h.bind0.base x
end
theorem turns {i : Its} {t : Gv} {b : Sv} {D : Ends} {tg : TG} {tb : TS} (hg : tg = tG X.K X.mg t) (hb : tb = tS X.K X.mg W b) {ρ : Rho} {σ : St} {μ : Mu} {α : List Addr} {F H : Hp} {J : It} (r : Rep X.K α F μ H) (re : RepE X.K α F ρ σ) (j : JOk X.K α F H J i)
    (q : gp X.K X.mg α F H (loopF i t b i.xs ρ μ) (GS X.K X.mg W D) (fun _ _ _ => False)) :
    ∃ V : Nat → Nat → St → Hp → Prop, (∃ m, V 0 m σ H) ∧ ∀ n m σ H, V n m σ H →
      (J.stop n H ∧ D.nx σ H) ∨ (J.go n H ∧ ∃ N : St → Hp → Prop, (∀ σ' H', N σ' H' → ∃ m', m' < m ∧ V (n + 1) m' σ' H') ∧ ∀ x H', J.yld n H x H' → tg x σ H' fun σ2 H2 => tb { D with nx := N, ct := N, bk := D.nx } σ2 H2) := by
  subst hg hb
  refine ⟨fun n m σ' H' => m + n = i.xs.length ∧ ∃ ρ' μ' α' F', Rep X.K α' F' μ' H' ∧ RepE X.K α' F' ρ' σ' ∧ Ext α F H α' F' H' ∧ gp X.K X.mg α' F' H' (loopF i t b (i.xs.drop n) ρ' μ') (GS X.K X.mg W D) (fun _ _ _ => False), ⟨i.xs.length, rfl, ρ, μ, α, F, r, re, .refl, q⟩, ?_⟩
  rintro n m σ1 H1 ⟨hm, ρ1, μ1, α1, F1, r1, re1, x1, q1⟩
  by_cases hn : n < i.xs.length
  · rw [List.drop_eq_getElem_cons hn] at q1
    unfold loopF at q1
    split at q1
    · rename_i ht
      obtain ⟨jg, js, jy⟩ := j.at_ α1 F1 μ1 H1 r1 x1 ht
      refine .inr ⟨jg n hn, fun σ' H' => ∃ ρ' μ' α' F', Rep X.K α' F' μ' H' ∧ RepE X.K α' F' ρ' σ' ∧ Ext α F H α' F' H' ∧ gp X.K X.mg α' F' H' (loopF i t b (i.xs.drop (n + 1)) ρ' μ') (GS X.K X.mg W D) (fun _ _ _ => False), fun σ' H' nx => ⟨m - 1, by omega, by omega, nx⟩, fun x H2 hy => ?_⟩
      obtain ⟨F2, r2, x2, d2⟩ := jy n i.xs[n] x H2 (List.getElem?_eq_getElem hn) hy
      have q2 := (q1.base x2).bind.calm (X' := fun _ _ _ => False)
      refine ⟨ρ1, μ1, α1, F2, .d i.xs[n], r2, re1.ext x2, d2, q2.mono fun ρ3 μ3 α3 F3 H3 x3 r3 q3 σ3 re3 => ?_⟩
      refine ⟨ρ3, μ3, α3, F3, r3, re3, ?_⟩
      have q4 := q3.bind.calm (X' := fun _ _ _ => False)
      refine q4.mono fun fl μ4 α4 F4 H4 x4 r4 q5 => ?_
      have xx : Ext α F H α4 F4 H4 := ((x1.trans x2).trans x3).trans x4
      cases fl with
      | nx ρ4 => exact fun σ4 re4 => ⟨ρ4, μ4, α4, F4, r4, re4, xx, q5⟩
      | ct ρ4 => exact fun σ4 re4 => ⟨ρ4, μ4, α4, F4, r4, re4, xx, q5⟩
      | bk ρ4 => exact fun σ4 re4 => gp.now (G := GS X.K X.mg W D) (X := fun _ _ _ => False) (c := Fl.nx ρ4) q5 r4 σ4 re4
      | rt w => exact gp.now (G := GS X.K X.mg W D) (X := fun _ _ _ => False) (c := Fl.rt w) q5 r4
      | er y us ρ4 => exact gp.now (G := GS X.K X.mg W D) (X := fun _ _ _ => False) (c := Fl.er y us ρ4) q5 r4
    · exact q1.elim
  · have hn' : i.xs.length ≤ n := Nat.le_of_not_lt hn
    rw [List.drop_eq_nil_of_le hn'] at q1
    unfold loopF at q1
    split at q1
    · rename_i ht
      obtain ⟨jg, js, jy⟩ := j.at_ α1 F1 μ1 H1 r1 x1 ht
      exact .inl ⟨js n hn', gp.now (G := GS X.K X.mg W D) (X := fun _ _ _ => False) (c := Fl.nx ρ1) q1 r1 σ1 re1⟩
    · exact q1.elim
theorem ss_for {tg iter : Expr} {body : List Stmt} {fi : Iv} {t : Gv} {b : Sv} {pos : Pos} (hp : PassesOwn (model X.prog X.w) X.A X.env X.xe) (hc : X.calm = true) (hi : SI X W tg iter fi) (hg : SG X tg t) (hb : SSs X W body b)
    (hs : ∀ x, foldedSetIterable iter X.env x = pure x) : SS X W (.For tg iter body [] pos) (sFor fi t b) := by
  refine (ps_for hp hc hi hg hb hs).imp fun D σ H ⟨ρ, μ, α, F, r, re, q⟩ => ?_
  refine ⟨ρ, μ, α, F, r, re, (gp_lift re q).mono fun i μ1 α1 F1 H1 x1 r1 q1 J j => ?_⟩
  exact turns rfl rfl r1 (re.ext x1) j q1
theorem ss_whileN {c : Expr} {body : List Stmt} {fc : Bv} {b : Sv} {pos : Pos} (hp : PassesOwn (model X.prog X.w) X.A X.env X.xe) (hc : ST X W c fc) (hb : SSs X W body b) : SS X W (.While c body [] pos) (sWhile fc b) := by
  refine (ps_while hp hc hb).imp fun D σ H ⟨ρ, μ, α, F, r, re, q⟩ => ?_
  have q' : gp X.K X.mg α F H (sWhile fc b ρ μ) (GS X.K X.mg W D) (fun _ _ _ => False) := q
  unfold sWhile at q'
  split at q'
  · rename_i ex
    generalize Classical.choose ex = n0 at q'
    refine ⟨fun m σ' H' => ∃ ρ' μ' α' F', Rep X.K α' F' μ' H' ∧ RepE X.K α' F' ρ' σ' ∧ gp X.K X.mg α' F' H' (loopW fc b m ρ' μ') (GS X.K X.mg W D) (fun _ _ _ => False), ⟨n0, ρ, μ, α, F, r, re, q'⟩, ?_⟩
    rintro m σ1 H1 ⟨ρ1, μ1, α1, F1, r1, re1, q1⟩
    cases m with
    | zero => exact q1.elim
    | succ m =>
      unfold loopW at q1
      refine ⟨ρ1, μ1, α1, F1, r1, re1, (gp_lift re1 q1).mono fun z μ2 α2 F2 H2 x2 r2 q2 => ?_⟩
      cases z with
      | false => exact gp.now (G := GS X.K X.mg W D) (X := fun _ _ _ => False) (c := Fl.nx ρ1) q2 r2 σ1 (re1.ext x2)
      | true =>
        refine ⟨fun σ' H' => ∃ ρ' μ' α' F', Rep X.K α' F' μ' H' ∧ RepE X.K α' F' ρ' σ' ∧ gp X.K X.mg α' F' H' (loopW fc b m ρ' μ') (GS X.K X.mg W D) (fun _ _ _ => False), fun σ' H' nx => ⟨m, Nat.lt_succ_self m, nx⟩, ?_⟩
        refine ⟨ρ1, μ2, α2, F2, r2, re1.ext x2, ?_⟩
        have q4 := (gp.bind q2).calm (X' := fun _ _ _ => False)
        refine q4.mono fun fl μ4 α4 F4 H4 x4 r4 q5 => ?_
        cases fl with
        | nx ρ4 => exact fun σ4 re4 => ⟨ρ4, μ4, α4, F4, r4, re4, q5⟩
        | ct ρ4 => exact fun σ4 re4 => ⟨ρ4, μ4, α4, F4, r4, re4, q5⟩
        | bk ρ4 => exact fun σ4 re4 => gp.now (G := GS X.K X.mg W D) (X := fun _ _ _ => False) (c := Fl.nx ρ4) q5 r4 σ4 re4
        | rt w => exact gp.now (G := GS X.K X.mg W D) (X := fun _ _ _ => False) (c := Fl.rt w) q5 r4
        | er y us ρ4 => exact gp.now (G := GS X.K X.mg W D) (X := fun _ _ _ => False) (c := Fl.er y us ρ4) q5 r4
  · exact q'.elim

/-! ### list comprehensions -/
def wipeR (ρ : Rho) : List Nat → Rho
  | [] => ρ
  | v :: vs => (wipeR ρ vs).set v none
theorem wipeR_len (ρ : Rho) : ∀ vs, (wipeR ρ vs).length = ρ.length
  | [] => rfl
  | v :: vs => by
    unfold wipeR
    rw [List.length_set, wipeR_len ρ vs]
theorem RepE.wipe {K : PySem.W.Frag} {α : List Addr} {F : Hp} {ρ : Rho} {σ : St} (h : RepE K α F ρ σ) : ∀ vs, RepE K α F (wipeR ρ vs) (L2.wipe σ vs)
  | [] => h
  | v :: vs => by
    have ih := RepE.wipe h vs
    refine ⟨by rw [wipeR_len, wipe_length]; exact h.len, fun i w e => ?_⟩
    unfold wipeR at e
    unfold L2.wipe
    by_cases hi : v = i
    · subst hi
      by_cases hl : v < (wipeR ρ vs).length
      · rw [List.getElem?_set_self hl] at e
        cases e
      · rw [List.getElem?_eq_none (by rw [List.length_set]; omega)] at e
        cases e
    · rw [List.getElem?_set_ne hi] at e ⊢
      exact ih.at_ i w e
theorem wipe_set (σ : St) (i : Nat) (v : Option V) : ∀ vs : List Nat, i ∈ vs → L2.wipe (σ.set i v) vs = L2.wipe σ vs
  | [], h => by cases h
  | u :: vs, h => by
    unfold L2.wipe
    by_cases hm : i ∈ vs
    · rw [wipe_set σ i v vs hm]
    · have hu : i = u := by
        rcases List.mem_cons.mp h with e | e
        · exact e
        · exact absurd e hm
      subst hu
      have far : ∀ (τ : St) (vs : List Nat), i ∉ vs → L2.wipe (τ.set i v) vs = (L2.wipe τ vs).set i v := by
        intro τ vs
        induction vs with
        | nil => intro _; rfl
        | cons z zs ih =>
          intro hz
          rw [List.mem_cons, not_or] at hz
          unfold L2.wipe
          rw [ih hz.2, List.set_comm _ _ (Ne.symm hz.1)]
      rw [far σ vs hm, List.set_set]
/-- a target of a block: own names only -/
def tGw (K : PySem.W.Frag) (mg : Str → Option Value) (os : List Nat) (t : Gv) : TG := fun v σ H Q => ∃ ρ μ α F w, Rep K α F μ H ∧ RepE K α F ρ σ ∧ Rw K α F v w ∧ gp K mg α F H (t w ρ μ) (fun ρ' _ α' F' H' => ∀ σ', RepE K α' F' ρ' σ' → L2.wipe σ' os = L2.wipe σ os → Q σ' H') (fun _ _ _ => False)
abbrev SGw (X : Cx) (os : List Nat) (tg : Expr) (t : Gv) : Prop := PG X tg (tGw X.K X.mg os t)
theorem sgw_name {os : List Nat} {i : Nat} {x : Str} {pos : Pos} (hN : X.N.Nodup) (hi : X.N[i]? = some x) (hx : Loc X.env.scope x) (hf : X.fn x = true ∨ X.env.scope.names.lookup x = some .local) (ho : i ∈ os) : SGw X os (.Name x pos) (gNm i) :=
  (pg_name hN hi hx hf).imp fun v σ H Q ⟨ρ, μ, α, F, w, r, re, rv, q⟩ => q.now r _ (re.set i rv) (wipe_set σ i _ os ho)
def tGsw (K : PySem.W.Frag) (mg : Str → Option Value) (os : List Nat) (ts : List Gv) : TGs := fun vs σ H Q => ∃ ρ μ α F ws, Rep K α F μ H ∧ RepE K α F ρ σ ∧ Rws K α F vs ws ∧ gp K mg α F H (gSeq ts ws ρ μ) (fun ρ' _ α' F' H' => ∀ σ', RepE K α' F' ρ' σ' → L2.wipe σ' os = L2.wipe σ os → Q σ' H') (fun _ _ _ => False)
abbrev SGsw (X : Cx) (os : List Nat) (es : List Expr) (ts : List Gv) : Prop := PGs X es (tGsw X.K X.mg os ts)
theorem sgsw_nil {os : List Nat} : SGsw X os [] [] := pgs_nil.imp fun vs σ H Q ⟨ρ, μ, α, F, ws, r, re, rv, q⟩ => by
  cases ws with
  | nil =>
    cases rv
    exact ⟨rfl, q.now r σ re rfl⟩
  | cons w ws => exact q.elim
theorem sgsw_cons {os : List Nat} {e : Expr} {es : List Expr} {t : Gv} {ts : List Gv} (h1 : SGw X os e t) (h2 : SGsw X os es ts) (hs : (assignEach (e :: es) X.env).map (·.2) = assign e X.env :: (assignEach es X.env).map (·.2)) : SGsw X os (e :: es) (t :: ts) := by
  refine (pgs_cons h1 h2 hs).imp fun vs σ H Q ⟨ρ, μ, α, F, ws, r, re, rv, q⟩ => ?_
  cases ws with
  | nil => exact q.elim
  | cons w ws =>
    cases rv with
    | cons r1 r2 =>
      refine ⟨_, _, rfl, ρ, μ, α, F, w, r, re, r1, gp.bind q |>.mono fun ρ' μ' α' F' H' x' rp q' σ' re' e' => ?_⟩
      exact ⟨ρ', μ', α', F', ws, rp, re', Rws.ext r2 x', q'.mono fun ρ2 μ2 α2 F2 H2 x2 rp2 q2 σ2 re2 e2 => q2 σ2 re2 (e2.trans e')⟩
theorem sgw_tup {os : List Nat} {es : List Expr} {k : Nat} {pos : Pos} {ts : List Gv} (hc : X.calm = true) (h : SGsw X os es ts) (hn : (assignEach es X.env).length = ts.length) (hst : (assignEach es X.env).findIdx? (·.1) = none) : SGw X os (.Tuple es k pos) (gTp ts) := by
  refine (pg_tup hc h hn hst).imp fun v σ H Q ⟨ρ, μ, α, F, w, r, re, rv, q⟩ => ?_
  unfold gTp at q
  split at q
  · rename_i xs
    split at q
    · rename_i hl
      cases rv with
      | @tup a vs _ t1 d1 => exact ⟨a, vs, rfl, sameT r.sub t1, by rw [d1.length, hl], ρ, μ, α, F, _, r, re, Rws.of_all d1, q⟩
    · exact q.elim
  · exact q.elim
/-- one turn's item -/
def lcPut (acc : Cell) (w : Wv) (μ : Mu) : Out Cell := match w with
  | .d y => if acc.length < 16777216 then .ok (acc ++ [y]) μ else .bad
  | .r _ => .bad
open Classical in
noncomputable def loopC (i : Its) (t : Gv) (c : Bv) (e : Ev) (ρ : Rho) : Cell → Cell → Mu → Out Cell
  | [], acc, μ => if tied i μ then .ok acc μ else .bad
  | x :: xs, acc, μ => if tied i μ then (calm (t (.d x) ρ μ)).bind fun ρ1 μ1 => (calm (c ρ1 μ1)).bind fun b μ2 =>
      if b = true then ((calm (e ρ1 μ2)).bind (lcPut acc)).bind fun acc' μ3 => loopC i t c e ρ xs acc' μ3 else loopC i t c e ρ xs acc μ2
    else .bad
noncomputable def lLc (it : Iv) (t : Gv) (c : Bv) (e : Ev) (os : List Nat) : Lv := fun ρ μ => (it ρ μ).bind fun i μ1 => loopC i t c e (wipeR ρ os) i.xs [] μ1
def bYes : Bv := fun _ μ => .ok true μ
theorem Rep.poke {K : PySem.W.Frag} {α : List Addr} {F H : Hp} {μ : Mu} {D : Addr} {o : HO} (r : Rep K α F μ H) (h : H D ≠ none) (hF : F D = none) (hn : D ∉ α) : Rep K α F μ (upd H D o) := by
  refine ⟨r.len, fun b u q => ?_, fun k c q => ?_, r.inj, fun a m => ?_⟩
  · rw [upd_ne (ne_of_none q hF)]
    exact r.sub _ _ q
  · obtain ⟨a, vs, h1, h2, h3, h4⟩ := r.cell k c q
    exact ⟨a, vs, h1, by rw [upd_ne (fun (e : a = D) => hn (e ▸ List.mem_of_getElem? h1))]; exact h2, h3, h4⟩
  · rw [upd_ne (fun (e : a = D) => hn (e ▸ m))]
    exact r.had a m
theorem Ext.poke {α0 α : List Addr} {F0 H0 F H : Hp} {D : Addr} {o : HO} (e : Ext α0 F0 H0 α F H) (h : H0 D = none) : Ext α0 F0 H0 α F (upd H D o) := by
  refine ⟨e.pre, e.fro, fun a u q n => ?_, fun a q => ?_, e.newF, e.newA⟩
  · rw [upd_ne (ne_of_none q h)]
    exact e.frame a u q n
  · by_cases z : a = D
    · rw [z, upd_same]
      exact fun z => nomatch z
    · rw [upd_ne z]
      exact e.keep a q
abbrev STs (X : Cx) (W : WX) (es : List Expr) (f : Bv) : Prop := PTs X es (tT X.K X.mg W f)
theorem sts_nil : STs X W [] bYes := ⟨fun pins s σ H Q I ⟨_, _, _, _, r, _, q⟩ => pts_nil.run pins s σ H Q I (q.now r)⟩
theorem sts_one {c : Expr} {f : Bv} (h : ST X W c f) : STs X W [c] f := pts_one h
/-- the accumulator between two turns -/
structure LcAt (X : Cx) (α0 : List Addr) (F0 H0 : Hp) (H1 : Hp) (D : Addr) (i : Its) (t : Gv) (c : Bv) (e : Ev) (ρ0 : Rho) (Q : VK) (E : XK) (n : Nat) (H : Hp) : Prop where
  ex : ∃ μ α F acc vs, Rep X.K α F μ H ∧ Ext α0 F0 H0 α F H ∧ H D = some (.lst vs) ∧ F D = none ∧ D ∉ α ∧ DqAll X.K F vs acc ∧ gp X.K X.mg α0 F0 H0 (loopC i t c e ρ0 (i.xs.drop n) acc μ) (Gl' X.K H1 Q) E
theorem away {α α' : List Addr} {F F' H H' : Hp} {D : Addr} (x : Ext α F H α' F' H') {o : HO} (h : H D = some o) (hF : F D = none) (hn : D ∉ α) : H' D = some o ∧ F' D = none ∧ D ∉ α' := by
  refine ⟨x.frame D o h hn, ?_, fun m => ?_⟩
  · cases z : F' D with
    | none => rfl
    | some u =>
      rcases x.newF D (by rw [z]; exact fun z => nomatch z) with q | q | q
      · exact absurd hF q
      · rw [h] at q; cases q
      · exact absurd q hn
  · rcases x.newA D m with q | q
    · exact hn q
    · rw [h] at q; cases q
theorem lc_turns {i : Its} {t : Gv} {c : Bv} {e : Ev} {Q : VK} {E : XK} {os : List Nat} {ρ : Rho} {σ : St} {μ : Mu} {α : List Addr} {F H Hz : Hp} {J : It} (r : Rep X.K α F μ H) (re : RepE X.K α F ρ σ) (hz : ∀ a, Hz a ≠ none → H a ≠ none) (j : JOk X.K α F H J i)
    (q : gp X.K X.mg α F H (loopC i t c e (wipeR ρ os) i.xs [] μ) (Gl' X.K Hz Q) E) (D : Addr) (hD : H D = none) :
    ∃ V : Nat → Nat → Hp → Prop, (∃ m, V 0 m (upd H D (.lst []))) ∧ ∀ n m H, V n m H →
      (J.stop n H ∧ Q (.ref D) H) ∨ (J.go n H ∧ ∃ Nx : Hp → Prop, (∀ H', Nx H' → ∃ m', m' < m ∧ V (n + 1) m' H') ∧ ∀ x H', J.yld n H x H' → tGw X.K X.mg os t x (L2.wipe σ os) H' fun σ2 H2 => L2.wipe σ2 os = L2.wipe σ os ∧ tT X.K X.mg (fun _ _ _ _ => False) c σ2 H2 fun b H3 =>
        if b = true then tE X.K X.mg (fun _ _ _ _ => False) e σ2 H3 fun y H4 => ∃ acc, H4 D = some (.lst acc) ∧ acc.length < sizeLine ∧ Nx (upd H4 D (.lst (acc ++ [y]))) else Nx H3) := by
  have wipe2 : ∀ τ : St, L2.wipe (L2.wipe τ os) os = L2.wipe τ os := by
    intro τ
    have : ∀ vs : List Nat, (∀ v ∈ vs, v ∈ os) → L2.wipe (L2.wipe τ vs) os = L2.wipe τ os := by
      intro vs
      induction vs with
      | nil => intro _; rfl
      | cons v vs ih =>
        intro h
        show L2.wipe ((L2.wipe τ vs).set v none) os = _
        rw [wipe_set _ _ _ _ (h v List.mem_cons_self), ih fun u hu => h u (List.mem_cons_of_mem _ hu)]
    exact this os fun v h => h
  have fp : F D = none := r.sub.free hD
  have na : D ∉ α := fun m => r.had D m hD
  obtain ⟨rs, xs⟩ := r.side (o := .lst []) hD
  refine ⟨fun n m H' => m + n = i.xs.length ∧ LcAt X α F H Hz D i t c e (wipeR ρ os) Q E n H', ⟨i.xs.length, rfl, ⟨μ, α, F, [], [], rs, xs, upd_same, fp, na, .nil, q⟩⟩, ?_⟩
  rintro n m H1 ⟨hm, ⟨μ1, α1, F1, acc, vs, r1, x1, h1, f1, n1, d1, q1⟩⟩
  by_cases hn : n < i.xs.length
  · rw [List.drop_eq_getElem_cons hn] at q1
    unfold loopC at q1
    split at q1
    · rename_i ht
      obtain ⟨jg, js, jy⟩ := j.at_ α1 F1 μ1 H1 r1 x1 ht
      refine .inr ⟨jg n hn, LcAt X α F H Hz D i t c e (wipeR ρ os) Q E (n + 1), fun H' nx => ⟨m - 1, by omega, by omega, nx⟩, fun x H2 hy => ?_⟩
      obtain ⟨F2, r2, x2, d2⟩ := jy n i.xs[n] x H2 (List.getElem?_eq_getElem hn) hy
      have re2 : RepE X.K α1 F2 (wipeR ρ os) (L2.wipe σ os) := ((re.wipe os).ext x1).ext x2
      refine ⟨wipeR ρ os, μ1, α1, F2, .d i.xs[n], r2, re2, d2, ((q1.keep (x1.trans x2)).calm (X' := fun _ _ _ => False)).mono fun ρ3 μ3 α3 F3 H3 x3 r3 q3 σ3 re3 e3 => ?_⟩
      have x13 := (x1.trans x2).trans x3
      refine ⟨e3.trans (wipe2 σ), ρ3, μ3, α3, F3, r3, re3, ((q3.keep x13).calm (X' := fun _ _ _ => False)).mono fun b μ4 α4 F4 H4 x4 r4 q4 => ?_⟩
      have x14 := x13.trans x4
      have x24 := (x2.trans x3).trans x4
      obtain ⟨g1, g2, g3⟩ := away x24 h1 f1 n1
      have d4 := d1.mono x24.fro
      cases b with
      | false => exact ⟨μ4, α4, F4, acc, vs, r4, x14, g1, g2, g3, d4, q4⟩
      | true =>
        refine ⟨ρ3, μ4, α4, F4, r4, re3.ext x4, ((gp.keep (gp.bind0 q4) .refl |>.base x14).calm (X' := fun _ _ _ => False)).mono fun w μ5 α5 F5 H5 x5 r5 q5 v rv => ?_⟩
        obtain ⟨k1, k2, k3⟩ := away x5 g1 g2 g3
        unfold lcPut at q5
        split at q5
        · rename_i y
          split at q5
          · rename_i hl
            have d5 := d4.mono x5.fro
            refine ⟨vs, k1, by rw [d5.length, sizeLine_eq]; exact hl, ⟨μ5, α5, F5, acc ++ [y], vs ++ [v], r5.poke (by rw [k1]; exact fun z => nomatch z) k2 k3, (x14.trans x5).poke hD, upd_same, k2, k3, d5.append (.cons rv .nil), ?_⟩⟩
            exact q5.at (x14.trans x5) r5
          · exact q5.elim
        · exact q5.elim
    · exact q1.elim
  · have hn' : i.xs.length ≤ n := Nat.le_of_not_lt hn
    rw [List.drop_eq_nil_of_le hn'] at q1
    unfold loopC at q1
    split at q1
    · rename_i ht
      obtain ⟨jg, js, jy⟩ := j.at_ α1 F1 μ1 H1 r1 x1 ht
      refine .inl ⟨js n hn', ?_⟩
      have : Hz D = none := by
        by_cases z : Hz D = none
        · exact z
        · exact absurd hD (hz D z)
      exact (gp.at q1 x1 r1) D vs this h1 f1 n1 d1
    · exact q1.elim
section
variable {elt tg iter : Expr} {ifs : List Expr} {scope : Scope} {own : List (Str × Nat)} {pos : Pos} {fi : Iv} {t : Gv} {c : Bv} {e : Ev}
/-- X, as the block of a comprehension sees it -/
abbrev Bk (X : Cx) (scope : Scope) (s : Shared) (H : Hp) (C : Addr) (cl : List (Str × Addr)) (fp : List Addr) : Cx := X.blk s H scope (compEnvC scope cl C X.env) fp
abbrev W0 : WX := fun _ _ _ _ => False
theorem lc_read {D : Ends} {os : List Nat} {σ : St} {H : Hp} {Q : VK} (h : tL X.K X.mg W (lLc fi t c e os) σ H Q) : tLc (tI X.K X.mg W fi) (tGw X.K X.mg os t) (tT X.K X.mg W0 c) (tE X.K X.mg W0 e) os σ H Q := by
  obtain ⟨ρ, μ, α, F, r, re, q⟩ := h
  have q' := gp.bind0 q
  refine ⟨ρ, μ, α, F, r, re, ?_⟩
  refine (show gp X.K X.mg α F H (fi ρ μ) _ _ from q').mono fun i μ1 α1 F1 H1 x1 r1 q1 J j => ?_
  intro D hD
  exact lc_turns r1 (re.ext x1) x1.keep j (q1.base x1) D hD
theorem sl_lc (hc : X.calm = true) (hN : X.N.Nodup) (hi : SI X W tg iter fi) (ok : BlkOk X.N X.env.scope scope own)
    (hg : ∀ s H C cl fp, SGw (Bk X scope s H C cl fp) (own.map (·.2)) tg t) (ht : ∀ s H C cl fp, STs (Bk X scope s H C cl fp) W0 ifs c) (he : ∀ s H C cl fp, SE (Bk X scope s H C cl fp) W0 elt e)
    (hs : ∀ x, foldedSetIterable iter X.env x = pure x) : SL X W (.ListComp elt [⟨tg, iter, ifs, 0⟩] scope pos) (lLc fi t c e (own.map (·.2))) :=
  (pe_lc (g := tGw X.K X.mg (own.map (·.2)) t) (tt := tT X.K X.mg W0 c) (te := tE X.K X.mg W0 e) hc hN hi ok hg ht he hs).imp fun σ H Q h => lc_read (D := ⟨fun _ _ => True, fun _ _ => True, fun _ _ => True, fun _ _ => True⟩) h
/-- name = [..] on one line -/
theorem ss_setLcN {i : Nat} {y : Str} {py spos : Pos} (hc : X.calm = true) (hN : X.N.Nodup) (hy : X.N[i]? = some y) (hyl : X.env.scope.names.lookup y = some .local)
    (hsw : swapsWith (.ListComp elt [⟨tg, iter, ifs, 0⟩] scope pos) (some (.Name y py)) spos.line X.env = pure true) (hi : SI X W tg iter fi) (ok : BlkOk X.N X.env.scope scope own)
    (hg : ∀ s H C cl fp, SGw (Bk X scope s H C cl fp) (own.map (·.2)) tg t) (ht : ∀ s H C cl fp, STs (Bk X scope s H C cl fp) W0 ifs c) (he : ∀ s H C cl fp, SE (Bk X scope s H C cl fp) W0 elt e)
    (hs : ∀ x, foldedSetIterable iter X.env x = pure x) : SS X W (.Assign [.Name y py] (.ListComp elt [⟨tg, iter, ifs, 0⟩] scope pos) spos) (sAsg (eNew (lLc fi t c e (own.map (·.2)))) (gNm i)) := by
  refine (ps_setLc (g := tGw X.K X.mg (own.map (·.2)) t) (tt := tT X.K X.mg W0 c) (te := tE X.K X.mg W0 e) hc hN hy hyl hsw hi ok hg ht he hs).imp fun D σ H ⟨ρ, μ, α, F, r, re, q⟩ => ?_
  refine lc_read (D := D) ⟨ρ, μ, α, F, r, re, ?_⟩
  have q1 := gp_lift re q
  refine gp.mono (gp.bind0 (show gp X.K X.mg α F H ((lLc fi t c e (own.map (·.2)) ρ μ).bind fun c μ1 => .ok (Wv.r μ1.length) (μ1 ++ [some c])) _ _ from q1)) fun z μ1 α1 F1 H1 x1 r1 q2 A vs hD hD1 hF hn dq => ?_
  have r2 := r1.cellSide hD1 hF hn dq
  have q3 := q2.at (x1.celled hD) r2
  refine gp.now (G := GS X.K X.mg W D) (X := fun _ _ _ => False) (c := Fl.nx (ρ.set i (some (Wv.r μ1.length)))) q3 r2 _ ((re.ext (x1.celled hD)).set i ⟨A, ?_, rfl⟩)
  rw [r1.len, List.getElem?_append_right (Nat.le_refl _), Nat.sub_self]
  rfl
/-- name = [..] on one line -/
theorem ss_setLcF {i : Nat} {y : Str} {py spos : Pos} (hc : X.calm = true) (hN : X.N.Nodup) (hy : X.N[i]? = some y) (hyl : X.env.scope.names.lookup y = some .local)
    (hsw : swapsWith (.ListComp elt [⟨tg, iter, ifs, 0⟩] scope pos) (some (.Name y py)) spos.line X.env = pure true) (hi : SI X W tg iter fi) (ok : BlkOk X.N X.env.scope scope own)
    (hg : ∀ s H C cl fp, SGw (Bk X scope s H C cl fp) (own.map (·.2)) tg t) (ht : ∀ s H C cl fp, STs (Bk X scope s H C cl fp) W0 ifs c) (he : ∀ s H C cl fp, SE (Bk X scope s H C cl fp) W0 elt e)
    (hs : ∀ x, foldedSetIterable iter X.env x = pure x) : SS X W (.Assign [.Name y py] (.ListComp elt [⟨tg, iter, ifs, 0⟩] scope pos) spos) (sAsg (eFrz (lLc fi t c e (own.map (·.2)))) (gNm i)) := by
  refine (ps_setLc (g := tGw X.K X.mg (own.map (·.2)) t) (tt := tT X.K X.mg W0 c) (te := tE X.K X.mg W0 e) hc hN hy hyl hsw hi ok hg ht he hs).imp fun D σ H ⟨ρ, μ, α, F, r, re, q⟩ => ?_
  refine lc_read (D := D) ⟨ρ, μ, α, F, r, re, ?_⟩
  have q1 := gp_lift re q
  refine gp.mono (gp.bind0 (show gp X.K X.mg α F H ((lLc fi t c e (own.map (·.2)) ρ μ).bind fun c μ1 => .ok (Wv.d (.list c)) μ1) _ _ from q1)) fun z μ1 α1 F1 H1 x1 r1 q2 A vs hD hD1 hF hn dq => ?_
  have r2 := r1.freezeSide hD1 hF hn
  have q3 := q2.at (x1.frozen hD hF) r2
  exact gp.now (G := GS X.K X.mg W D) (X := fun _ _ _ => False) (c := Fl.nx (ρ.set i (some (Wv.d (.list z))))) q3 r2 _ ((re.ext (x1.frozen hD hF)).set i (Dq.lst (.of upd_same) (dq.mono (same_frozen hF))))
end
end
end TL
/-! TL11: lists put together; {}. -/
namespace TL
open PySem PySem.Spec L2 PyProof.Rows RZ
def gPlus (a b : Wv) (μ : Mu) : Out Wv :=
  match dataOf μ a, dataOf μ b with
  | some (.list xs), some (.list ys) => if xs.length + ys.length ≤ 16777216 then .ok (.d (.list (xs ++ ys))) μ else .bad
  | _, _ => gAdd a b μ
/-- told so that no computing of it starts by itself -/
noncomputable def repOk (n : Nat) (k : Int) : Bool := @decide (k < 16777216 ∧ -16777216 ≤ k ∧ n * k.toNat ≤ 16777216) (Classical.propDecidable _)
theorem repOk_ok {n : Nat} {k : Int} (h : repOk n k = true) : k < 16777216 ∧ -16777216 ≤ k ∧ n * k.toNat ≤ 16777216 := @of_decide_eq_true _ (Classical.propDecidable _) h
theorem repOk_is {n : Nat} {k : Int} (h : k < 16777216 ∧ -16777216 ≤ k ∧ n * k.toNat ≤ 16777216) : repOk n k = true := @decide_eq_true _ (Classical.propDecidable _) h
noncomputable def gTimes (a b : Wv) (μ : Mu) : Out Wv :=
  match dataOf μ a, b with
  | some (.list xs), .d (.int k) => if repOk xs.length k = true then .ok (.d (.list (List.replicate k.toNat xs).flatten)) μ else .bad
  | _, _ => gMul a b μ
theorem DqAll.times {K : PySem.W.Frag} {F : Hp} {vs : List V} {c : Cell} (d : DqAll K F vs c) : ∀ k : Nat, DqAll K F (List.replicate k vs).flatten (List.replicate k c).flatten
  | 0 => .nil
  | k + 1 => by
    rw [List.replicate_succ, List.replicate_succ, List.flatten_cons, List.flatten_cons]
    exact d.append (DqAll.times d k)
section
variable {X : Cx} {W : WX}
def rCatR (K : PySem.W.Frag) : R2 := fun x y H Q => ∃ l b xs zs, x = .ref l ∧ y = .ref b ∧ Ls K H l xs ∧ Ls K H b zs ∧ xs.length + zs.length ≤ sizeLine ∧ ∀ p, H p = none → Q (.ref p) (upd H p (.lst (xs ++ zs)))
theorem op_catR : OpR X (binaryOp .Add) (rCatR X.K) := by
  intro pins s σ H x y v u Q I rx ry h
  obtain ⟨l, b, xs, zs, rfl, rfl, hH, hB, hz, q⟩ := h
  cases rx
  cases ry
  obtain ⟨z, its, n, r, e⟩ := hH.ob I
  obtain ⟨z2, its2, n2, r2, e2⟩ := hB.ob I
  have hl := r.length
  have hl2 := r2.length
  refine PySem.P.add_list e e2 ?_ (by rw [List.size_toArray, List.size_toArray]; omega)
  have ea : its.toArray ++ its2.toArray = (its ++ its2).toArray := by simp
  rw [ea]
  exact ⟨.ref _, _, I.lnew (t' := s.toks) (r.append r2) (by rw [List.length_append]; omega), rfl, q _ I.fresh⟩
def rRepR (K : PySem.W.Frag) : R2 := fun x y H Q => ∃ l k xs, x = .ref l ∧ y = .int k ∧ Ls K H l xs ∧ -(2 ^ 63) ≤ k ∧ k < 2 ^ 63 ∧ xs.length * k.toNat ≤ sizeLine ∧
  ∀ p, H p = none → Q (.ref p) (upd H p (.lst (List.replicate k.toNat xs).flatten))
theorem op_repR : OpR X (binaryOp .Mult) (rRepR X.K) := by
  intro pins s σ H x y v u Q I rx ry h
  obtain ⟨l, k, xs, rfl, rfl, hH, h1, h2, hz, q⟩ := h
  cases rx
  obtain ⟨t, rfl⟩ := ry
  obtain ⟨z, its, n, r, e⟩ := hH.ob I
  have hl := r.length
  have hlen : its.toArray.size * k.toNat ≤ sizeLine := by rw [List.size_toArray, ← hl]; exact hz
  have hcap : ¬ its.toArray.size * k.toNat > (2 ^ 63 - 1) / 8 := by
    have : (sizeLine : Nat) ≤ (2 ^ 63 - 1) / 8 := by decide
    omega
  have hfit : ¬ (!Builtin.List.listFitsIndex k) = true := by
    rw [fitsIndex_both h1 h2]
    exact Bool.false_ne_true
  have hlong : ¬ Builtin.List.listTooLong (its.toArray.size * k.toNat) = true := by
    rw [notLongL hlen]
    exact Bool.false_ne_true
  have hnew : List.foldl (fun x1 x2 => x1 ++ x2) #[] (List.replicate (if its.toArray.isEmpty = true then 0 else k.toNat) its.toArray) = (List.replicate k.toNat its).flatten.toArray := by
    have f0 : ∀ m : Nat, List.foldl (fun x1 x2 => x1 ++ x2) #[] (List.replicate m its.toArray) = (List.replicate m its).flatten.toArray := fun m => by
      have := foldl_rep its m []
      rw [List.nil_append] at this
      exact this
    rw [f0]
    cases its with
    | nil => simp
    | cons a r' => rw [if_neg (by simp)]
  refine wpAny_binaryOp_repeat_ref (T := "list") (U := "int") (by decide) ⟨_, e, rfl⟩ (fun s' => typeIs_int s' k t) noFill_list_mul F.fills_int_mul F.slot_int_rmul repeat_list F.slot_int_index.lookup
    (call_meets F.slot_int_rmul (typeIs_int s k t) F.entry_int_rmul (F.args_int_rmul_2 _ _) (int___rmul___int_list k t l its.toArray n)
      ⟨e, rfl, ⟨_, e, rfl⟩, call_meets F.slot_list_mul ⟨_, e, rfl⟩ F.entry_list_mul (F.args_list_mul_2 _ _) (AutoListH.list___mul___list_int_3 l its.toArray n k t hfit hcap hlong) ⟨e, ?_⟩⟩)
  rw [hnew]
  exact ⟨.ref _, _, I.lnew (t' := s.toks) (r.rep k.toNat) (by rw [PyProof.Rows.lm_len_rep_flat, Nat.mul_comm]; exact hz), rfl, q _ I.fresh⟩
theorem op_gPlus : OpR X (binaryOp .Add) (r2G X.K X.mg gPlus) := by
  intro pins s σ H x y v u Q I rx ry ⟨μ, α, F, w1, w2, r, h1, h2, q⟩
  unfold gPlus at q
  split at q
  · rename_i xs ys e1 e2
    split at q
    · rename_i hl
      obtain ⟨a, vs, rfl, hA, d1⟩ := items_of r e1 h1
      obtain ⟨b, us, rfl, hB, d2⟩ := items_of r e2 h2
      refine op_catR pins s σ H _ _ v u Q I rx ry ⟨a, b, vs, us, rfl, rfl, hA, hB, ?_, fun p hp => ?_⟩
      · rw [d1.length, d2.length]
        exact le_line hl
      · obtain ⟨r2, x2⟩ := r.new (o := .lst (vs ++ us)) hp
        exact q.at x2 r2 _ (.lst (.of upd_same) ((d1.mono x2.fro).append (d2.mono x2.fro)))
    · exact q.elim
  · exact op_gAdd pins s σ H x y v u Q I rx ry ⟨μ, α, F, w1, w2, r, h1, h2, q⟩
theorem op_gTimes : OpR X (binaryOp .Mult) (r2G X.K X.mg gTimes) := by
  intro pins s σ H x y v u Q I rx ry ⟨μ, α, F, w1, w2, r, h1, h2, q⟩
  unfold gTimes at q
  split at q
  · rename_i xs k e1
    split at q
    · rename_i hl
      have hl := repOk_ok hl
      obtain ⟨a, vs, rfl, hA, d1⟩ := items_of r e1 h1
      cases h2
      refine op_repR pins s σ H _ _ v u Q I rx ry ⟨a, k, vs, rfl, rfl, hA, by omega, by omega, ?_, fun p hp => ?_⟩
      · rw [d1.length]
        exact le_line hl.2.2
      · obtain ⟨r2, x2⟩ := r.new (o := .lst (List.replicate k.toNat vs).flatten) hp
        exact q.at x2 r2 _ (.lst (.of upd_same) (DqAll.times (d1.mono x2.fro) k.toNat))
    · exact q.elim
  · exact op_gMul pins s σ H x y v u Q I rx ry ⟨μ, α, F, w1, _, r, h1, h2, q⟩
/-- a list that nobody else has -/
def lCat (a b : Ev) : Lv := fun ρ μ => (a ρ μ).bind fun w μ1 => (b ρ μ1).bind fun u μ2 => match dataOf μ2 w, dataOf μ2 u with
  | some (.list xs), some (.list ys) => if xs.length + ys.length ≤ 16777216 then .ok (xs ++ ys) μ2 else .bad
  | _, _ => .bad
noncomputable def lRep (a b : Ev) : Lv := fun ρ μ => (a ρ μ).bind fun w μ1 => (b ρ μ1).bind fun u μ2 => match dataOf μ2 w, u with
  | some (.list xs), .d (.int k) => if repOk xs.length k = true then .ok (List.replicate k.toNat xs).flatten μ2 else .bad
  | _, _ => .bad
theorem side_at {K : PySem.W.Frag} {mg : Str → Option Value} {α0 α : List Addr} {F0 H0 F H : Hp} {μ : Mu} {c : Cell} {Q : VK} {E : XK} {vs : List V} {p : Addr} (q : gp K mg α F H (.ok c μ) (Gl' K H0 Q) E) (r : Rep K α F μ H) (x : Ext α0 F0 H0 α F H) (hp : H p = none) (d : DqAll K F vs c) : Q (.ref p) (upd H p (.lst vs)) := by
  obtain ⟨r2, x2⟩ := r.side (o := .lst vs) hp
  have hF : F p = none := r.sub.free hp
  have hH : H0 p = none := by
    by_cases z : H0 p = none
    · exact z
    · exact absurd hp (x.keep p z)
  exact q.at x2 r2 p vs hH upd_same hF (fun m => r.had p m hp) d
theorem sl_cat {a b : Expr} {pos : Pos} {fa fb : Ev} (ha : SE X W a fa) (hb : SE X W b fb) : SL X W (.BinOp a .Add b pos) (lCat fa fb) := by
  refine (pe_op op_catR ha hb).imp fun σ H Q ⟨ρ, μ, α, F, r, re, q⟩ => ?_
  refine ⟨ρ, μ, α, F, r, re, q.bind.mono fun w μ1 α1 F1 H1 x1 r1 q1 v rv => ?_⟩
  refine ⟨ρ, μ1, α1, F1, r1, re.ext x1, q1.bind.mono fun u μ2 α2 F2 H2 x2 r2 q2 v' rv' => ?_⟩
  split at q2
  · rename_i xs ys e1 e2
    split at q2
    · rename_i hl
      obtain ⟨a, vs, rfl, hA, d1⟩ := items_of r2 e1 (rv.ext x2)
      obtain ⟨b, us, rfl, hB, d2⟩ := items_of r2 e2 rv'
      refine ⟨a, b, vs, us, rfl, rfl, hA, hB, ?_, fun p hp => side_at q2 r2 (x1.trans x2) hp (d1.append d2)⟩
      rw [d1.length, d2.length]
      exact le_line hl
    · exact q2.elim
  · exact q2.elim
theorem sl_rep {a b : Expr} {pos : Pos} {fa fb : Ev} (ha : SE X W a fa) (hb : SE X W b fb) : SL X W (.BinOp a .Mult b pos) (lRep fa fb) := by
  refine (pe_op op_repR ha hb).imp fun σ H Q ⟨ρ, μ, α, F, r, re, q⟩ => ?_
  refine ⟨ρ, μ, α, F, r, re, q.bind.mono fun w μ1 α1 F1 H1 x1 r1 q1 v rv => ?_⟩
  refine ⟨ρ, μ1, α1, F1, r1, re.ext x1, q1.bind.mono fun u μ2 α2 F2 H2 x2 r2 q2 v' rv' => ?_⟩
  split at q2
  · rename_i xs k e1
    split at q2
    · rename_i hl
      have hl := repOk_ok hl
      obtain ⟨a, vs, rfl, hA, d1⟩ := items_of r2 e1 (rv.ext x2)
      cases rv'
      refine ⟨a, k, vs, rfl, rfl, hA, by omega, by omega, ?_, fun p hp => side_at q2 r2 (x1.trans x2) hp (DqAll.times d1 k.toNat)⟩
      rw [d1.length]
      exact le_line hl.2.2
    · exact q2.elim
  · exact q2.elim
/-- {} -/
def eDic : Ev := fun _ μ => .ok (.d (.dict [])) μ
theorem se_dic {pos : Pos} : SE X W (.Dict [] [] pos) eDic := by
  refine pe_dnewK.imp fun σ H Q ⟨ρ, μ, α, F, r, re, q⟩ => ?_
  intro p hp
  obtain ⟨r2, x2⟩ := r.new (o := .dK []) hp
  exact q.at x2 r2 _ (.dic upd_same)
end
end TL
/-! TL12: rules with their small conditions filled; what a def of the text is; the law's head. -/
namespace TL
open PySem PySem.Spec L2 PyProof.Rows RZ

abbrev GF := List Wv → Mu → Out Wv
/-- a def of the text at its place, and its promise -/
structure Has (P : Program) (w : World) (K : PySem.W.Frag) (mg : Str → Option Value) (base : Heap) (j : Nat) (x : Str) (st : Stmt) (ps : List Str) (n : Nat) (g : GF) (f : Addr) (fd : FuncData) : Prop where
  m : mg x = some (.ref f)
  F : Fun K x x st f fd
  b : Binds K fd ps []
  G : FnG P w K mg base j f fd ps (spG K mg n g)
theorem fng_bad {P : Program} {w : World} {K : PySem.W.Frag} {mg : Str → Option Value} {base : Heap} {j n : Nat} {f : Addr} {fd : FuncData} {ps : List Str} (hn : ps.length = n) : FnG P w K mg base j f fd ps (spG K mg n fun _ _ => .bad) := by
  refine ⟨fun vs H Q E h => by rw [h.len, hn], fun A outer s H args us vs Q E hr hg he hb hv h => ?_⟩
  obtain ⟨ws, μ, α, F, r, rv, q⟩ := h
  unfold arity at q
  split at q <;> exact q.elim
def cF (n : Nat) (g : GF) (as : Av) : Ev := fun ρ μ => (as ρ μ).bind fun ws μ1 => if ws.length = n then g ws μ1 else .bad
section
variable {X : Cx} {W : WX} {x : Str} {p pos : Pos} {e : Expr} {es : List Expr} {as : Av} {j k n : Nat} {st : Stmt} {ps : List Str} {g : GF} {f : Addr} {fd : FuncData}
theorem xV (i : Nat) (hN : X.N[i]? = some x := by rfl) (hv : Vis X.env.scope x := by first | exact Or.inl rfl | exact Or.inr (Or.inl rfl) | exact Or.inr (Or.inr rfl)) (hd : (x == ("__debug__" : Str)) = false := by decide) (hcd : (x == ("__classdict__" : Str)) = false := by decide) : SE X W (.Name x pos) (eVar i) := se_var hN hv hd hcd
theorem xCall (h : Has X.prog X.w X.K X.mg X.base j x st ps n g f fd) (hj : j ≤ k) (hr : Room k X.A) (hg : X.A.guards = some []) (tk : Takes X W) (gl : Gl X x) (ha : SA X W (e :: es) as)
    (hdb : (x == ("__debug__" : Str)) = false := by decide) (he : starEach (e :: es) X.env = (false, eval e X.env) :: starEach es X.env := by rfl) (hpl : (backTo pos (starEach es X.env)).any (·.1) = false := by rfl) :
    SE X W (.Call (.Name x p) (e :: es) [] pos) (cF n g as) := by
  have z := se_call (p := p) (pos := pos) (dv := []) (ds := []) (ws0 := []) (h.G.up hj) hr hg gl h.m h.F.kp h.b .nil (fun _ _ => .nil) tk ha hdb he hpl
  have e : eCall (fun ws μ => arity n g (ws ++ []) μ) as = cF n g as := by
    unfold eCall cF arity
    simp only [List.append_nil]
  rw [e] at z
  exact z
theorem xCall0 (h : Has X.prog X.w X.K X.mg X.base j x st ps n g f fd) (hj : j ≤ k) (hr : Room k X.A) (hg : X.A.guards = some []) (tk : Takes X W) (gl : Gl X x)
    (hdb : (x == ("__debug__" : Str)) = false := by decide) : SE X W (.Call (.Name x p) [] [] pos) (cF n g aNil) := by
  have z := se_call0 (p := p) (pos := pos) (dv := []) (ds := []) (ws0 := []) (h.G.up hj) hr hg gl h.m h.F.kp h.b .nil (fun _ _ => .nil) tk hdb
  have e : eCall (fun ws μ => arity n g (ws ++ []) μ) aNil = cF n g aNil := by
    unfold eCall cF arity
    simp only [List.append_nil]
  rw [e] at z
  exact z
/-- by keywords, in the order pm -/
def cFK (pm : List Nat) (n : Nat) (g : GF) (as : Av) : Ev := fun ρ μ => (as ρ μ).bind fun ws μ1 => if (permL pm ws).length = n then g (permL pm ws) μ1 else .bad
theorem xCallK {kws : List Keyword} {ks : List Str} {pm : List Nat} (h : Has X.prog X.w X.K X.mg X.base j x st ps n g f fd) (kb : KwBinds X.K fd ps ks pm []) (hj : j ≤ k) (hr : Room k X.A) (hg : X.A.guards = some []) (tk : Takes X W) (gl : Gl X x) (ha : SK X W kws as)
    (hall : (backToKw pos (keywordEach kws X.env)).all (·.1.isSome) = true := by rfl) (hks : (backToKw pos (keywordEach kws X.env)).filterMap (·.1) = ks := by rfl) (hdb : (x == ("__debug__" : Str)) = false := by decide)
    (hpl : ((backTo pos (starEach [] X.env)).any (·.1) || (backToKw pos (keywordEach kws X.env)).any (·.1.isNone)) = false := by rfl) : SE X W (.Call (.Name x p) [] kws pos) (cFK pm n g as) := by
  have z := se_callK (p := p) (pos := pos) (dv := []) (ds := []) (ws0 := []) (h.G.up hj) hr hg gl h.m h.F.kp kb .nil (fun _ _ => .nil) tk ha hall hks hdb hpl
  have e : eCall (fun ws μ => arity n g (permL pm (ws ++ [])) μ) as = cFK pm n g as := by
    unfold eCall cFK arity
    simp only [List.append_nil]
  rw [e] at z
  exact z
theorem xBi {id : String} {g : GF} (hc : CallR X (.builtin id) (rnG X.K X.mg g)) (hv : bootBuiltins x = some (.builtin id)) (hm : X.mg x = none) (hg : Gl X x) (ha : SA X W (e :: es) as) (hn : x ≠ "__name__" := by decide) (hdb : (x == ("__debug__" : Str)) = false := by decide)
    (he : starEach (e :: es) X.env = (false, eval e X.env) :: starEach es X.env := by rfl) (hpl : (backTo pos (starEach es X.env)).any (·.1) = false := by rfl) : SE X W (.Call (.Name x p) (e :: es) [] pos) (en g as) := se_bi hc hg hm hv ha hn hdb he hpl
theorem xTy {T : String} {g : GF} (hc : CallR X (.type T) (rnG X.K X.mg g)) (hv : bootBuiltins x = some (.type T)) (hm : X.mg x = none) (hg : Gl X x) (ha : SA X W (e :: es) as) (hn : x ≠ "__name__" := by decide) (hdb : (x == ("__debug__" : Str)) = false := by decide)
    (he : starEach (e :: es) X.env = (false, eval e X.env) :: starEach es X.env := by rfl) (hpl : (backTo pos (starEach es X.env)).any (·.1) = false := by rfl) : SE X W (.Call (.Name x p) (e :: es) [] pos) (en g as) := se_ty hc hg hm hv ha hn hdb he hpl
theorem xList (hm : X.mg "list" = none) (hg : Gl X "list") (ha : SA X W (e :: es) as)
    (he : starEach (e :: es) X.env = (false, eval e X.env) :: starEach es X.env := by rfl) (hpl : (backTo pos (starEach es X.env)).any (·.1) = false := by rfl) : SL X W (.Call (.Name "list" p) (e :: es) [] pos) (lList as) := TL.sl_list hg hm (by decide +kernel) ha (by decide) (by decide) he hpl
theorem bt_len : bootBuiltins "len" = some (.builtin "len") := by decide +kernel
theorem bt_abs : bootBuiltins "abs" = some (.builtin "abs") := by decide +kernel
theorem bt_max : bootBuiltins "max" = some (.builtin "max") := by decide +kernel
theorem bt_min : bootBuiltins "min" = some (.builtin "min") := by decide +kernel
theorem bt_sum : bootBuiltins "sum" = some (.builtin "sum") := by decide +kernel
theorem bt_all : bootBuiltins "all" = some (.builtin "all") := by decide +kernel
theorem bt_any : bootBuiltins "any" = some (.builtin "any") := by decide +kernel
theorem bt_repr : bootBuiltins "repr" = some (.builtin "repr") := by decide +kernel
theorem bt_divmod : bootBuiltins "divmod" = some (.builtin "divmod") := by decide +kernel
theorem bt_int : bootBuiltins "int" = some (.type "int") := by decide +kernel
theorem bt_str : bootBuiltins "str" = some (.type "str") := by decide +kernel
theorem bt_bool : bootBuiltins "bool" = some (.type "bool") := by decide +kernel
theorem bt_tuple : bootBuiltins "tuple" = some (.type "tuple") := by decide +kernel
theorem bt_list : bootBuiltins "list" = some (.type "list") := by decide +kernel
theorem xIsi {T : String} {f : Ev} {p2 : Pos} {y : Str} (hvT : bootBuiltins y = some (.type T)) (hm : X.mg "isinstance" = none) (hmT : X.mg y = none) (hg : Gl X "isinstance") (hgT : Gl X y) (he : SE X W e f) (hn : y ≠ "__name__" := by decide) (hdb : (y == ("__debug__" : Str)) = false := by decide)
    (h1 : starEach (e :: [.Name y p2]) X.env = (false, eval e X.env) :: starEach [.Name y p2] X.env := by rfl) : SE X W (.Call (.Name "isinstance" p) [e, .Name y p2] [] pos) (e1 (gIsi T) f) := se_isi hg hm hgT hmT hvT hn hdb he h1
theorem xA {a : Ev} (ha : SE X W e a) (hr : SA X W es as) (hs : starEach (e :: es) X.env = (false, eval e X.env) :: starEach es X.env := by rfl) : SA X W (e :: es) (aCons a as) := sa_cons ha hr hs
theorem xCmp {a b : Expr} {op : CmpOp} {g : Wv → Wv → Mu → Out Wv} {fa fb : Ev} (ho : OpR X (compareOp op) (r2G X.K X.mg g)) (ha : SE X W a fa) (hb : SE X W b fb) (hm : behindInMarks op b = false := by first | rfl | exact nomark _) : SE X W (.Compare a [op] [b] pos) (e2 g fa fb) := se_cmp ho ha hb hm
theorem xtCmp {a b : Expr} {op : CmpOp} {g : Wv → Wv → Mu → Out Wv} {fa fb : Ev} (ho : OpR X (compareOp op) (r2G X.K X.mg g)) (ha : SE X W a fa) (hb : SE X W b fb) (hm : behindInMarks op b = false := by first | rfl | exact nomark _) : ST X W (.Compare a [op] [b] pos) (tB' (e2 g fa fb)) := st_cmp ho ha hb hm
theorem xtVal {f : Ev} (h : SE X W e f) (he : ∀ whole, isTrue e X.env whole = (do let v ← whole; standAt e.pos; holding [v] (truthy v)) := by intro _; rfl) : ST X W e (tB' f) := st_val h he
theorem xIx {a b : Expr} {fa fb : Ev} (ha : SE X W a fa) (hb : SE X W b fb) (hs : PlainIx b := by intro _ _; rfl) : SE X W (.Subscript a b pos) (e2 gIx fa fb) := se_ix ha hb hs
theorem xSet (i : Nat) {f : Ev} {pos' : Pos} (hN : X.N.Nodup) (he : SE X W e f) (hi : X.N[i]? = some x := by rfl) (hx : Loc X.env.scope x := by first | exact Or.inl rfl | exact Or.inr rfl) (hs : swapsWith e (some (.Name x pos')) pos.line X.env = pure false := by rfl)
    (hf : X.fn x = true ∨ X.env.scope.names.lookup x = some .local := by first | exact Or.inl rfl | exact Or.inr rfl) : SS X W (.Assign [.Name x pos'] e pos) (sAsg f (gNm i)) := ss_set hN hi hx he hs hf
theorem xNm (i : Nat) (hN : X.N.Nodup) (hi : X.N[i]? = some x := by rfl) (hx : Loc X.env.scope x := by first | exact Or.inl rfl | exact Or.inr rfl) (hf : X.fn x = true ∨ X.env.scope.names.lookup x = some .local := by first | exact Or.inl rfl | exact Or.inr rfl) : SG X (.Name x pos) (gNm i) := sg_name hN hi hx hf
theorem xwNm (i : Nat) {os : List Nat} (hN : X.N.Nodup) (hi : X.N[i]? = some x := by rfl) (hx : Loc X.env.scope x := by first | exact Or.inl rfl | exact Or.inr rfl) (hf : X.fn x = true ∨ X.env.scope.names.lookup x = some .local := by first | exact Or.inl rfl | exact Or.inr rfl) (ho : i ∈ os := by decide) : SGw X os (.Name x pos) (gNm i) := sgw_name hN hi hx hf ho
theorem xG {t : Gv} {ts : List Gv} (h1 : SG X e t) (h2 : SGs X es ts) (hs : (assignEach (e :: es) X.env).map (·.2) = assign e X.env :: (assignEach es X.env).map (·.2) := by rfl) : SGs X (e :: es) (t :: ts) := sgs_cons h1 h2 hs
theorem xGT {kk : Nat} {ts : List Gv} (hc : X.calm = true) (h : SGs X es ts) (hn : (assignEach es X.env).length = ts.length := by rfl) (hst : (assignEach es X.env).findIdx? (·.1) = none := by rfl) : SG X (.Tuple es kk pos) (gTp ts) := sg_tup hc h hn hst
theorem xwG {os : List Nat} {t : Gv} {ts : List Gv} (h1 : SGw X os e t) (h2 : SGsw X os es ts) (hs : (assignEach (e :: es) X.env).map (·.2) = assign e X.env :: (assignEach es X.env).map (·.2) := by rfl) : SGsw X os (e :: es) (t :: ts) := sgsw_cons h1 h2 hs
theorem xwGT {os : List Nat} {kk : Nat} {ts : List Gv} (hc : X.calm = true) (h : SGsw X os es ts) (hn : (assignEach es X.env).length = ts.length := by rfl) (hst : (assignEach es X.env).findIdx? (·.1) = none := by rfl) : SGw X os (.Tuple es kk pos) (gTp ts) := sgw_tup hc h hn hst
theorem xGS {o i : Expr} {fo fi : Ev} (ho : SE X (fun _ _ _ _ => False) o fo) (hi : SE X (fun _ _ _ _ => False) i fi) (ha : ∀ v, assign (.Subscript o i pos) X.env v = (do
      let ov ← holding [v] (eval o X.env)
      let iv ← holding [v, ov] (eval i X.env)
      standAt pos
      holding [v, ov, iv] (setItem ov iv v)
      release [v, ov, iv] []) := by intro _; rfl) : SG X (.Subscript o i pos) (gSb fo fi) := sg_sub ho hi ha
theorem xAsg {tg : Expr} {f : Ev} {t : Gv} (he : SE X W e f) (hg : SG X tg t) (hs : swapsWithSole [tg] e pos.line X.env = pure false := by rfl) (hw : swappedStores [tg] e X.env = pure none := by rfl) (h1 : (assignEach [tg] X.env).map (·.2) = [assign tg X.env] := by rfl) :
    SS X W (.Assign [tg] e pos) (sAsg f t) := ss_asg he hg hs hw h1
theorem xExpr {f : Ev} (he : SE X W e f) (hs : swapsWith e none pos.line X.env = pure false := by rfl) : SS X W (.Expr e pos) (sExpr f) := ss_expr he hs
theorem xFor {tg : Expr} {body : List Stmt} {fi : Iv} {t : Gv} {b : Sv} (hp : PassesOwn (model X.prog X.w) X.A X.env X.xe) (hc : X.calm = true) (hi : SI X W tg e fi) (hg : SG X tg t) (hb : SSs X W body b) (hs : ∀ x, foldedSetIterable e X.env x = pure x := by intro _; rfl) : SS X W (.For tg e body [] pos) (sFor fi t b) := ss_for hp hc hi hg hb hs
theorem xR1 {tg a : Expr} (hm : X.mg "range" = none) (hg : Gl X "range") (ha : SA X W [a] as) (hs : starEach [a] X.env = [(false, eval a X.env)] := by rfl) : SI X W tg (.Call (.Name "range" p) [a] [] pos) (iR1 as) := si_r1 hg hm ha hs
theorem xR2 {tg a b : Expr} (hm : X.mg "range" = none) (hg : Gl X "range") (ha : SA X W [a, b] as) (hs : starEach [a, b] X.env = [(false, eval a X.env), (false, eval b X.env)] := by rfl) (hs2 : starEach [b] X.env = [(false, eval b X.env)] := by rfl) : SI X W tg (.Call (.Name "range" p) [a, b] [] pos) (iR2 as) := si_r2 hg hm ha hs hs2
theorem xR3 {tg a b c : Expr} (hm : X.mg "range" = none) (hg : Gl X "range") (ha : SA X W [a, b, c] as) (hs : starEach [a, b, c] X.env = (false, eval a X.env) :: starEach [b, c] X.env := by rfl) (hpl : (backTo pos (starEach [b, c] X.env)).any (·.1) = false := by rfl) :
    SI X W tg (.Call (.Name "range" p) [a, b, c] [] pos) (iR3 as) := si_r3 hg hm ha hs hpl
theorem xEnum {elts : List Expr} {kk : Nat} {tpos : Pos} (hm : X.mg "enumerate" = none) (hg : Gl X "enumerate") (ha : SA X W [e] as) (hs : starEach [e] X.env = [(false, eval e X.env)] := by rfl) : SI X W (.Tuple elts kk tpos) (.Call (.Name "enumerate" p) [e] [] pos) (iEnumS as) := si_enum hg hm ha hs
theorem xZip {e2 : Expr} {elts : List Expr} {kk : Nat} {tpos : Pos} (hm : X.mg "zip" = none) (hg : Gl X "zip") (ha : SA X W [e, e2] as) (hs : starEach [e, e2] X.env = (false, eval e X.env) :: starEach [e2] X.env := by rfl) (hpl : (backTo pos (starEach [e2] X.env)).any (·.1) = false := by rfl) :
    SI X W (.Tuple elts kk tpos) (.Call (.Name "zip" p) [e, e2] [] pos) (iZipS as) := si_zip hg hm ha hs hpl
theorem xLc {elt tg iter : Expr} {ifs : List Expr} {scope : Scope} {fi : Iv} {t : Gv} {c : Bv} {v : Ev} (own : List (Str × Nat)) (hc : X.calm = true) (hN : X.N.Nodup) (hi : SI X W tg iter fi)
    (hg : ∀ s H C cl fp, SGw (Bk X scope s H C cl fp) (own.map (·.2)) tg t) (ht : ∀ s H C cl fp, STs (Bk X scope s H C cl fp) W0 ifs c) (he : ∀ s H C cl fp, SE (Bk X scope s H C cl fp) W0 elt v)
    (ok : BlkOk X.N X.env.scope scope own := by exact blkOk_by (by decide +kernel)) (hs : ∀ x, foldedSetIterable iter X.env x = pure x := by intro _; rfl) : SL X W (.ListComp elt [⟨tg, iter, ifs, 0⟩] scope pos) (lLc fi t c v (own.map (·.2))) := sl_lc hc hN hi ok hg ht he hs
theorem xSetLcN (i : Nat) {y : Str} {py spos : Pos} {elt tg iter : Expr} {ifs : List Expr} {scope : Scope} {fi : Iv} {t : Gv} {c : Bv} {v : Ev} (own : List (Str × Nat)) (hc : X.calm = true) (hN : X.N.Nodup) (hi : SI X W tg iter fi)
    (hg : ∀ s H C cl fp, SGw (Bk X scope s H C cl fp) (own.map (·.2)) tg t) (ht : ∀ s H C cl fp, STs (Bk X scope s H C cl fp) W0 ifs c) (he : ∀ s H C cl fp, SE (Bk X scope s H C cl fp) W0 elt v)
    (hy : X.N[i]? = some y := by rfl) (hyl : X.env.scope.names.lookup y = some .local := by rfl) (hsw : swapsWith (.ListComp elt [⟨tg, iter, ifs, 0⟩] scope pos) (some (.Name y py)) spos.line X.env = pure true := by rfl)
    (ok : BlkOk X.N X.env.scope scope own := by exact blkOk_by (by decide +kernel)) (hs : ∀ x, foldedSetIterable iter X.env x = pure x := by intro _; rfl) : SS X W (.Assign [.Name y py] (.ListComp elt [⟨tg, iter, ifs, 0⟩] scope pos) spos) (sAsg (eNew (lLc fi t c v (own.map (·.2)))) (gNm i)) := ss_setLcN hc hN hy hyl hsw hi ok hg ht he hs
theorem xSetLcF (i : Nat) {y : Str} {py spos : Pos} {elt tg iter : Expr} {ifs : List Expr} {scope : Scope} {fi : Iv} {t : Gv} {c : Bv} {v : Ev} (own : List (Str × Nat)) (hc : X.calm = true) (hN : X.N.Nodup) (hi : SI X W tg iter fi)
    (hg : ∀ s H C cl fp, SGw (Bk X scope s H C cl fp) (own.map (·.2)) tg t) (ht : ∀ s H C cl fp, STs (Bk X scope s H C cl fp) W0 ifs c) (he : ∀ s H C cl fp, SE (Bk X scope s H C cl fp) W0 elt v)
    (hy : X.N[i]? = some y := by rfl) (hyl : X.env.scope.names.lookup y = some .local := by rfl) (hsw : swapsWith (.ListComp elt [⟨tg, iter, ifs, 0⟩] scope pos) (some (.Name y py)) spos.line X.env = pure true := by rfl)
    (ok : BlkOk X.N X.env.scope scope own := by exact blkOk_by (by decide +kernel)) (hs : ∀ x, foldedSetIterable iter X.env x = pure x := by intro _; rfl) : SS X W (.Assign [.Name y py] (.ListComp elt [⟨tg, iter, ifs, 0⟩] scope pos) spos) (sAsg (eFrz (lLc fi t c v (own.map (·.2)))) (gNm i)) := ss_setLcF hc hN hy hyl hsw hi ok hg ht he hs
theorem xApp {o : Expr} {apos cpos : Pos} {fo : Ev} (ho : SE X W o fo) (ha : SA X W (e :: es) as) (hb : attributeBase o "append" X.env (eval o X.env) = eval o X.env := by rfl)
    (hfew : ((backTo cpos (starEach (e :: es) X.env)).all (fun x => !x.1) && (backToKw cpos (keywordEach [] X.env)).all (fun x => x.1.isSome) && decide ((e :: es).length + ([] : List Keyword).length + (if ([] : List Keyword).isEmpty then 0 else 1) < 30)) = true := by rfl)
    (hl : (apos.endLine == cpos.line) = true := by rfl) (hs : starEach (e :: es) X.env = (false, eval e X.env) :: starEach es X.env := by rfl) (hp : (backTo cpos (starEach es X.env)).any (·.1) = false := by rfl) :
    SE X W (.Call (.Attribute o "append" apos) (e :: es) [] cpos) (eMeth1 gApp fo as) := se_app ho ha hb hfew hl hs hp
theorem xPop {o : Expr} {apos cpos : Pos} {fo : Ev} (ho : SE X W o fo) (hb : attributeBase o "pop" X.env (eval o X.env) = eval o X.env := by rfl) (hl : (apos.endLine == cpos.line) = true := by rfl) : SE X W (.Call (.Attribute o "pop" apos) [] [] cpos) (e1 gPop fo) := se_pop ho hb hl
end

/-! ### the law's head -/
theorem DqAll.ofInts {K : PySem.W.Frag} {H : Hp} : ∀ ns : List Int, DqAll K H (ns.map V.int) (ns.map PyData.int)
  | [] => .nil
  | n :: r => .cons (.int n) (DqAll.ofInts r)
section
variable {P : Program} {w : World} {K : PySem.W.Frag} {mg mb : Str → Option Value} {k : Nat} {fa a : Addr} {fd : FuncData} {x : Str} {g : GF} {s₁ : Shared} {vs : List Value} {ns : List Int}
theorem head_call (inK : K.In s₁.heap) (gl : s₁.heap.Ns mainGlobals mg) (bl : s₁.heap.Ns builtinsNs mb) (bb : ∀ y : Str, y ≠ "__name__" → mb y = bootBuiltins y) (nl : s₁.heap.NoLimit) (ng : s₁.gens = #[])
    (ob : s₁.heap.get? a = some { cls := .type "list", data := .seq vs.toArray }) (isI : IntsAre vs ns) (len : ns.length ≤ sizeLine) (room : Room k callerA)
    (F : ∀ base : Heap, K.In base → base.Ns mainGlobals mg → FnG P w K mg base k fa fd [x] (spG K mg 1 g)) (bind : ∀ (s : Shared) (u : Value), BindsTo s fd ⟨[u], []⟩ [(x, u)])
    (sem : arity 1 g [.d (.list (ns.map PyData.int))] [] = .ok (.d (.bool true)) []) :
    codeAny (model P w) callerA (.call (.ref fa) ⟨[.ref a], []⟩) (fun r s' => r = .ok (.ret (.bool true)) ∧ OldK s₁.heap s'.heap ∧ s'.os = s₁.os ∧ AllBare s'.gens) s₁ := by
  have rel := vals_ints isI
  have cnt := isI.length
  have go : ∀ H : Hp, (∀ b, H b ≠ none → b = a) → (H a ≠ none → K.lookup a = none) → HOk P w H s₁.heap → Only H → Ls K H a (ns.map V.int) →
      codeAny (model P w) callerA (.call (.ref fa) ⟨[.ref a], []⟩) (fun r s' => r = .ok (.ret (.bool true)) ∧ OldK s₁.heap s'.heap ∧ s'.os = s₁.os ∧ AllBare s'.gens) s₁ := by
    intro H alone apart hk only lies
    have far : ∀ {b : Addr} {o : Obj}, s₁.heap.get? b = some o → b ≠ a → (hidT s₁.heap H).get? b = some o := fun {b o} got ne => hidT_get got (Classical.byContradiction fun z => ne (alone b z))
    have space : ∀ {b : Addr} {m : Str → Option Value}, s₁.heap.Ns b m → (hidT s₁.heap H).Ns b m := by
      rintro b m ⟨o, es, ep, got, dat, rest⟩
      refine ⟨o, es, ep, far got fun eq => ?_, dat, rest⟩
      rw [eq, ob] at got
      cases got
      exact nomatch dat
    have known : K.In (hidT s₁.heap H) := by
      intro b o kb
      by_cases eq : b = a
      · subst eq
        refine hidT_get (inK _ o kb) (Classical.byContradiction fun z => ?_)
        rw [apart z] at kb
        exact nomatch kb
      · exact far (inK b o kb) eq
    have lim : (hidT s₁.heap H).NoLimit := by
      obtain ⟨mc, l1, l2⟩ := nl
      exact ⟨mc, space l1, l2⟩
    have md : Mod K mg (hidT s₁.heap H) := ⟨known, space gl, ⟨mb, space bl, bb⟩, lim⟩
    have en0 : Env0 P w K mg (hidT s₁.heap H) callerA [] s₁ H :=
      ⟨rfl, md, fun b o z => of_hidT z, Nat.le_of_eq (hidT_size _ _), trivial, fun b z => (nomatch (show b ∈ ([] : List Addr) from z)), hk, .of_eq ng⟩
    have data : Dq K H (.ref a) (.list (ns.map PyData.int)) := .lst lies (DqAll.ofInts ns)
    have want : spG K mg 1 g [.ref a] H (fun v _ => v = .bl true) (fun _ _ _ => False) := by
      refine ⟨[.d (.list (ns.map PyData.int))], [], [], H, ⟨rfl, Same.refl _, fun i c z => ?_, fun i j b c c' z => ?_, fun b z => (nomatch z)⟩, .cons data .nil, ?_⟩
      · simp at z
      · simp at z
      · rw [sem]
        intro α' F' H' _ _ v rv
        have rv : Dq K F' v (.bool true) := rv
        cases rv
        rfl
    refine codeAny_mono ((F _ known (space gl)).run callerA [] s₁ H ⟨[.ref a], []⟩ [.ref a] [.ref a] _ _ room rfl en0 (bind s₁ (.ref a)) (.cons rfl .nil) want) fun r s' got => ?_
    rcases r with er | fl
    · obtain ⟨_, _, _, _, _, _, _, _, _, _, _, _, z⟩ := got
      exact z.elim
    · cases fl with
      | ret u =>
        obtain ⟨v, H', os, bare, un, hk', ru, rfl⟩ := got
        cases (show u = Value.bool true from ru)
        refine ⟨rfl, OldK.of_keep fun b o z => ?_, os, bare⟩
        rcases only b with n | ⟨o', xs, fz⟩
        · exact un.keep b o z n (fun y => nomatch (show b ∈ ([] : List Addr) from y)) (by simp)
        · have fz' := un.frzs b o' _ fz
          have g1 := (hk b _ fz).1
          have g2 := (hk' b _ fz').1
          rw [g1] at z
          cases z
          exact g2
      | _ => exact False.elim got
  cases lk : K.lookup a with
  | some o =>
    have got := inK a o lk
    rw [ob] at got
    cases got
    exact go (fun _ => none) (fun b z => absurd rfl z) (fun z => absurd rfl z) (fun b u z => nomatch (show (none : Option HO) = some u from z)) (fun _ => .inl rfl)
      (.inr ⟨vs, _, lk, by rw [List.length_map]; exact len, rel⟩)
  | none =>
    have at_ : ∀ b u, (if b = a then some (HO.frz { cls := .type "list", data := .seq vs.toArray } (.lst (ns.map V.int))) else none) = some u → b = a ∧ u = HO.frz { cls := .type "list", data := .seq vs.toArray } (.lst (ns.map V.int)) := fun b u z => by
      split at z
      · exact ⟨by assumption, (Option.some.inj z).symm⟩
      · exact nomatch z
    refine go (fun b => if b = a then some (.frz { cls := .type "list", data := .seq vs.toArray } (.lst (ns.map V.int))) else none) (fun b z => ?_) (fun _ => lk) (fun b u z => ?_) (fun b => ?_) (.inl (.inr ⟨_, if_pos rfl⟩))
    · by_cases eq : b = a
      · exact eq
      · exact absurd (if_neg eq) z
    · obtain ⟨rfl, rfl⟩ := at_ b u z
      exact ⟨ob, by rw [List.length_map]; exact len, vs, _, rel, ob⟩
    · by_cases eq : b = a
      · exact .inr ⟨_, _, if_pos eq⟩
      · exact .inl (if_neg eq)
/-- what is left of a law behind k_head: each def's promise, and that the law's own function tells True -/
theorem walk_G {l : PySem.W.OpenLaw} {n k : Nat} {q : Program} {loose : List Str} {XP : (Str → Option Value) → Heap → Prop} {YP : World → Heap → Prop} {d : DefRec} {K : Params → PySem.W.Frag} {x : Str} {g : GF}
    (hn : l.most = some n) (hn2 : n ≤ sizeLine) (hdf : d.params.defaults = []) (room : Room k callerA) (hY : ∀ (w : World) (h : Heap), YP w h → (K w.params).In h)
    (F : ∀ (w : World) (mg : Str → Option Value) (fa : Addr) (h : Heap), (K w.params).In h → h.Ns mainGlobals mg → mg d.name = some (.ref fa) →
      ∃ fd : FuncData, (∀ (s : Shared) (u : Value), BindsTo s fd ⟨[u], []⟩ [(x, u)]) ∧ ∀ base : Heap, (K w.params).In base → base.Ns mainGlobals mg → FnG l.prog w (K w.params) mg base k fa fd [x] (spG (K w.params) mg 1 g))
    (sem : ∀ ns : List Int, ns.length ≤ n → (∀ z ∈ ns, Builtin.Int.intBits z ≤ 1048576) → arity 1 g [.d (.list (ns.map PyData.int))] [] = .ok (.d (.bool true)) []) :
    PySem.W.WalkO q loose XP YP l.row.toRowW d [] (fun f vs => PySem.call f vs) := by
  refine Att.attach_callB hn hdf fun w s₀ s₁ mg mb fa o pm cd doc a vs ns G Y _ _ _ named obj isI many bits gens => ?_
  have inK := hY w _ Y
  obtain ⟨fd, bind, prom⟩ := F w mg fa _ inK G.T.g named
  exact head_call inK G.T.g G.T.b G.T.builtins G.T.nolimit gens obj isI (Nat.le_trans many hn2) room prom bind (sem ns many bits)
end
end TL
/-! TL13: tuple * int, gcd, pairs, constants of the module, defaults. -/
namespace TL
open PySem PySem.Spec L2 PyProof.Rows RZ
/-- one time, or nothing to repeat: the object itself -/
theorem tuple_mul_same (l : Addr) (items : Array Value) (n : Nat) (dd : Option Addr) (sl : Array (Option Value)) (x : Int) (u : Tok) (c0 : (decide (x < -(2 ^ 63)) || decide (x ≥ 2 ^ 63)) = false) (c1 : (items.isEmpty || x == 1) = true) :
    Meets (Builtin.«tuple.__mul__» ⟨[.ref l, .int x u], []⟩) (fun _ R s => s.heap.get? l = some { cls := .type "tuple", dict := dd, data := .seq items n, slots := sl } ∧ R (.ok (.ret (Value.ref l))) s) :=
  .of_wp fun prog w A R s h => by
    obtain ⟨hp, g, d, tk, os⟩ := s
    obtain ⟨hl, h⟩ := h
    have f1 := AutoSeq1.idx_int
    wp_walk using wpAny_loadPart' hl
    repeat (first
      | (refine wpAny_ite_false (decide_eq_false (by rw [c0]; exact Bool.false_ne_true)) ?_; wp_walk using wpAny_loadPart' hl)
      | (refine wpAny_ite_true (decide_eq_true c1) ?_; wp_walk using wpAny_loadPart' hl))
    exact ⟨_, rfl, h⟩
theorem tuple_mul_none (l : Addr) (items : Array Value) (n : Nat) (dd : Option Addr) (sl : Array (Option Value)) (x : Int) (u : Tok) (c0 : (decide (x < -(2 ^ 63)) || decide (x ≥ 2 ^ 63)) = false) (c1 : (items.isEmpty || x == 1) = false) (c2 : (decide (x ≤ 0) || items.isEmpty) = true) :
    Meets (Builtin.«tuple.__mul__» ⟨[.ref l, .int x u], []⟩) (fun _ R s => s.heap.get? l = some { cls := .type "tuple", dict := dd, data := .seq items n, slots := sl } ∧
      R (.ok (.ret (Value.ref s.heap.objs.size))) { s with heap := s.heap.push { cls := Value.type "tuple", data := Data.seq #[] }, toks := s.toks }) :=
  .of_wp fun prog w A R s h => by
    obtain ⟨hp, g, d, tk, os⟩ := s
    obtain ⟨hl, h⟩ := h
    have f1 := AutoSeq1.idx_int
    wp_walk using wpAny_loadPart' hl
    repeat (first
      | (refine wpAny_ite_false (decide_eq_false (by rw [c0]; exact Bool.false_ne_true)) ?_; wp_walk using wpAny_loadPart' hl)
      | (refine wpAny_ite_false (decide_eq_false (by rw [c1]; exact Bool.false_ne_true)) ?_; wp_walk using wpAny_loadPart' hl)
      | (refine wpAny_ite_true (decide_eq_true c2) ?_; wp_walk using wpAny_loadPart' hl))
    exact ⟨_, rfl, h⟩
noncomputable def gTimesT (a b : Wv) (μ : Mu) : Out Wv :=
  match a, b with
  | .d (.tuple xs), .d (.int k) => if -1000 ≤ k ∧ k ≤ 1000 ∧ xs.length ≤ 1000 then .ok (.d (.tuple (List.replicate k.toNat xs).flatten)) μ else .bad
  | _, _ => gTimes a b μ
section
variable {X : Cx} {W : WX}
theorem op_gTimesT : OpR X (binaryOp .Mult) (r2G X.K X.mg gTimesT) := by
  intro pins s σ H x y v u Q I rx ry ⟨μ, α, Fz, w1, w2, r, h1, h2, q⟩
  unfold gTimesT at q
  split at q
  · rename_i xs k
    split at q
    · rename_i hk
      cases h1 with
      | @tup a vs _ t1 d1 =>
        cases h2
        have tH := sameT r.sub t1
        by_cases hbig : xs ≠ [] ∧ 2 ≤ k
        · refine op_repT pins s σ H _ _ v u Q I rx ry ⟨a, k, vs, rfl, rfl, tH, fun e => hbig.1 ?_, hbig.2, hk.2.1, by rw [d1.length]; exact hk.2.2, fun p hp => ?_⟩
          · have := d1.length
            rw [e] at this
            exact List.eq_nil_of_length_eq_zero this.symm
          · obtain ⟨r2, x2⟩ := r.new (o := .tup (List.replicate k.toNat vs).flatten) hp
            exact q.at x2 r2 _ (.tup (.inl (.inl upd_same)) (DqAll.times (d1.mono x2.fro) k.toNat))
        · cases rx
          obtain ⟨t, rfl⟩ := ry
          obtain ⟨its, ri, ⟨⟨cls, dd, data, sl⟩, ho, hc, n, hd⟩, hs⟩ := I.tuple tH
          simp only at hc hd
          subst hc hd
          have hle : its.length = xs.length := by rw [← ri.length, d1.length]
          have c0 : (decide (k < -(2 ^ 63)) || decide (k ≥ 2 ^ 63)) = false := by
            rw [decide_eq_false (by omega), decide_eq_false (by omega)] <;> rfl
          by_cases h1 : (its.toArray.isEmpty || k == 1) = true
          · have hval : (List.replicate k.toNat xs).flatten = xs := by
              rcases Bool.or_eq_true_iff.mp h1 with e | e
              · have e0 : its.length = 0 := by simpa [Array.isEmpty] using e
                have : xs = [] := List.eq_nil_of_length_eq_zero (by omega)
                subst this
                simp
              · have : k = 1 := by simpa using e
                subst this
                simp
            rw [hval] at q
            refine wpAny_binaryOp_repeat_ref (T := "tuple") (U := "int") (by decide) ⟨_, ho, rfl⟩ (fun s' => typeIs_int s' k t) L2.noFill_tuple_mul F.fills_int_mul F.slot_int_rmul L2.repeat_tuple F.slot_int_index.lookup
              (call_meets F.slot_int_rmul (typeIs_int s k t) F.entry_int_rmul (F.args_int_rmul_2 _ _) (L2.int_rmul_tuple k t a its.toArray n dd sl)
                ⟨ho, rfl, ⟨_, ho, rfl⟩, call_meets F.slot_tuple_mul ⟨_, ho, rfl⟩ F.entry_tuple_mul (F.args_tuple_mul_2 _ _) (tuple_mul_same a its.toArray n dd sl k t c0 h1) ⟨ho, ?_⟩⟩)
            exact ⟨V.ref a, H, I, rfl, q.now r _ (.tup t1 d1)⟩
          · rw [Bool.not_eq_true] at h1
            have hne : its.toArray.isEmpty = false := by
              cases z : its.toArray.isEmpty with
              | false => rfl
              | true => rw [z] at h1; cases h1
            have hxs : xs ≠ [] := fun e => by
              rw [e] at hle
              have : its = [] := List.eq_nil_of_length_eq_zero hle
              rw [this] at hne
              cases hne
            have hk1 : k ≠ 1 := fun e => by
              rw [e] at h1
              simp at h1
            have hk0 : k ≤ 0 := by
              have : ¬ 2 ≤ k := fun z => hbig ⟨hxs, z⟩
              omega
            have hval : (List.replicate k.toNat xs).flatten = [] := by
              have : k.toNat = 0 := by omega
              rw [this]
              rfl
            rw [hval] at q
            have c2 : (decide (k ≤ 0) || its.toArray.isEmpty) = true := by
              rw [decide_eq_true hk0]
              rfl
            refine wpAny_binaryOp_repeat_ref (T := "tuple") (U := "int") (by decide) ⟨_, ho, rfl⟩ (fun s' => typeIs_int s' k t) L2.noFill_tuple_mul F.fills_int_mul F.slot_int_rmul L2.repeat_tuple F.slot_int_index.lookup
              (call_meets F.slot_int_rmul (typeIs_int s k t) F.entry_int_rmul (F.args_int_rmul_2 _ _) (L2.int_rmul_tuple k t a its.toArray n dd sl)
                ⟨ho, rfl, ⟨_, ho, rfl⟩, call_meets F.slot_tuple_mul ⟨_, ho, rfl⟩ F.entry_tuple_mul (F.args_tuple_mul_2 _ _) (tuple_mul_none a its.toArray n dd sl k t c0 h1 c2) ⟨ho, ?_⟩⟩)
            have nf := I.hok.fresh (Nat.le_refl s.heap.objs.size)
            obtain ⟨r2, x2⟩ := r.new (o := .tup []) nf
            refine ⟨.ref s.heap.objs.size, _, I.laid (t' := s.toks) (o := .tup []) (fun b ob q => Heap.get?_push_of_some _ q) (Nat.le_refl _) ?_, rfl, q.at x2 r2 _ (.tup (.inl (.inl upd_same)) .nil)⟩
            exact ⟨Nat.zero_le _, [], .nil, IsTup.new _ _⟩
    · exact q.elim
  · exact op_gTimes pins s σ H x y v u Q I rx ry ⟨μ, α, Fz, w1, w2, r, h1, h2, q⟩

/-! ### a function of the library bound at the top; pairs -/
variable {x y : Str} {p pos : Pos} {e : Expr} {es : List Expr} {as : Av}
theorem xBif {id : String} {g : GF} (hc : CallR X (.builtin id) (rnG X.K X.mg g)) (hm : X.mg x = some (.builtin id)) (hg : Gl X x) (ha : SA X W (e :: es) as) (hdb : (x == ("__debug__" : Str)) = false := by decide)
    (he : starEach (e :: es) X.env = (false, eval e X.env) :: starEach es X.env := by rfl) (hpl : (backTo pos (starEach es X.env)).any (·.1) = false := by rfl) : SE X W (.Call (.Name x p) (e :: es) [] pos) (en g as) := se_bif hc hg hm ha hdb he hpl
theorem xPar (i j : Nat) {a b : Expr} {px py pt : Pos} {kt k2 : Nat} {pt2 : Pos} (hc : X.calm = true) (hN : X.N.Nodup) (ha : SA X W [a, b] as) (hi : X.N[i]? = some x := by rfl) (hj : X.N[j]? = some y := by rfl) (hij : i ≠ j := by decide)
    (hx : X.env.scope.names.lookup x = some .local := by rfl) (hy : X.env.scope.names.lookup y = some .local := by rfl)
    (hw : swappedStores [.Tuple [.Name x px, .Name y py] kt pt] (.Tuple [a, b] k2 pt2) X.env = pure (some [x, y]) := by rfl) (hs : swapsWithSole [.Tuple [.Name x px, .Name y py] kt pt] (.Tuple [a, b] k2 pt2) pos.line X.env = pure false := by rfl) :
    SS X W (.Assign [.Tuple [.Name x px, .Name y py] kt pt] (.Tuple [a, b] k2 pt2) pos) (sPar i j as) := ss_par hc hN hi hj hij hx hy ha hw hs
def sNever : Sv := fun _ _ => .bad
theorem ss_nev {st : Stmt} : SS X W st sNever := ss_never
/-- a constant of the module -/
def Con (K : PySem.W.Frag) (mg : Str → Option Value) (x : Str) (c : PyData) : Prop := ∃ v u, mg x = some u ∧ RelV v u ∧ ∀ F, Dq K F v c
theorem xCon {c : PyData} (h : Con X.K X.mg x c) (hg : Gl X x) (hd : (x == ("__debug__" : Str)) = false := by decide) : SE X W (.Name x pos) (eK c) := by
  obtain ⟨v, u, hm, r, hc⟩ := h
  exact se_glob hg hm r hc hd
end
end TL
/-! TL14: enumerate over a tuple. -/
namespace TL
open PySem PySem.Spec L2 PyProof.Rows RZ
open AutoSeq1 (wpAny_loadPart')
theorem meets_enum_tup (l : Addr) (items : Array Value) (n : Nat) (dct : Option Addr) (sl : Array (Option Value)) :
    Meets (Builtin.«enumerate.__new__» ⟨[.type "enumerate", .ref l], []⟩) (fun _ R s => s.heap.get? l = some { cls := .type "tuple", dict := dct, data := .seq items n, slots := sl } ∧
      R (.ok (.ret (.ref (s.heap.push { cls := .type "tuple_iterator", data := .fields #[.ref l, .int 0 0] }).objs.size)))
        { s with heap := (s.heap.push { cls := .type "tuple_iterator", data := .fields #[.ref l, .int 0 0] }).push { cls := .type "enumerate", data := .fields #[.none, .bool false, .ref s.heap.objs.size, rawInt 0, .none, .none] } }) :=
  .of_wp fun prog w A R s h => by
    obtain ⟨hp, g, d, tk, os⟩ := s
    obtain ⟨hl, h⟩ := h
    have hsub := sub_enumerate
    have hT : Heap.IsTuple (Shared.heap ⟨hp, g, d, tk, os⟩) l items := ⟨_, hl, rfl, n, rfl⟩
    wp_walk using wpAny_loadPart' hl
    refine wpAny_stack_any fun st => wpAny_pure ?_
    split
    · rename_i c _ _ _ _ _
      cases (c == Value.type "enumerate")
      · wp_walk using wpAny_loadPart' hl, wpAny_pyIter_tuple hT
        exact ⟨_, rfl, h⟩
      · wp_walk using wpAny_loadPart' hl, wpAny_pyIter_tuple hT
        exact ⟨_, rfl, h⟩
    · wp_walk using wpAny_loadPart' hl, wpAny_pyIter_tuple hT
      exact ⟨_, rfl, h⟩
theorem call_enum_tup {prog : Program} {w : World} {A : Around} {E : Value → Shared → Prop} {s : Shared} {l : Addr} {items : Array Value} {Q : Value → Shared → Prop} (hT : s.heap.IsTuple l items)
    (h : ∀ h', IsEnum h' (s.heap.objs.size + 1) s.heap.objs.size 0 .none → h'.IsTupleIter s.heap.objs.size l 0 → h'.objs.size = s.heap.objs.size + 2 →
      (∀ b o, s.heap.get? b = some o → h'.get? b = some o) → Q (.ref (s.heap.objs.size + 1)) { s with heap := h' }) :
    wpAny (model prog w) A (call (.type "enumerate") [.ref l]) Q E s := by
  obtain ⟨⟨c, dct, dt, sl⟩, hl, hc, n, hd⟩ := hT
  simp only at hc hd
  subst hc hd
  refine callType_new F.called_enumerate (by decide) (F.typeCall_enumerate_1 _) (F.newCall_enumerate_1 _) (fun obj => F.args_object_init_2 obj _) F.entry_enumerate_new
    (meets_enum_tup l items n dct sl) ⟨hl, ?_⟩
  have two : ((s.heap.push { cls := .type "tuple_iterator", data := .fields #[.ref l, .int 0 0] }).push { cls := .type "enumerate", data := .fields #[.none, .bool false, .ref s.heap.objs.size, rawInt 0, .none, .none] }).get? (s.heap.objs.size + 1) =
      some { cls := .type "enumerate", data := .fields #[.none, .bool false, .ref s.heap.objs.size, rawInt 0, .none, .none] } := by
    have := Heap.get?_push_size (s.heap.push { cls := .type "tuple_iterator", data := .fields #[.ref l, .int 0 0] }) (o := { cls := .type "enumerate", data := .fields #[.none, .bool false, .ref s.heap.objs.size, rawInt 0, .none, .none] }) rfl
    rw [Heap.size_push] at this
    exact this
  show _ ∧ _
  rw [Heap.size_push]
  exact ⟨⟨_, two, rfl⟩, h _ two ⟨_, Heap.get?_push_of_some _ (Heap.get?_push_size _ rfl), rfl, rfl⟩ (by rw [Heap.size_push, Heap.size_push]) fun b o x => Heap.get?_push_of_some _ (Heap.get?_push_of_some _ x)⟩
/-- the tuple at a, each item in a new pair -/
def IteT (K : PySem.W.Frag) (a : Addr) : It :=
  ⟨fun i H => ∃ (xs : List V) (x : V), SqT K H a xs ∧ xs[i]? = some x, fun i H v H' => ∃ T x, v = .ref T ∧ H T = none ∧ H' = upd H T (.tup [.int (i : Nat), x]) ∧ ∀ xs, SqT K H a xs → xs[i]? = some x, fun i H => ∃ xs : List V, SqT K H a xs ∧ xs.length ≤ i⟩
theorem turn_enumT {P : Program} {w : World} {K : PySem.W.Frag} {elts : List Expr} {kk : Nat} {tpos : Pos} (a e it : Addr) (hae : a ≠ e) (hai : a ≠ it) :
    Turn P w K (.Tuple elts kk tpos) (IteT K a) [e, it] e (fun i h => (∃ old, IsEnum h e it ((i : Nat) : Int) old) ∧ h.IsTupleIter it a i ∧ e ≠ it) where
  mem := by simp
  obj := fun i h st b hb => by
    obtain ⟨⟨old, he⟩, ⟨o, ho, hc, hd⟩, _⟩ := st
    have two : b = e ∨ b = it := by simpa using hb
    rcases two with z | z
    · rw [z]
      exact ⟨_, he, fun v q => nomatch q⟩
    · rw [z]
      exact ⟨o, ho, fun v q => by rw [hd] at q; cases q⟩
  keep := fun i h h' st k => ⟨⟨st.1.choose, k e (by simp) _ st.1.choose_spec⟩, st.2.1.at fun o q => k it (by simp) o q, st.2.2⟩
  item := by
    intro X hP hw hK hc i pins s σ H E I hf st hg
    subst hP hw hK
    obtain ⟨⟨old, he⟩, hit, hne⟩ := st
    obtain ⟨xs, x, hq, hx⟩ := hg
    obtain ⟨its, rv, p, hz⟩ := I.tuple hq
    obtain ⟨u, hu, ru⟩ := rv.get hx
    have hel : e < s.heap.objs.size := Heap.lt_size he
    have hil : it < s.heap.objs.size := by
      obtain ⟨_, q, _⟩ := hit
      exact Heap.lt_size q
    have pT : s.heap.IsTuple a its.toArray := p
    have D := Draws.tuple (prog := X.prog) (w := X.w) (A := X.A.in1) (by rw [show X.A.in1.handled = X.A.handled from rfl]; exact I.ok.hd hc) it a hai its.toArray
    have hlt : i < its.toArray.size := by
      rw [List.size_toArray]
      exact (List.getElem?_eq_some_iff.mp hu).1
    refine wpAny_pyNext_enum_itemD D he ⟨hit, pT⟩ hlt hne (by simp; exact ⟨hne, Ne.symm hae⟩) fun y h' tk hy ho st' hT hsz hk => ?_
    have ey : y = u := by
      have hy : its.toArray[i]? = some y := hy
      rw [List.getElem?_toArray, hu] at hy
      exact (Option.some.inj hy).symm
    subst ey
    refine ⟨_, rfl, wpAny_letOwnedTupleGo_enum (s := { s with heap := h', toks := tk + 1 }) ho fun h2 he2 sb => ?_⟩
    have hT2 : h2.get? s.heap.objs.size = some { cls := .type "tuple", data := .seq #[.int i tk, y] } := (sb.2 _ (Nat.ne_of_gt hel)).trans hT
    have new : ObjOk X.prog X.w (upd H s.heap.objs.size (.tup [.int (i : Nat), x])) h2 s.heap.objs.size (.tup [.int (i : Nat), x]) :=
      ⟨by show 2 ≤ sizeLine; decide, [.int i tk, y], .cons ⟨_, rfl⟩ (.cons ru .nil), ⟨_, hT2, rfl, _, rfl⟩⟩
    have I1 : Inv X pins σ (upd H s.heap.objs.size (.tup [.int (i : Nat), x])) { s with heap := h2, toks := tk + 1 } :=
      I.turnedNew (ch := [e, it]) (fun b ob hb q => (sb.2 b (fun z => hb (by simp [z]))).trans (hk b ob (fun z => hb (by simp [z])) (fun z => hb (by simp [z])) q)) hf (Nat.le_refl _) new
    refine ⟨.ref s.heap.objs.size, _, I1, rfl, ⟨_, x, rfl, I.hok.fresh (Nat.le_refl _), rfl, fun ys hy => by rw [I.tuple_inj hy hq]; exact hx⟩, ⟨⟨y, ?_⟩, st'.1.at fun o q => (sb.2 it (Ne.symm hne)).trans q, hne⟩, fun b hb => ?_⟩
    · have e1 : ((i + 1 : Nat) : Int) = (i : Int) + 1 := by omega
      rw [e1]
      exact he2
    · have two : b = e ∨ b = it := by simpa using hb
      have hb' : b < s.heap.objs.size := by
        rcases two with z | z
        · rw [z]; exact hel
        · rw [z]; exact hil
      rw [upd_ne (Nat.ne_of_lt hb')]
      exact (hf b hb).1
  done := by
    intro X hP hw hK hc i pins s σ H E I hf st hg
    subst hP hw hK
    obtain ⟨⟨old, he⟩, hit, hne⟩ := st
    obtain ⟨xs, hq, hx⟩ := hg
    obtain ⟨its, rv, p, hz⟩ := I.tuple hq
    have pT : s.heap.IsTuple a its.toArray := p
    have hl := rv.length
    have over : its.toArray[i]? = none := by
      simp
      omega
    have D : Draws X.prog X.w X.A.in1 it [it, a] i (fun _ _ => False) (fun j h => j = i ∧ h.IsTupleIter it a i ∧ h.IsTuple a its.toArray) :=
      { live := fun _ _ st => let ⟨o, ho, _⟩ := st.2.1; ⟨o, ho⟩
        frame := fun _ _ _ st hk => ⟨st.1, st.2.1.at fun o e => hk it (by simp) o e, st.2.2.at fun o e => hk a (by simp) o e⟩
        item := fun j s Q E hj st hQ => absurd st.1 (by omega)
        done := fun s Q E st hE => wpAny_nextOf_tuple_end (by rw [show X.A.in1.handled = X.A.handled from rfl]; exact I.ok.hd hc) st.2.1 st.2.2 over hE }
    refine wpAny_pyNext_enum_endD D he ⟨rfl, hit, pT⟩ fun h' eb => ⟨rfl, I.turned (t' := s.toks) (fun b o hb q => eb b o hb q) (hf it (by simp)).1 (hf it (by simp)).2.1 (hf it (by simp)).2.2.2.1 (hf it (by simp)).2.2.2.2.1 (hf it (by simp)).2.2.2.2.2⟩
  self := fun A i s Q E st h => wpAny_pyIter_enum st.1.choose_spec h
def iEnumA (K : PySem.W.Frag) (ta : TA) : TI := fun σ H R => ta σ H fun vs H1 => ∃ a xs, vs = [.ref a] ∧ ((SqL K H1 a xs ∧ R (Ite K a) H1) ∨ (SqT K H1 a xs ∧ R (IteT K a) H1))
theorem pi_enumA {X : Cx} {e : Expr} {ta : TA} {p pos tpos : Pos} {elts : List Expr} {kk : Nat} (hg : Gl X "enumerate") (hm : X.mg "enumerate" = none) (ha : PA X [e] ta) (hs : starEach [e] X.env = [(false, eval e X.env)]) :
    PI X (.Tuple elts kk tpos) (.Call (.Name "enumerate" p) [e] [] pos) (iEnumA X.K ta) := by
  refine ⟨fun pins s σ H R I h => ?_⟩
  refine Call_ (ld_blt I hg hm boot_enumerate (PyProof.Rows.callWith_type1 (thn (ha.run pos pins s σ H _ I h) fun us s1 ⟨vs, H1, I1, r1, q1⟩ => ?_) hs rfl))
  obtain ⟨a, xs, ex, q1⟩ := q1
  subst ex
  cases r1 with
  | cons r rr =>
    cases rr
    cases r
    have own : ∀ b, b ∈ [s1.heap.objs.size + 1, s1.heap.objs.size] → FpOk X pins H1 b := fun b hb => by
      have two : b = s1.heap.objs.size + 1 ∨ b = s1.heap.objs.size := by simpa using hb
      have hle : s1.heap.objs.size ≤ b := by omega
      exact I1.fpOk hle (I1.hok.fresh hle)
    rcases q1 with ⟨hq, q⟩ | ⟨hq, q⟩
    · obtain ⟨its, rv, p', hz⟩ := I1.list hq
      exact call_enumerate_list p'.isList fun h' he hit hsz hk => wpAny_pyIter_enum he
        ⟨_, [s1.heap.objs.size + 1, s1.heap.objs.size], _, _, H1, rfl, I1.kept (t' := s1.toks) hk, turn_enum a (s1.heap.objs.size + 1) s1.heap.objs.size, ⟨⟨.none, he⟩, hit, Nat.succ_ne_self _⟩, own, q⟩
    · obtain ⟨its, rv, p', hz⟩ := I1.tuple hq
      have pT : s1.heap.IsTuple a its.toArray := p'
      have la : a < s1.heap.objs.size := by
        obtain ⟨o, ho, _⟩ := pT
        exact Heap.lt_size ho
      exact call_enum_tup pT fun h' he hit hsz hk => wpAny_pyIter_enum he
        ⟨_, [s1.heap.objs.size + 1, s1.heap.objs.size], _, _, H1, rfl, I1.kept (t' := s1.toks) hk, turn_enumT a (s1.heap.objs.size + 1) s1.heap.objs.size (Nat.ne_of_lt (Nat.lt_succ_of_lt la)) (Nat.ne_of_lt la), ⟨⟨.none, he⟩, hit, Nat.succ_ne_self _⟩, own, q⟩
def seqOf (w : Wv) (μ : Mu) : Option Its :=
  match w with
  | .d (.tuple c) => some ⟨c, []⟩
  | _ => lstOf w μ
def iEnumT (as : Av) : Iv := fun ρ μ => (as ρ μ).bind fun ws μ1 => match ws with
  | [w] => (oOf (seqOf w μ1) μ1).bind fun i μ2 => .ok ⟨enumL i.xs, i.tie⟩ μ2
  | _ => .bad
theorem jok_enumT {K : PySem.W.Frag} {α0 : List Addr} {F0 H0 : Hp} {a : Addr} {i : Its} (k : TKn K α0 F0 H0 a i) : JOk K α0 F0 H0 (IteT K a) ⟨enumL i.xs, i.tie⟩ := by
  refine ⟨fun α F μ H r e t => ?_⟩
  obtain ⟨vs, hs, d⟩ := k.at_ α F μ H r e t
  have hl : (enumL i.xs).length = i.xs.length := by unfold enumL; rw [List.length_mapIdx]
  refine ⟨fun n hn => ?_, fun n hn => ⟨vs, hs, by rw [d.length, ← hl]; exact hn⟩, fun n y x H' hy hyl => ?_⟩
  · have hn' : n < vs.length := by rw [d.length, ← hl]; exact hn
    exact ⟨vs, vs[n], hs, List.getElem?_eq_getElem hn'⟩
  · obtain ⟨T, u, rfl, hT, rfl, q⟩ := hyl
    obtain ⟨z, hz, dz⟩ := d.getV (q vs hs)
    have hy : (enumL i.xs)[n]? = some y := hy
    unfold enumL at hy
    rw [List.getElem?_mapIdx, hz] at hy
    cases hy
    obtain ⟨r2, x2⟩ := r.new (o := .tup [.int (n : Nat), u]) hT
    exact ⟨_, r2, x2, .tup (.inl (.inl upd_same)) (.cons (.int _) (.cons (dz.mono x2.fro) .nil))⟩
section
variable {X : Cx} {W : WX}
theorem xEnumT {e : Expr} {as : Av} {p pos tpos : Pos} {elts : List Expr} {kk : Nat} (hm : X.mg "enumerate" = none) (hg : Gl X "enumerate") (ha : SA X W [e] as) (hs : starEach [e] X.env = [(false, eval e X.env)] := by rfl) :
    SI X W (.Tuple elts kk tpos) (.Call (.Name "enumerate" p) [e] [] pos) (iEnumT as) := by
  refine (pi_enumA hg hm ha hs).imp fun σ H R ⟨ρ, μ, α, F, r, re, q⟩ => ?_
  refine ⟨ρ, μ, α, F, r, re, q.bind.mono fun ws μ1 α1 F1 H1 x1 r1 q1 vs rv => ?_⟩
  split at q1
  · rename_i w
    cases rv with
    | cons a1 t1 =>
      cases t1
      unfold seqOf at q1
      split at q1
      · obtain ⟨a, rfl, ⟨us, hu⟩, k⟩ := tkn r1 a1 rfl
        exact ⟨a, us, rfl, .inr ⟨hu, gp.now (c := (⟨enumL _, []⟩ : Its)) q1 r1 _ (jok_enumT k)⟩⟩
      · cases e1 : lstOf w μ1 with
        | none =>
          rw [e1] at q1
          exact q1.elim
        | some i =>
          rw [e1] at q1
          obtain ⟨a, rfl, ⟨us, hu⟩, k⟩ := lkn r1 a1 e1
          exact ⟨a, us, rfl, .inl ⟨hu, gp.now (c := (⟨enumL i.xs, i.tie⟩ : Its)) q1 r1 _ (jok_enum k)⟩⟩
  · exact q1.elim
end
end TL
namespace LW
open PySem PySem.Spec L2 PyProof.Rows TL
def top (i : Nat) : Stmt := PySem.Challenge.pw_twoletters_k02_rows_of_anything_and_thei.main.body.getD i (.Pass ⟨0, 0, 0, 0⟩)
theorem hu64 {A : Around} {k : Nat} (h : Room k A) : A.units + 64 < cLine := by
  have := h.un
  omega
theorem hu65 {A : Around} {k : Nat} (h : Room k A) : A.units + 65 < cLine := by
  have := h.un
  omega

abbrev st_is_whole : Stmt := top 6
theorem sc_is_whole : FnScope ["value"] ["value"] (defScope st_is_whole) := ⟨rfl, rfl, rfl, by decide +kernel, rfl, by decide +kernel, by decide +kernel⟩
theorem bd_is_whole {K : PySem.W.Frag} {f : Addr} {fd : FuncData} (F : Fun K "is_whole" "is_whole" st_is_whole f fd) : Binds K fd ["value"] [] := F.binds (ps := ["value"]) fun _ _ _ _ _ _ us hl => match us, hl with | [_], _ => rfl
noncomputable def b_is_whole : Sv :=
  (sRet (eAnd (e1 (gIsi "int") (eVar 0)) (eNot (e1 (gIsi "bool") (eVar 0)))))
noncomputable def f_is_whole : GF := runD 1 b_is_whole

abbrev st_are_wholes : Stmt := top 7
theorem sc_are_wholes : FnScope ["value", "many", "each"] ["value", "many"] (defScope st_are_wholes) := ⟨rfl, rfl, rfl, by decide +kernel, rfl, by decide +kernel, by decide +kernel⟩
theorem bd_are_wholes {K : PySem.W.Frag} {f : Addr} {fd : FuncData} (F : Fun K "are_wholes" "are_wholes" st_are_wholes f fd) : Binds K fd ["value", "many"] [] := F.binds (ps := ["value", "many"]) fun _ _ _ _ _ _ us hl => match us, hl with | [_, _], _ => rfl
noncomputable def b_are_wholes : Sv :=
  (sRet (eAnd (e1 (gIsi "tuple") (eVar 0)) (eAnd (e2 (gEq false) (en gLen (aCons (eVar 0) aNil)) (eVar 1)) (en gAll (aCons (eFrz (lLc (iAny (eVar 0)) (gNm 2) bYes (cF 1 f_is_whole (aCons (eVar 2) aNil)) [2])) aNil)))))
noncomputable def f_are_wholes : GF := runD 3 b_are_wholes

abbrev st_is_ratio : Stmt := top 10
theorem sc_is_ratio : FnScope ["value"] ["value"] (defScope st_is_ratio) := ⟨rfl, rfl, rfl, by decide +kernel, rfl, by decide +kernel, by decide +kernel⟩
theorem bd_is_ratio {K : PySem.W.Frag} {f : Addr} {fd : FuncData} (F : Fun K "is_ratio" "is_ratio" st_is_ratio f fd) : Binds K fd ["value"] [] := F.binds (ps := ["value"]) fun _ _ _ _ _ _ us hl => match us, hl with | [_], _ => rfl
noncomputable def b_is_ratio : Sv :=
  (sRet (eAnd (cF 2 f_are_wholes (aCons (eVar 0) (aCons (eK (.int 2)) aNil))) (eAnd (e2 (gCmp fun i j => decide (j < i)) (e2 gIx (eVar 0) (eK (.int 1))) (eK (.int 0))) (e2 (gEq false) (en gGcd (aCons (e2 gIx (eVar 0) (eK (.int 0))) (aCons (e2 gIx (eVar 0) (eK (.int 1))) aNil))) (eK (.int 1))))))
noncomputable def f_is_ratio : GF := runD 1 b_is_ratio

abbrev st_ratio : Stmt := top 11
theorem sc_ratio : FnScope ["top", "low", "part"] ["top", "low"] (defScope st_ratio) := ⟨rfl, rfl, rfl, by decide +kernel, rfl, by decide +kernel, by decide +kernel⟩
theorem bd_ratio {K : PySem.W.Frag} {f : Addr} {fd : FuncData} (F : Fun K "ratio" "ratio" st_ratio f fd) : Binds K fd ["top", "low"] [] := F.binds (ps := ["top", "low"]) fun _ _ _ _ _ _ us hl => match us, hl with | [_, _], _ => rfl
noncomputable def b_ratio : Sv :=
  (sSeq (sAsg (eIf (tB' (e2 (gCmp fun i j => decide (j < i)) (eVar 1) (eK (.int 0)))) (en gGcd (aCons (eVar 0) (aCons (eVar 1) aNil))) (e1 gNeg (en gGcd (aCons (eVar 0) (aCons (eVar 1) aNil))))) (gNm 2))
    (sRet (eTup (aCons (e2 gDiv (eVar 0) (eVar 2)) (aCons (e2 gDiv (eVar 1) (eVar 2)) aNil)))))
noncomputable def f_ratio : GF := runD 3 b_ratio

abbrev st_is_rowed : Stmt := top 13
theorem sc_is_rowed : FnScope ["value", "each"] ["value"] (defScope st_is_rowed) := ⟨rfl, rfl, rfl, by decide +kernel, rfl, by decide +kernel, by decide +kernel⟩
theorem bd_is_rowed {K : PySem.W.Frag} {f : Addr} {fd : FuncData} (F : Fun K "is_rowed" "is_rowed" st_is_rowed f fd) : Binds K fd ["value"] [] := F.binds (ps := ["value"]) fun _ _ _ _ _ _ us hl => match us, hl with | [_], _ => rfl
noncomputable def b_is_rowed : Sv :=
  (sSeq (sIf (bOr (bNot (tB' (e1 (gIsi "tuple") (eVar 0)))) (bNot (tB' (en gAll (aCons (eFrz (lLc (iAny (eVar 0)) (gNm 1) bYes (cF 1 f_is_whole (aCons (eVar 1) aNil)) [1])) aNil))))) (sRet (eK (.bool false))) sNext)
    (sRet (eOr (e2 (gEq false) (eVar 0) (eTup aNil)) (e2 (gEq true) (e2 gIx (eVar 0) (e1 gNeg (eK (.int 1)))) (eK (.int 0))))))
noncomputable def f_is_rowed : GF := runD 2 b_is_rowed

abbrev st_trimmed : Stmt := top 14
theorem sc_trimmed : FnScope ["some", "last"] ["some"] (defScope st_trimmed) := ⟨rfl, rfl, rfl, by decide +kernel, rfl, by decide +kernel, by decide +kernel⟩
theorem bd_trimmed {K : PySem.W.Frag} {f : Addr} {fd : FuncData} (F : Fun K "trimmed" "trimmed" st_trimmed f fd) : Binds K fd ["some"] [] := F.binds (ps := ["some"]) fun _ _ _ _ _ _ us hl => match us, hl with | [_], _ => rfl
noncomputable def b_trimmed : Sv :=
  (sSeq (sAsg (en gLen (aCons (eVar 0) aNil)) (gNm 1))
    (sSeq (sWhile (bAnd (tB' (e2 (gCmp fun i j => decide (j < i)) (eVar 1) (eK (.int 0)))) (tB' (e2 (gEq false) (e2 gIx (eVar 0) (e2 gSub (eVar 1) (eK (.int 1)))) (eK (.int 0))))) (sAsg (e2 gSub (eVar 1) (eK (.int 1))) (gNm 1)))
    (sRet (en gTuple (aCons (eSl (eVar 0) none (some (eVar 1))) aNil)))))
noncomputable def f_trimmed : GF := runD 2 b_trimmed

abbrev st_sum_by : Stmt := top 15
theorem sc_sum_by : FnScope ["row", "other", "size", "one", "two", "here", "there"] ["row", "other"] (defScope st_sum_by) := ⟨rfl, rfl, rfl, by decide +kernel, rfl, by decide +kernel, by decide +kernel⟩
theorem bd_sum_by {K : PySem.W.Frag} {f : Addr} {fd : FuncData} (F : Fun K "sum_by" "sum_by" st_sum_by f fd) : Binds K fd ["row", "other"] [] := F.binds (ps := ["row", "other"]) fun _ _ _ _ _ _ us hl => match us, hl with | [_, _], _ => rfl
noncomputable def b_sum_by : Sv :=
  (sSeq (sAsg (en gMax (aCons (en gLen (aCons (eVar 0) aNil)) (aCons (en gLen (aCons (eVar 1) aNil)) aNil))) (gNm 2))
    (sSeq (sPar 3 4 (aCons (e2 gPlus (eVar 0) (e2 gTimesT (eTup (aCons (eK (.int 0)) aNil)) (e2 gSub (eVar 2) (en gLen (aCons (eVar 0) aNil))))) (aCons (e2 gPlus (eVar 1) (e2 gTimesT (eTup (aCons (eK (.int 0)) aNil)) (e2 gSub (eVar 2) (en gLen (aCons (eVar 1) aNil))))) aNil)))
    (sRet (cF 1 f_trimmed (aCons (eFrz (lLc (iZipS (aCons (eVar 3) (aCons (eVar 4) aNil))) (gTp [(gNm 5), (gNm 6)]) bYes (e2 gPlus (eVar 5) (eVar 6)) [5, 6])) aNil)))))
noncomputable def f_sum_by : GF := runD 7 b_sum_by

abbrev st_scaled : Stmt := top 16
theorem sc_scaled : FnScope ["row", "number", "each"] ["row", "number"] (defScope st_scaled) := ⟨rfl, rfl, rfl, by decide +kernel, rfl, by decide +kernel, by decide +kernel⟩
theorem bd_scaled {K : PySem.W.Frag} {f : Addr} {fd : FuncData} (F : Fun K "scaled" "scaled" st_scaled f fd) : Binds K fd ["row", "number"] [] := F.binds (ps := ["row", "number"]) fun _ _ _ _ _ _ us hl => match us, hl with | [_, _], _ => rfl
noncomputable def b_scaled : Sv :=
  (sRet (cF 1 f_trimmed (aCons (eFrz (lLc (iAny (eVar 0)) (gNm 2) bYes (e2 gTimes (eVar 1) (eVar 2)) [2])) aNil)))
noncomputable def f_scaled : GF := runD 3 b_scaled

abbrev st_gap_by : Stmt := top 17
theorem sc_gap_by : FnScope ["row", "other"] ["row", "other"] (defScope st_gap_by) := ⟨rfl, rfl, rfl, by decide +kernel, rfl, by decide +kernel, by decide +kernel⟩
theorem bd_gap_by {K : PySem.W.Frag} {f : Addr} {fd : FuncData} (F : Fun K "gap_by" "gap_by" st_gap_by f fd) : Binds K fd ["row", "other"] [] := F.binds (ps := ["row", "other"]) fun _ _ _ _ _ _ us hl => match us, hl with | [_, _], _ => rfl
noncomputable def b_gap_by : Sv :=
  (sRet (cF 2 f_sum_by (aCons (eVar 0) (aCons (cF 2 f_scaled (aCons (eVar 1) (aCons (e1 gNeg (eK (.int 1))) aNil))) aNil))))
noncomputable def f_gap_by : GF := runD 2 b_gap_by

abbrev st_product_by : Stmt := top 18
theorem sc_product_by : FnScope ["row", "other", "found", "at", "one", "to", "two"] ["row", "other"] (defScope st_product_by) := ⟨rfl, rfl, rfl, by decide +kernel, rfl, by decide +kernel, by decide +kernel⟩
theorem bd_product_by {K : PySem.W.Frag} {f : Addr} {fd : FuncData} (F : Fun K "product_by" "product_by" st_product_by f fd) : Binds K fd ["row", "other"] [] := F.binds (ps := ["row", "other"]) fun _ _ _ _ _ _ us hl => match us, hl with | [_, _], _ => rfl
noncomputable def b_product_by : Sv :=
  (sSeq (sIf (bOr (tB' (e2 (gEq false) (eVar 0) (eTup aNil))) (tB' (e2 (gEq false) (eVar 1) (eTup aNil)))) (sRet (eTup aNil)) sNext)
    (sSeq (sAsg (eNew (lRep (eFrz (lDisp (aCons (eK (.int 0)) aNil))) (e2 gSub (e2 gPlus (en gLen (aCons (eVar 0) aNil)) (en gLen (aCons (eVar 1) aNil))) (eK (.int 1))))) (gNm 2))
    (sSeq (sFor (iEnumT (aCons (eVar 0) aNil)) (gTp [(gNm 3), (gNm 4)]) (sFor (iEnumT (aCons (eVar 1) aNil)) (gTp [(gNm 5), (gNm 6)]) (sAsg (e2 gPlus (e2 gIx (eVar 2) (e2 gPlus (eVar 3) (eVar 5))) (e2 gTimes (eVar 4) (eVar 6))) (gSb (eVar 2) (e2 gPlus (eVar 3) (eVar 5))))))
    (sRet (cF 1 f_trimmed (aCons (eVar 2) aNil))))))
noncomputable def f_product_by : GF := runD 7 b_product_by

abbrev st_slope_of : Stmt := top 19
theorem sc_slope_of : FnScope ["row", "at", "each"] ["row"] (defScope st_slope_of) := ⟨rfl, rfl, rfl, by decide +kernel, rfl, by decide +kernel, by decide +kernel⟩
theorem bd_slope_of {K : PySem.W.Frag} {f : Addr} {fd : FuncData} (F : Fun K "slope_of" "slope_of" st_slope_of f fd) : Binds K fd ["row"] [] := F.binds (ps := ["row"]) fun _ _ _ _ _ _ us hl => match us, hl with | [_], _ => rfl
noncomputable def b_slope_of : Sv :=
  (sRet (cF 1 f_trimmed (aCons (eSl (eFrz (lLc (iEnumT (aCons (eVar 0) aNil)) (gTp [(gNm 1), (gNm 2)]) bYes (e2 gTimes (eVar 1) (eVar 2)) [1, 2])) (some (eK (.int 1))) none) aNil)))
noncomputable def f_slope_of : GF := runD 3 b_slope_of

abbrev st_divisor_of : Stmt := top 20
theorem sc_divisor_of : FnScope ["row", "found", "each"] ["row"] (defScope st_divisor_of) := ⟨rfl, rfl, rfl, by decide +kernel, rfl, by decide +kernel, by decide +kernel⟩
theorem bd_divisor_of {K : PySem.W.Frag} {f : Addr} {fd : FuncData} (F : Fun K "divisor_of" "divisor_of" st_divisor_of f fd) : Binds K fd ["row"] [] := F.binds (ps := ["row"]) fun _ _ _ _ _ _ us hl => match us, hl with | [_], _ => rfl
noncomputable def b_divisor_of : Sv :=
  (sSeq (sAsg (eK (.int 0)) (gNm 1))
    (sSeq (sFor (iAny (eVar 0)) (gNm 2) (sAsg (en gGcd (aCons (eVar 1) (aCons (eVar 2) aNil))) (gNm 1)))
    (sRet (eVar 1))))
noncomputable def f_divisor_of : GF := runD 3 b_divisor_of

abbrev st_small : Stmt := top 21
theorem sc_small : FnScope ["row", "part", "each"] ["row"] (defScope st_small) := ⟨rfl, rfl, rfl, by decide +kernel, rfl, by decide +kernel, by decide +kernel⟩
theorem bd_small {K : PySem.W.Frag} {f : Addr} {fd : FuncData} (F : Fun K "small" "small" st_small f fd) : Binds K fd ["row"] [] := F.binds (ps := ["row"]) fun _ _ _ _ _ _ us hl => match us, hl with | [_], _ => rfl
noncomputable def b_small : Sv :=
  (sSeq (sAsg (cF 1 f_divisor_of (aCons (eVar 0) aNil)) (gNm 1))
    (sRet (eIf (tB' (e2 (gCmp fun i j => decide (j < i)) (eVar 1) (eK (.int 1)))) (en gTuple (aCons (eFrz (lLc (iAny (eVar 0)) (gNm 2) bYes (e2 gDiv (eVar 2) (eVar 1)) [2])) aNil)) (eVar 0))))
noncomputable def f_small : GF := runD 3 b_small

abbrev st_prime_by : Stmt := top 22
theorem sc_prime_by : FnScope ["row", "found"] ["row"] (defScope st_prime_by) := ⟨rfl, rfl, rfl, by decide +kernel, rfl, by decide +kernel, by decide +kernel⟩
theorem bd_prime_by {K : PySem.W.Frag} {f : Addr} {fd : FuncData} (F : Fun K "prime_by" "prime_by" st_prime_by f fd) : Binds K fd ["row"] [] := F.binds (ps := ["row"]) fun _ _ _ _ _ _ us hl => match us, hl with | [_], _ => rfl
noncomputable def b_prime_by : Sv :=
  (sSeq (sAsg (cF 1 f_small (aCons (eVar 0) aNil)) (gNm 1))
    (sRet (eIf (bAnd (tB' (e2 (gEq true) (eVar 1) (eTup aNil))) (tB' (e2 (gCmp fun i j => decide (i < j)) (e2 gIx (eVar 1) (e1 gNeg (eK (.int 1)))) (eK (.int 0))))) (cF 2 f_scaled (aCons (eVar 1) (aCons (e1 gNeg (eK (.int 1))) aNil))) (eVar 1))))
noncomputable def f_prime_by : GF := runD 2 b_prime_by

abbrev st_put_by : Stmt := top 23
theorem sc_put_by : FnScope ["row", "other", "found", "each"] ["row", "other"] (defScope st_put_by) := ⟨rfl, rfl, rfl, by decide +kernel, rfl, by decide +kernel, by decide +kernel⟩
theorem bd_put_by {K : PySem.W.Frag} {f : Addr} {fd : FuncData} (F : Fun K "put_by" "put_by" st_put_by f fd) : Binds K fd ["row", "other"] [] := F.binds (ps := ["row", "other"]) fun _ _ _ _ _ _ us hl => match us, hl with | [_, _], _ => rfl
noncomputable def b_put_by : Sv :=
  (sSeq (sAsg (eTup aNil) (gNm 2))
    (sSeq (sFor (iAny (e1 gRev (eVar 0))) (gNm 3) (sAsg (cF 2 f_sum_by (aCons (cF 2 f_product_by (aCons (eVar 2) (aCons (eVar 1) aNil))) (aCons (cF 1 f_trimmed (aCons (eTup (aCons (eVar 3) aNil)) aNil)) aNil))) (gNm 2)))
    (sRet (eVar 2))))
noncomputable def f_put_by : GF := runD 4 b_put_by

abbrev st_top_at : Stmt := top 24
theorem sc_top_at : FnScope ["row", "fraction", "each", "number", "under", "found", "power"] ["row", "fraction"] (defScope st_top_at) := ⟨rfl, rfl, rfl, by decide +kernel, rfl, by decide +kernel, by decide +kernel⟩
theorem bd_top_at {K : PySem.W.Frag} {f : Addr} {fd : FuncData} (F : Fun K "top_at" "top_at" st_top_at f fd) : Binds K fd ["row", "fraction"] [] := F.binds (ps := ["row", "fraction"]) fun _ _ _ _ _ _ us hl => match us, hl with | [_, _], _ => rfl
noncomputable def b_top_at : Sv :=
  (sSeq (sAsg (eVar 1) (gTp [(gNm 3), (gNm 4)]))
    (sSeq (sAsg (eTup (aCons (eK (.int 0)) (aCons (eK (.int 1)) aNil))) (gTp [(gNm 5), (gNm 6)]))
    (sSeq (sFor (iAny (e1 gRev (eVar 0))) (gNm 2) (sSeq (sAsg (e2 gPlus (e2 gTimes (eVar 5) (eVar 3)) (e2 gTimes (eVar 2) (eVar 6))) (gNm 5))
    (sAsg (e2 gTimes (eVar 6) (eVar 4)) (gNm 6))))
    (sRet (eVar 5)))))
noncomputable def f_top_at : GF := runD 7 b_top_at

abbrev st_power_of : Stmt := top 26
theorem sc_power_of : FnScope ["number", "many", "found", "_"] ["number", "many"] (defScope st_power_of) := ⟨rfl, rfl, rfl, by decide +kernel, rfl, by decide +kernel, by decide +kernel⟩
theorem bd_power_of {K : PySem.W.Frag} {f : Addr} {fd : FuncData} (F : Fun K "power_of" "power_of" st_power_of f fd) : Binds K fd ["number", "many"] [] := F.binds (ps := ["number", "many"]) fun _ _ _ _ _ _ us hl => match us, hl with | [_, _], _ => rfl
noncomputable def b_power_of : Sv :=
  (sSeq (sAsg (eK (.int 1)) (gNm 2))
    (sSeq (sFor (iR1 (aCons (eVar 1) aNil)) (gNm 3) (sAsg (e2 gTimes (eVar 2) (eVar 0)) (gNm 2)))
    (sRet (eVar 2))))
noncomputable def f_power_of : GF := runD 4 b_power_of

abbrev st_value_by : Stmt := top 25
theorem sc_value_by : FnScope ["row", "fraction"] ["row", "fraction"] (defScope st_value_by) := ⟨rfl, rfl, rfl, by decide +kernel, rfl, by decide +kernel, by decide +kernel⟩
theorem bd_value_by {K : PySem.W.Frag} {f : Addr} {fd : FuncData} (F : Fun K "value_by" "value_by" st_value_by f fd) : Binds K fd ["row", "fraction"] [] := F.binds (ps := ["row", "fraction"]) fun _ _ _ _ _ _ us hl => match us, hl with | [_, _], _ => rfl
noncomputable def b_value_by : Sv :=
  (sRet (cF 2 f_ratio (aCons (cF 2 f_top_at (aCons (eVar 0) (aCons (eVar 1) aNil))) (aCons (cF 2 f_power_of (aCons (e2 gIx (eVar 1) (eK (.int 1))) (aCons (e2 gSub (en gLen (aCons (eVar 0) aNil)) (eK (.int 1))) aNil))) aNil))))
noncomputable def f_value_by : GF := runD 2 b_value_by

abbrev st_check_fraction : Stmt := top 28
theorem sc_check_fraction : FnScope ["value"] ["value"] (defScope st_check_fraction) := ⟨rfl, rfl, rfl, by decide +kernel, rfl, by decide +kernel, by decide +kernel⟩
theorem bd_check_fraction {K : PySem.W.Frag} {f : Addr} {fd : FuncData} (F : Fun K "check_fraction" "check_fraction" st_check_fraction f fd) : Binds K fd ["value"] [] := F.binds (ps := ["value"]) fun _ _ _ _ _ _ us hl => match us, hl with | [_], _ => rfl
noncomputable def b_check_fraction : Sv :=
  (sIf (bNot (tB' (cF 1 f_is_ratio (aCons (eVar 0) aNil)))) sNever sNext)
noncomputable def f_check_fraction : GF := runD 1 b_check_fraction

abbrev st_check_row : Stmt := top 29
theorem sc_check_row : FnScope ["value"] ["value"] (defScope st_check_row) := ⟨rfl, rfl, rfl, by decide +kernel, rfl, by decide +kernel, by decide +kernel⟩
theorem bd_check_row {K : PySem.W.Frag} {f : Addr} {fd : FuncData} (F : Fun K "check_row" "check_row" st_check_row f fd) : Binds K fd ["value"] [] := F.binds (ps := ["value"]) fun _ _ _ _ _ _ us hl => match us, hl with | [_], _ => rfl
noncomputable def b_check_row : Sv :=
  (sIf (bNot (tB' (cF 1 f_is_rowed (aCons (eVar 0) aNil)))) sNever sNext)
noncomputable def f_check_row : GF := runD 1 b_check_row

abbrev st_is_row : Stmt := top 31
theorem sc_is_row : FnScope ["value"] ["value"] (defScope st_is_row) := ⟨rfl, rfl, rfl, by decide +kernel, rfl, by decide +kernel, by decide +kernel⟩
theorem bd_is_row {K : PySem.W.Frag} {f : Addr} {fd : FuncData} (F : Fun K "is_row" "is_row" st_is_row f fd) : Binds K fd ["value"] [] := F.binds (ps := ["value"]) fun _ _ _ _ _ _ us hl => match us, hl with | [_], _ => rfl
noncomputable def b_is_row : Sv :=
  (sRet (cF 1 f_is_rowed (aCons (eVar 0) aNil)))
noncomputable def f_is_row : GF := runD 1 b_is_row

abbrev st_check_both : Stmt := top 32
theorem sc_check_both : FnScope ["row", "other"] ["row", "other"] (defScope st_check_both) := ⟨rfl, rfl, rfl, by decide +kernel, rfl, by decide +kernel, by decide +kernel⟩
theorem bd_check_both {K : PySem.W.Frag} {f : Addr} {fd : FuncData} (F : Fun K "check_both" "check_both" st_check_both f fd) : Binds K fd ["row", "other"] [] := F.binds (ps := ["row", "other"]) fun _ _ _ _ _ _ us hl => match us, hl with | [_, _], _ => rfl
noncomputable def b_check_both : Sv :=
  (sSeq (sExpr (cF 1 f_check_row (aCons (eVar 0) aNil)))
    (sExpr (cF 1 f_check_row (aCons (eVar 1) aNil))))
noncomputable def f_check_both : GF := runD 2 b_check_both

abbrev st_plus : Stmt := top 33
theorem sc_plus : FnScope ["row", "other"] ["row", "other"] (defScope st_plus) := ⟨rfl, rfl, rfl, by decide +kernel, rfl, by decide +kernel, by decide +kernel⟩
theorem bd_plus {K : PySem.W.Frag} {f : Addr} {fd : FuncData} (F : Fun K "plus" "plus" st_plus f fd) : Binds K fd ["row", "other"] [] := F.binds (ps := ["row", "other"]) fun _ _ _ _ _ _ us hl => match us, hl with | [_, _], _ => rfl
noncomputable def b_plus : Sv :=
  (sSeq (sExpr (cF 2 f_check_both (aCons (eVar 0) (aCons (eVar 1) aNil))))
    (sRet (cF 2 f_sum_by (aCons (eVar 0) (aCons (eVar 1) aNil)))))
noncomputable def f_plus : GF := runD 2 b_plus

abbrev st_less : Stmt := top 34
theorem sc_less : FnScope ["row", "other"] ["row", "other"] (defScope st_less) := ⟨rfl, rfl, rfl, by decide +kernel, rfl, by decide +kernel, by decide +kernel⟩
theorem bd_less {K : PySem.W.Frag} {f : Addr} {fd : FuncData} (F : Fun K "less" "less" st_less f fd) : Binds K fd ["row", "other"] [] := F.binds (ps := ["row", "other"]) fun _ _ _ _ _ _ us hl => match us, hl with | [_, _], _ => rfl
noncomputable def b_less : Sv :=
  (sSeq (sExpr (cF 2 f_check_both (aCons (eVar 0) (aCons (eVar 1) aNil))))
    (sRet (cF 2 f_gap_by (aCons (eVar 0) (aCons (eVar 1) aNil)))))
noncomputable def f_less : GF := runD 2 b_less

abbrev st_times : Stmt := top 35
theorem sc_times : FnScope ["row", "other"] ["row", "other"] (defScope st_times) := ⟨rfl, rfl, rfl, by decide +kernel, rfl, by decide +kernel, by decide +kernel⟩
theorem bd_times {K : PySem.W.Frag} {f : Addr} {fd : FuncData} (F : Fun K "times" "times" st_times f fd) : Binds K fd ["row", "other"] [] := F.binds (ps := ["row", "other"]) fun _ _ _ _ _ _ us hl => match us, hl with | [_, _], _ => rfl
noncomputable def b_times : Sv :=
  (sSeq (sExpr (cF 2 f_check_both (aCons (eVar 0) (aCons (eVar 1) aNil))))
    (sRet (cF 2 f_product_by (aCons (eVar 0) (aCons (eVar 1) aNil)))))
noncomputable def f_times : GF := runD 2 b_times

abbrev st_derivative : Stmt := top 36
theorem sc_derivative : FnScope ["row"] ["row"] (defScope st_derivative) := ⟨rfl, rfl, rfl, by decide +kernel, rfl, by decide +kernel, by decide +kernel⟩
theorem bd_derivative {K : PySem.W.Frag} {f : Addr} {fd : FuncData} (F : Fun K "derivative" "derivative" st_derivative f fd) : Binds K fd ["row"] [] := F.binds (ps := ["row"]) fun _ _ _ _ _ _ us hl => match us, hl with | [_], _ => rfl
noncomputable def b_derivative : Sv :=
  (sSeq (sExpr (cF 1 f_check_row (aCons (eVar 0) aNil)))
    (sRet (cF 1 f_slope_of (aCons (eVar 0) aNil))))
noncomputable def f_derivative : GF := runD 1 b_derivative

abbrev st_value_at : Stmt := top 37
theorem sc_value_at : FnScope ["row", "fraction"] ["row", "fraction"] (defScope st_value_at) := ⟨rfl, rfl, rfl, by decide +kernel, rfl, by decide +kernel, by decide +kernel⟩
theorem bd_value_at {K : PySem.W.Frag} {f : Addr} {fd : FuncData} (F : Fun K "value_at" "value_at" st_value_at f fd) : Binds K fd ["row", "fraction"] [] := F.binds (ps := ["row", "fraction"]) fun _ _ _ _ _ _ us hl => match us, hl with | [_, _], _ => rfl
noncomputable def b_value_at : Sv :=
  (sSeq (sExpr (cF 1 f_check_row (aCons (eVar 0) aNil)))
    (sSeq (sExpr (cF 1 f_check_fraction (aCons (eVar 1) aNil)))
    (sRet (eIf (tB' (e2 (gEq true) (eVar 0) (eTup aNil))) (cF 2 f_value_by (aCons (eVar 0) (aCons (eVar 1) aNil))) (eK (.tuple [(.int 0), (.int 1)]))))))
noncomputable def f_value_at : GF := runD 2 b_value_at

abbrev st_prime_part : Stmt := top 38
theorem sc_prime_part : FnScope ["row"] ["row"] (defScope st_prime_part) := ⟨rfl, rfl, rfl, by decide +kernel, rfl, by decide +kernel, by decide +kernel⟩
theorem bd_prime_part {K : PySem.W.Frag} {f : Addr} {fd : FuncData} (F : Fun K "prime_part" "prime_part" st_prime_part f fd) : Binds K fd ["row"] [] := F.binds (ps := ["row"]) fun _ _ _ _ _ _ us hl => match us, hl with | [_], _ => rfl
noncomputable def b_prime_part : Sv :=
  (sSeq (sExpr (cF 1 f_check_row (aCons (eVar 0) aNil)))
    (sRet (cF 1 f_prime_by (aCons (eVar 0) aNil))))
noncomputable def f_prime_part : GF := runD 1 b_prime_part

abbrev st_put_in : Stmt := top 39
theorem sc_put_in : FnScope ["row", "other"] ["row", "other"] (defScope st_put_in) := ⟨rfl, rfl, rfl, by decide +kernel, rfl, by decide +kernel, by decide +kernel⟩
theorem bd_put_in {K : PySem.W.Frag} {f : Addr} {fd : FuncData} (F : Fun K "put_in" "put_in" st_put_in f fd) : Binds K fd ["row", "other"] [] := F.binds (ps := ["row", "other"]) fun _ _ _ _ _ _ us hl => match us, hl with | [_, _], _ => rfl
noncomputable def b_put_in : Sv :=
  (sSeq (sExpr (cF 2 f_check_both (aCons (eVar 0) (aCons (eVar 1) aNil))))
    (sRet (cF 2 f_put_by (aCons (eVar 0) (aCons (eVar 1) aNil)))))
noncomputable def f_put_in : GF := runD 2 b_put_in

abbrev st_law_well : Stmt := top 41
theorem sc_law_well : FnScope ["_law_script", "_law_at", "_law_mixed", "_law_cell", "_law_own"] ["_law_script", "_law_at"] (defScope st_law_well) := ⟨rfl, rfl, rfl, by decide +kernel, rfl, by decide +kernel, by decide +kernel⟩
theorem bd_law_well {K : PySem.W.Frag} {f : Addr} {fd : FuncData} (F : Fun K "_law_well" "_law_well" st_law_well f fd) : Binds K fd ["_law_script", "_law_at"] [] := F.binds (ps := ["_law_script", "_law_at"]) fun _ _ _ _ _ _ us hl => match us, hl with | [_, _], _ => rfl
noncomputable def b_law_well : Sv :=
  (sSeq (sAsg (e2 gPlus (eK (.int 738107)) (e2 gTimes (eK (.int 7457)) (eVar 1))) (gNm 2))
    (sSeq (sFor (iAny (eSl (eVar 0) none (some (eK (.int 9))))) (gNm 3) (sAsg (e2 gMod (en gInt (aCons (e2 gPlus (e2 gPlus (e2 gTimes (eVar 2) (eK (.int 48023))) (e2 gMod (en gInt (aCons (eVar 3) aNil)) (eK (.int 2147483629)))) (eK (.int 5))) aNil)) (eK (.int 2147483563))) (gNm 2)))
    (sSeq (sAsg (eIf (tB' (e2 (gCmp fun i j => decide (i < j)) (eVar 1) (en gLen (aCons (eVar 0) aNil)))) (en gInt (aCons (e2 gIx (eVar 0) (eVar 1)) aNil)) (eK (.int 0))) (gNm 4))
    (sSeq (sAsg (e2 gMod (en gInt (aCons (e2 gPlus (e2 gPlus (e2 gTimes (eVar 2) (eK (.int 43))) (e2 gTimes (e2 gMod (en gInt (aCons (eVar 4) aNil)) (eK (.int 2147483629))) (eK (.int 20047)))) (eK (.int 13))) aNil)) (eK (.int 2147483563))) (gNm 2))
    (sRet (eNew (lDisp (aCons (eIf (bOr (tB' (e2 (gCmp fun i j => decide (i < j)) (eVar 4) (eK (.int 0)))) (tB' (e2 (gCmp fun i j => decide (j ≤ i)) (eVar 4) (e2 gPow (eK (.int 10)) (eK (.int 14)))))) (en gAbs (aCons (eVar 4) aNil)) (eK (.int 0))) (aCons (eVar 2) (aCons (eK (.int 0)) aNil))))))))))
noncomputable def f_law_well : GF := runD 5 b_law_well

abbrev st_law_draw : Stmt := top 42
theorem sc_law_draw : FnScope ["_law_well_here", "_law_few", "_law_seed", "_law_figure"] ["_law_well_here", "_law_few"] (defScope st_law_draw) := ⟨rfl, rfl, rfl, by decide +kernel, rfl, by decide +kernel, by decide +kernel⟩
theorem bd_law_draw {K : PySem.W.Frag} {f : Addr} {fd : FuncData} (F : Fun K "_law_draw" "_law_draw" st_law_draw f fd) : Binds K fd ["_law_well_here", "_law_few"] [] := F.binds (ps := ["_law_well_here", "_law_few"]) fun _ _ _ _ _ _ us hl => match us, hl with | [_, _], _ => rfl
noncomputable def b_law_draw : Sv :=
  (sSeq (sIf (tB' (e2 (gCmp fun i j => decide (j < i)) (e2 gIx (eVar 0) (eK (.int 0))) (eK (.int 0)))) (sSeq (sAsg (en gDivmod (aCons (e2 gIx (eVar 0) (eK (.int 0))) (aCons (eVar 1) aNil))) (gTp [(gSb (eVar 0) (eK (.int 0))), (gNm 3)]))
    (sRet (eVar 3))) sNext)
    (sSeq (sAsg (e2 gPlus (e2 gIx (eVar 0) (eK (.int 2))) (eK (.int 1))) (gSb (eVar 0) (eK (.int 2))))
    (sSeq (sAsg (e2 gMod (en gInt (aCons (e2 gPlus (e2 gIx (eVar 0) (eK (.int 1))) (e2 gTimes (eK (.int 60037)) (e2 gIx (eVar 0) (eK (.int 2))))) aNil)) (eK (.int 2147483563))) (gNm 2))
    (sSeq (sAsg (e2 gMod (en gInt (aCons (e2 gPlus (e2 gTimes (eVar 2) (e2 gPlus (e2 gMod (en gInt (aCons (eVar 2) aNil)) (eK (.int 5003))) (eK (.int 40031)))) (e2 gTimes (eK (.int 41)) (e2 gIx (eVar 0) (eK (.int 2))))) aNil)) (eK (.int 2147483563))) (gSb (eVar 0) (eK (.int 1))))
    (sRet (e2 gMod (en gInt (aCons (e2 gDiv (e2 gIx (eVar 0) (eK (.int 1))) (eK (.int 653))) aNil)) (eVar 1)))))))
noncomputable def f_law_draw : GF := runD 4 b_law_draw

abbrev st_law_pick : Stmt := top 43
theorem sc_law_pick : FnScope ["_law_well_here", "_law_some"] ["_law_well_here", "_law_some"] (defScope st_law_pick) := ⟨rfl, rfl, rfl, by decide +kernel, rfl, by decide +kernel, by decide +kernel⟩
theorem bd_law_pick {K : PySem.W.Frag} {f : Addr} {fd : FuncData} (F : Fun K "_law_pick" "_law_pick" st_law_pick f fd) : Binds K fd ["_law_well_here", "_law_some"] [] := F.binds (ps := ["_law_well_here", "_law_some"]) fun _ _ _ _ _ _ us hl => match us, hl with | [_, _], _ => rfl
noncomputable def b_law_pick : Sv :=
  (sRet (e2 gIx (eVar 1) (cF 2 f_law_draw (aCons (eVar 0) (aCons (en gLen (aCons (eVar 1) aNil)) aNil)))))
noncomputable def f_law_pick : GF := runD 2 b_law_pick

abbrev st_law_common : Stmt := top 44
theorem sc_law_common : FnScope ["_law_one", "_law_two", "_law_far", "_law_rest"] ["_law_one", "_law_two"] (defScope st_law_common) := ⟨rfl, rfl, rfl, by decide +kernel, rfl, by decide +kernel, by decide +kernel⟩
theorem bd_law_common {K : PySem.W.Frag} {f : Addr} {fd : FuncData} (F : Fun K "_law_common" "_law_common" st_law_common f fd) : Binds K fd ["_law_one", "_law_two"] [] := F.binds (ps := ["_law_one", "_law_two"]) fun _ _ _ _ _ _ us hl => match us, hl with | [_, _], _ => rfl
noncomputable def b_law_common : Sv :=
  (sSeq (sPar 2 3 (aCons (en gAbs (aCons (eVar 0) aNil)) (aCons (en gAbs (aCons (eVar 1) aNil)) aNil)))
    (sSeq (sWhile (tB' (e2 (gEq true) (eVar 3) (eK (.int 0)))) (sPar 2 3 (aCons (eVar 3) (aCons (e2 gMod (en gInt (aCons (eVar 2) aNil)) (eVar 3)) aNil))))
    (sRet (eVar 2))))
noncomputable def f_law_common : GF := runD 4 b_law_common

abbrev st_law_lean : Stmt := top 45
theorem sc_law_lean : FnScope ["_law_top", "_law_base", "_law_far"] ["_law_top", "_law_base"] (defScope st_law_lean) := ⟨rfl, rfl, rfl, by decide +kernel, rfl, by decide +kernel, by decide +kernel⟩
theorem bd_law_lean {K : PySem.W.Frag} {f : Addr} {fd : FuncData} (F : Fun K "_law_lean" "_law_lean" st_law_lean f fd) : Binds K fd ["_law_top", "_law_base"] [] := F.binds (ps := ["_law_top", "_law_base"]) fun _ _ _ _ _ _ us hl => match us, hl with | [_, _], _ => rfl
noncomputable def b_law_lean : Sv :=
  (sSeq (sAsg (eIf (tB' (e2 (gCmp fun i j => decide (j < i)) (eVar 1) (eK (.int 0)))) (cF 2 f_law_common (aCons (eVar 0) (aCons (eVar 1) aNil))) (e2 gSub (eK (.int 0)) (cF 2 f_law_common (aCons (eVar 0) (aCons (eVar 1) aNil))))) (gNm 2))
    (sRet (eTup (aCons (e2 gDiv (eVar 0) (eVar 2)) (aCons (e2 gDiv (eVar 1) (eVar 2)) aNil)))))
noncomputable def f_law_lean : GF := runD 3 b_law_lean

abbrev st_law_small : Stmt := top 46
theorem sc_law_small : FnScope ["_law_well_here", "_law_branch"] ["_law_well_here"] (defScope st_law_small) := ⟨rfl, rfl, rfl, by decide +kernel, rfl, by decide +kernel, by decide +kernel⟩
theorem bd_law_small {K : PySem.W.Frag} {f : Addr} {fd : FuncData} (F : Fun K "_law_small" "_law_small" st_law_small f fd) : Binds K fd ["_law_well_here"] [] := F.binds (ps := ["_law_well_here"]) fun _ _ _ _ _ _ us hl => match us, hl with | [_], _ => rfl
noncomputable def b_law_small : Sv :=
  (sSeq (sAsg (cF 2 f_law_draw (aCons (eVar 0) (aCons (eK (.int 12)) aNil))) (gNm 1))
    (sSeq (sIf (tB' (e2 (gCmp fun i j => decide (i < j)) (eVar 1) (eK (.int 9)))) (sRet (e2 gSub (cF 2 f_law_draw (aCons (eVar 0) (aCons (eK (.int 9)) aNil))) (eK (.int 4)))) sNext)
    (sRet (eIf (tB' (e2 (gCmp fun i j => decide (i < j)) (eVar 1) (eK (.int 11)))) (e2 gSub (cF 2 f_law_draw (aCons (eVar 0) (aCons (eK (.int 61)) aNil))) (eK (.int 30))) (e2 gSub (cF 2 f_law_draw (aCons (eVar 0) (aCons (eK (.int 2000001)) aNil))) (eK (.int 1000000)))))))
noncomputable def f_law_small : GF := runD 2 b_law_small

abbrev st_law_part : Stmt := top 47
theorem sc_law_part : FnScope ["_law_well_here", "_law_top"] ["_law_well_here"] (defScope st_law_part) := ⟨rfl, rfl, rfl, by decide +kernel, rfl, by decide +kernel, by decide +kernel⟩
theorem bd_law_part {K : PySem.W.Frag} {f : Addr} {fd : FuncData} (F : Fun K "_law_part" "_law_part" st_law_part f fd) : Binds K fd ["_law_well_here"] [] := F.binds (ps := ["_law_well_here"]) fun _ _ _ _ _ _ us hl => match us, hl with | [_], _ => rfl
noncomputable def b_law_part : Sv :=
  (sSeq (sAsg (cF 1 f_law_small (aCons (eVar 0) aNil)) (gNm 1))
    (sRet (cF 2 f_law_lean (aCons (eVar 1) (aCons (cF 2 f_law_pick (aCons (eVar 0) (aCons (eTup (aCons (eK (.int 1)) (aCons (eK (.int 1)) (aCons (eK (.int 1)) (aCons (eK (.int 2)) (aCons (eK (.int 3)) (aCons (eK (.int 1)) (aCons (eK (.int 4)) (aCons (eK (.int 7)) aNil))))))))) aNil))) aNil)))))
noncomputable def f_law_part : GF := runD 2 b_law_part

abbrev st_law_trim : Stmt := top 48
theorem sc_law_trim : FnScope ["_law_some", "_law_found"] ["_law_some"] (defScope st_law_trim) := ⟨rfl, rfl, rfl, by decide +kernel, rfl, by decide +kernel, by decide +kernel⟩
theorem bd_law_trim {K : PySem.W.Frag} {f : Addr} {fd : FuncData} (F : Fun K "_law_trim" "_law_trim" st_law_trim f fd) : Binds K fd ["_law_some"] [] := F.binds (ps := ["_law_some"]) fun _ _ _ _ _ _ us hl => match us, hl with | [_], _ => rfl
noncomputable def b_law_trim : Sv :=
  (sSeq (sAsg (eNew (lList (aCons (eVar 0) aNil))) (gNm 1))
    (sSeq (sWhile (bAnd (tB' (e2 (gEq true) (eVar 1) (eFrz (lDisp aNil)))) (tB' (e2 (gEq false) (e2 gIx (eVar 1) (e1 gNeg (eK (.int 1)))) (eK (.int 0))))) (sExpr (e1 gPop (eVar 1))))
    (sRet (en gTuple (aCons (eVar 1) aNil)))))
noncomputable def f_law_trim : GF := runD 2 b_law_trim

abbrev st_law_line : Stmt := top 49
theorem sc_law_line : FnScope ["_law_well_here", "_law_few", "_law_found", "_law_spot"] ["_law_well_here", "_law_few"] (defScope st_law_line) := ⟨rfl, rfl, rfl, by decide +kernel, rfl, by decide +kernel, by decide +kernel⟩
theorem bd_law_line {K : PySem.W.Frag} {f : Addr} {fd : FuncData} (F : Fun K "_law_line" "_law_line" st_law_line f fd) : Binds K fd ["_law_well_here", "_law_few"] [] := F.binds (ps := ["_law_well_here", "_law_few"]) fun _ _ _ _ _ _ us hl => match us, hl with | [_, _], _ => rfl
noncomputable def b_law_line : Sv :=
  (sSeq (sAsg (eNew (lDisp aNil)) (gNm 2))
    (sSeq (sFor (iR1 (aCons (cF 2 f_law_draw (aCons (eVar 0) (aCons (e2 gPlus (eVar 1) (eK (.int 1))) aNil))) aNil)) (gNm 3) (sExpr (eMeth1 gApp (eVar 2) (aCons (cF 1 f_law_small (aCons (eVar 0) aNil)) aNil))))
    (sRet (cF 1 f_law_trim (aCons (eVar 2) aNil)))))
noncomputable def f_law_line : GF := runD 4 b_law_line

abbrev st_law_sum : Stmt := top 50
theorem sc_law_sum : FnScope ["_law_one", "_law_two", "_law_few", "_law_far", "_law_rest", "_law_at"] ["_law_one", "_law_two"] (defScope st_law_sum) := ⟨rfl, rfl, rfl, by decide +kernel, rfl, by decide +kernel, by decide +kernel⟩
theorem bd_law_sum {K : PySem.W.Frag} {f : Addr} {fd : FuncData} (F : Fun K "_law_sum" "_law_sum" st_law_sum f fd) : Binds K fd ["_law_one", "_law_two"] [] := F.binds (ps := ["_law_one", "_law_two"]) fun _ _ _ _ _ _ us hl => match us, hl with | [_, _], _ => rfl
noncomputable def b_law_sum : Sv :=
  (sSeq (sAsg (en gMax (aCons (en gLen (aCons (eVar 0) aNil)) (aCons (en gLen (aCons (eVar 1) aNil)) aNil))) (gNm 2))
    (sSeq (sAsg (e2 gPlus (eFrz (lList (aCons (eVar 0) aNil))) (eFrz (lRep (eFrz (lDisp (aCons (eK (.int 0)) aNil))) (e2 gSub (eVar 2) (en gLen (aCons (eVar 0) aNil)))))) (gNm 3))
    (sSeq (sAsg (e2 gPlus (eFrz (lList (aCons (eVar 1) aNil))) (eFrz (lRep (eFrz (lDisp (aCons (eK (.int 0)) aNil))) (e2 gSub (eVar 2) (en gLen (aCons (eVar 1) aNil)))))) (gNm 4))
    (sRet (cF 1 f_law_trim (aCons (eFrz (lLc (iR1 (aCons (eVar 2) aNil)) (gNm 5) bYes (e2 gPlus (e2 gIx (eVar 3) (eVar 5)) (e2 gIx (eVar 4) (eVar 5))) [5])) aNil))))))
noncomputable def f_law_sum : GF := runD 6 b_law_sum

abbrev st_law_scaled : Stmt := top 51
theorem sc_law_scaled : FnScope ["_law_line_here", "_law_by", "_law_each"] ["_law_line_here", "_law_by"] (defScope st_law_scaled) := ⟨rfl, rfl, rfl, by decide +kernel, rfl, by decide +kernel, by decide +kernel⟩
theorem bd_law_scaled {K : PySem.W.Frag} {f : Addr} {fd : FuncData} (F : Fun K "_law_scaled" "_law_scaled" st_law_scaled f fd) : Binds K fd ["_law_line_here", "_law_by"] [] := F.binds (ps := ["_law_line_here", "_law_by"]) fun _ _ _ _ _ _ us hl => match us, hl with | [_, _], _ => rfl
noncomputable def b_law_scaled : Sv :=
  (sRet (cF 1 f_law_trim (aCons (eFrz (lLc (iAny (eVar 0)) (gNm 2) bYes (e2 gTimes (eVar 1) (eVar 2)) [2])) aNil)))
noncomputable def f_law_scaled : GF := runD 3 b_law_scaled

abbrev st_law_product : Stmt := top 52
theorem sc_law_product : FnScope ["_law_one", "_law_two", "_law_found", "_law_at", "_law_here", "_law_to", "_law_there"] ["_law_one", "_law_two"] (defScope st_law_product) := ⟨rfl, rfl, rfl, by decide +kernel, rfl, by decide +kernel, by decide +kernel⟩
theorem bd_law_product {K : PySem.W.Frag} {f : Addr} {fd : FuncData} (F : Fun K "_law_product" "_law_product" st_law_product f fd) : Binds K fd ["_law_one", "_law_two"] [] := F.binds (ps := ["_law_one", "_law_two"]) fun _ _ _ _ _ _ us hl => match us, hl with | [_, _], _ => rfl
noncomputable def b_law_product : Sv :=
  (sSeq (sAsg (eNew (lRep (eFrz (lDisp (aCons (eK (.int 0)) aNil))) (e2 gPlus (en gLen (aCons (eVar 0) aNil)) (en gLen (aCons (eVar 1) aNil))))) (gNm 2))
    (sSeq (sFor (iEnumT (aCons (eVar 0) aNil)) (gTp [(gNm 3), (gNm 4)]) (sFor (iEnumT (aCons (eVar 1) aNil)) (gTp [(gNm 5), (gNm 6)]) (sAsg (e2 gPlus (e2 gIx (eVar 2) (e2 gPlus (eVar 3) (eVar 5))) (e2 gTimes (eVar 4) (eVar 6))) (gSb (eVar 2) (e2 gPlus (eVar 3) (eVar 5))))))
    (sRet (cF 1 f_law_trim (aCons (eVar 2) aNil)))))
noncomputable def f_law_product : GF := runD 7 b_law_product

abbrev st_law_slope : Stmt := top 53
theorem sc_law_slope : FnScope ["_law_line_here", "_law_at", "_law_each"] ["_law_line_here"] (defScope st_law_slope) := ⟨rfl, rfl, rfl, by decide +kernel, rfl, by decide +kernel, by decide +kernel⟩
theorem bd_law_slope {K : PySem.W.Frag} {f : Addr} {fd : FuncData} (F : Fun K "_law_slope" "_law_slope" st_law_slope f fd) : Binds K fd ["_law_line_here"] [] := F.binds (ps := ["_law_line_here"]) fun _ _ _ _ _ _ us hl => match us, hl with | [_], _ => rfl
noncomputable def b_law_slope : Sv :=
  (sRet (en gTuple (aCons (eFrz (lLc (iEnumT (aCons (eVar 0) aNil)) (gTp [(gNm 1), (gNm 2)]) (tB' (e2 (gCmp fun i j => decide (j < i)) (eVar 1) (eK (.int 0)))) (e2 gTimes (eVar 1) (eVar 2)) [1, 2])) aNil)))
noncomputable def f_law_slope : GF := runD 3 b_law_slope

abbrev st_law_value : Stmt := top 54
theorem sc_law_value : FnScope ["_law_line_here", "_law_part_here", "_law_each", "_law_found", "_law_by"] ["_law_line_here", "_law_part_here"] (defScope st_law_value) := ⟨rfl, rfl, rfl, by decide +kernel, rfl, by decide +kernel, by decide +kernel⟩
theorem bd_law_value {K : PySem.W.Frag} {f : Addr} {fd : FuncData} (F : Fun K "_law_value" "_law_value" st_law_value f fd) : Binds K fd ["_law_line_here", "_law_part_here"] [] := F.binds (ps := ["_law_line_here", "_law_part_here"]) fun _ _ _ _ _ _ us hl => match us, hl with | [_, _], _ => rfl
noncomputable def b_law_value : Sv :=
  (sSeq (sAsg (eTup (aCons (eK (.int 0)) (aCons (eK (.int 1)) aNil))) (gTp [(gNm 3), (gNm 4)]))
    (sSeq (sFor (iAny (e1 gRev (eVar 0))) (gNm 2) (sPar 3 4 (aCons (e2 gPlus (e2 gTimes (eVar 3) (e2 gIx (eVar 1) (eK (.int 0)))) (e2 gTimes (eVar 2) (eVar 4))) (aCons (e2 gTimes (eVar 4) (e2 gIx (eVar 1) (eK (.int 1)))) aNil))))
    (sRet (eVar 3))))
noncomputable def f_law_value : GF := runD 5 b_law_value

abbrev st_law_worth : Stmt := top 55
theorem sc_law_worth : FnScope ["_law_line_here", "_law_part_here", "_law_base", "_law_each"] ["_law_line_here", "_law_part_here"] (defScope st_law_worth) := ⟨rfl, rfl, rfl, by decide +kernel, rfl, by decide +kernel, by decide +kernel⟩
theorem bd_law_worth {K : PySem.W.Frag} {f : Addr} {fd : FuncData} (F : Fun K "_law_worth" "_law_worth" st_law_worth f fd) : Binds K fd ["_law_line_here", "_law_part_here"] [] := F.binds (ps := ["_law_line_here", "_law_part_here"]) fun _ _ _ _ _ _ us hl => match us, hl with | [_, _], _ => rfl
noncomputable def b_law_worth : Sv :=
  (sSeq (sAsg (eK (.int 1)) (gNm 2))
    (sSeq (sFor (iAny (eSl (eVar 0) (some (eK (.int 1))) none)) (gNm 3) (sAsg (e2 gTimes (eVar 2) (e2 gIx (eVar 1) (eK (.int 1)))) (gNm 2)))
    (sRet (cF 2 f_law_lean (aCons (cF 2 f_law_value (aCons (eVar 0) (aCons (eVar 1) aNil))) (aCons (eVar 2) aNil))))))
noncomputable def f_law_worth : GF := runD 4 b_law_worth

abbrev st_law_thin : Stmt := top 56
theorem sc_law_thin : FnScope ["_law_line_here", "_law_far", "_law_each"] ["_law_line_here"] (defScope st_law_thin) := ⟨rfl, rfl, rfl, by decide +kernel, rfl, by decide +kernel, by decide +kernel⟩
theorem bd_law_thin {K : PySem.W.Frag} {f : Addr} {fd : FuncData} (F : Fun K "_law_thin" "_law_thin" st_law_thin f fd) : Binds K fd ["_law_line_here"] [] := F.binds (ps := ["_law_line_here"]) fun _ _ _ _ _ _ us hl => match us, hl with | [_], _ => rfl
noncomputable def b_law_thin : Sv :=
  (sSeq (sAsg (eK (.int 0)) (gNm 1))
    (sSeq (sFor (iAny (eVar 0)) (gNm 2) (sAsg (cF 2 f_law_common (aCons (eVar 1) (aCons (eVar 2) aNil))) (gNm 1)))
    (sRet (en gTuple (aCons (eFrz (lLc (iAny (eVar 0)) (gNm 2) bYes (e2 gDiv (eVar 2) (eVar 1)) [2])) aNil)))))
noncomputable def f_law_thin : GF := runD 3 b_law_thin

abbrev st_law_prime : Stmt := top 57
theorem sc_law_prime : FnScope ["_law_line_here", "_law_found", "_law_each"] ["_law_line_here"] (defScope st_law_prime) := ⟨rfl, rfl, rfl, by decide +kernel, rfl, by decide +kernel, by decide +kernel⟩
theorem bd_law_prime {K : PySem.W.Frag} {f : Addr} {fd : FuncData} (F : Fun K "_law_prime" "_law_prime" st_law_prime f fd) : Binds K fd ["_law_line_here"] [] := F.binds (ps := ["_law_line_here"]) fun _ _ _ _ _ _ us hl => match us, hl with | [_], _ => rfl
noncomputable def b_law_prime : Sv :=
  (sSeq (sAsg (cF 1 f_law_thin (aCons (eVar 0) aNil)) (gNm 1))
    (sRet (eIf (bOr (tB' (e2 (gEq false) (eVar 0) (eTup aNil))) (tB' (e2 (gCmp fun i j => decide (j < i)) (e2 gIx (eVar 0) (e1 gNeg (eK (.int 1)))) (eK (.int 0))))) (eVar 1) (en gTuple (aCons (eFrz (lLc (iAny (eVar 1)) (gNm 2) bYes (e2 gSub (eK (.int 0)) (eVar 2)) [2])) aNil)))))
noncomputable def f_law_prime : GF := runD 3 b_law_prime

abbrev st_law_is_whole : Stmt := top 58
theorem sc_law_is_whole : FnScope ["_law_thing"] ["_law_thing"] (defScope st_law_is_whole) := ⟨rfl, rfl, rfl, by decide +kernel, rfl, by decide +kernel, by decide +kernel⟩
theorem bd_law_is_whole {K : PySem.W.Frag} {f : Addr} {fd : FuncData} (F : Fun K "_law_is_whole" "_law_is_whole" st_law_is_whole f fd) : Binds K fd ["_law_thing"] [] := F.binds (ps := ["_law_thing"]) fun _ _ _ _ _ _ us hl => match us, hl with | [_], _ => rfl
noncomputable def b_law_is_whole : Sv :=
  (sRet (eAnd (e1 (gIsi "int") (eVar 0)) (eNot (e1 (gIsi "bool") (eVar 0)))))
noncomputable def f_law_is_whole : GF := runD 1 b_law_is_whole

abbrev st_law_is_row : Stmt := top 59
theorem sc_law_is_row : FnScope ["_law_thing", "_law_each"] ["_law_thing"] (defScope st_law_is_row) := ⟨rfl, rfl, rfl, by decide +kernel, rfl, by decide +kernel, by decide +kernel⟩
theorem bd_law_is_row {K : PySem.W.Frag} {f : Addr} {fd : FuncData} (F : Fun K "_law_is_row" "_law_is_row" st_law_is_row f fd) : Binds K fd ["_law_thing"] [] := F.binds (ps := ["_law_thing"]) fun _ _ _ _ _ _ us hl => match us, hl with | [_], _ => rfl
noncomputable def b_law_is_row : Sv :=
  (sSeq (sIf (bOr (bNot (tB' (e1 (gIsi "tuple") (eVar 0)))) (bNot (tB' (en gAll (aCons (eFrz (lLc (iAny (eVar 0)) (gNm 1) bYes (cF 1 f_law_is_whole (aCons (eVar 1) aNil)) [1])) aNil))))) (sRet (eK (.bool false))) sNext)
    (sRet (eOr (e2 (gEq false) (eVar 0) (eTup aNil)) (e2 (gEq true) (e2 gIx (eVar 0) (e1 gNeg (eK (.int 1)))) (eK (.int 0))))))
noncomputable def f_law_is_row : GF := runD 2 b_law_is_row

abbrev st_law_odd : Stmt := top 60
theorem sc_law_odd : FnScope ["_law_well_here"] ["_law_well_here"] (defScope st_law_odd) := ⟨rfl, rfl, rfl, by decide +kernel, rfl, by decide +kernel, by decide +kernel⟩
theorem bd_law_odd {K : PySem.W.Frag} {f : Addr} {fd : FuncData} (F : Fun K "_law_odd" "_law_odd" st_law_odd f fd) : Binds K fd ["_law_well_here"] [] := F.binds (ps := ["_law_well_here"]) fun _ _ _ _ _ _ us hl => match us, hl with | [_], _ => rfl
noncomputable def b_law_odd : Sv :=
  (sRet (cF 2 f_law_pick (aCons (eVar 0) (aCons (eTup (aCons (eK .none) (aCons (eK (.bool true)) (aCons (eK (.bool false)) (aCons (eK (.int 0)) (aCons (eK (.int 1)) (aCons (e1 gNeg (eK (.int 1))) (aCons (eK (.int 3)) (aCons (e2 gPow (eK (.int 10)) (eK (.int 25))) (aCons (eK (.str "")) (aCons (eK (.str "x")) (aCons (eK (.str "below")) (aCons (eTup aNil) (aCons (eTup (aCons (eK (.int 0)) aNil)) (aCons (eTup (aCons (eK (.int 1)) aNil)) (aCons (eTup (aCons (eK (.int 0)) (aCons (eK (.int 1)) aNil))) (aCons (eTup (aCons (eK (.int 1)) (aCons (eK (.int 1)) aNil))) (aCons (eTup (aCons (eK (.int 2)) (aCons (eK (.int 2)) aNil))) (aCons (eTup (aCons (eK (.int 0)) (aCons (eK (.int 3)) aNil))) (aCons (eTup (aCons (eK (.int 1)) (aCons (eK (.int 0)) aNil))) (aCons (eTup (aCons (eK (.int 3)) (aCons (e1 gNeg (eK (.int 2))) aNil))) (aCons (eTup (aCons (eK (.bool true)) (aCons (eK (.int 1)) aNil))) (aCons (eTup (aCons (eK (.int 0)) (aCons (eK (.bool true)) aNil))) (aCons (eTup (aCons (eK (.int 1)) (aCons (eK (.int 1)) (aCons (eK (.int 1)) aNil)))) (aCons (eTup (aCons (eK (.int 0)) (aCons (eK (.int 0)) (aCons (eK (.int 1)) aNil)))) (aCons (eTup (aCons (eTup aNil) aNil)) (aCons (eTup (aCons (eTup (aCons (eK (.int 0)) (aCons (eK (.int 1)) aNil))) aNil)) (aCons (eTup (aCons (eTup (aCons (eK (.int 0)) (aCons (eK (.int 1)) aNil))) (aCons (eTup (aCons (eK (.int 0)) (aCons (eK (.int 1)) aNil))) aNil))) (aCons (eTup (aCons (eTup (aCons (eK (.int 1)) aNil)) (aCons (eTup (aCons (eK (.int 0)) (aCons (eK (.int 1)) aNil))) aNil))) (aCons (eFrz (lDisp aNil)) (aCons (eFrz (lDisp (aCons (eK (.int 0)) (aCons (eK (.int 1)) aNil)))) (aCons (eFrz (lDisp (aCons (eTup (aCons (eK (.int 0)) (aCons (eK (.int 1)) aNil))) aNil))) (aCons eDic (aCons (eTup (aCons (eK .none) (aCons (eK (.int 1)) aNil))) (aCons (eTup (aCons (eK (.str "0")) (aCons (eK (.int 1)) aNil))) (aCons (eTup (aCons (eTup (aCons (e1 gNeg (eK (.int 2))) (aCons (eK (.int 0)) (aCons (eK (.int 1)) aNil)))) (aCons (eK (.int 1)) aNil))) (aCons (eTup (aCons (eTup (aCons (e1 gNeg (eK (.int 2))) (aCons (eK (.int 0)) (aCons (eK (.int 1)) aNil)))) (aCons (eK (.int 2)) aNil))) (aCons (eTup (aCons (eTup (aCons (e1 gNeg (eK (.int 2))) (aCons (eK (.int 0)) (aCons (eK (.int 1)) aNil)))) (aCons (eK (.bool true)) aNil))) (aCons (eTup (aCons (eTup (aCons (e1 gNeg (eK (.int 2))) (aCons (eK (.int 0)) (aCons (eK (.int 1)) aNil)))) (aCons (e1 gNeg (eK (.int 1))) aNil))) (aCons (eTup (aCons (eTup (aCons (eK (.int 2)) (aCons (eK (.int 0)) (aCons (e1 gNeg (eK (.int 1))) aNil)))) (aCons (eK (.int 0)) aNil))) (aCons (eTup (aCons (eTup (aCons (e1 gNeg (eK (.int 4))) (aCons (eK (.int 0)) (aCons (eK (.int 2)) aNil)))) (aCons (eK (.int 1)) aNil))) (aCons (eTup (aCons (eTup (aCons (e1 gNeg (eK (.int 1))) (aCons (eK (.int 0)) (aCons (eK (.int 1)) aNil)))) (aCons (eK (.int 0)) aNil))) (aCons (eTup (aCons (eTup (aCons (eK (.int 4)) (aCons (eK (.int 0)) (aCons (e1 gNeg (eK (.int 4))) (aCons (eK (.int 0)) (aCons (eK (.int 1)) aNil)))))) (aCons (eK (.int 1)) aNil))) (aCons (eTup (aCons (eTup aNil) (aCons (eTup (aCons (eK (.bool true)) aNil)) aNil))) (aCons (eTup (aCons (eTup aNil) (aCons (eTup (aCons (eK (.int 1)) aNil)) aNil))) (aCons (eTup (aCons (eTup (aCons (eTup (aCons (eK (.int 0)) (aCons (eK (.int 1)) aNil))) aNil)) (aCons (eTup (aCons (eK (.bool true)) (aCons (eK (.bool true)) (aCons (eK (.bool true)) aNil)))) aNil))) (aCons (eTup (aCons (eK (.str "true")) aNil)) (aCons (eK (.str "not at")) (aCons (eTup (aCons (eK (.int 1)) (aCons (eK (.int 2)) aNil))) (aCons (eTup (aCons (eTup (aCons (eTup (aCons (eK (.int 0)) (aCons (eK (.int 1)) aNil))) aNil)) (aCons (eTup (aCons (eK (.bool false)) (aCons (eK (.bool true)) (aCons (eK (.bool true)) aNil)))) aNil))) (aCons (eTup (aCons (eK (.str "below")) (aCons (eTup (aCons (eTup (aCons (eK (.int 0)) (aCons (eK (.int 1)) aNil))) aNil)) aNil))) (aCons (eTup (aCons (eFrz (lDisp (aCons (eK (.int 0)) (aCons (eK (.int 1)) aNil)))) (aCons (eK (.int 1)) aNil))) (aCons (eTup (aCons (eTup (aCons (eK (.int 0)) (aCons (eK (.int 1)) aNil))) (aCons (eTup aNil) aNil))) aNil))))))))))))))))))))))))))))))))))))))))))))))))))))) aNil))))
noncomputable def f_law_odd : GF := runD 1 b_law_odd

abbrev st_law_bent : Stmt := top 61
theorem sc_law_bent : FnScope ["_law_well_here", "_law_thing", "_law_branch", "_law_spot"] ["_law_well_here", "_law_thing"] (defScope st_law_bent) := ⟨rfl, rfl, rfl, by decide +kernel, rfl, by decide +kernel, by decide +kernel⟩
theorem bd_law_bent {K : PySem.W.Frag} {f : Addr} {fd : FuncData} (F : Fun K "_law_bent" "_law_bent" st_law_bent f fd) : Binds K fd ["_law_well_here", "_law_thing"] [] := F.binds (ps := ["_law_well_here", "_law_thing"]) fun _ _ _ _ _ _ us hl => match us, hl with | [_, _], _ => rfl
noncomputable def b_law_bent (rec : GF) : Sv :=
  (sSeq (sIf (bAnd (tB' (e1 (gIsi "tuple") (eVar 1))) (bAnd (tB' (e2 (gEq true) (eVar 1) (eTup aNil))) (tB' (e2 (gCmp fun i j => decide (j < i)) (cF 2 f_law_draw (aCons (eVar 0) (aCons (eK (.int 4)) aNil))) (eK (.int 0)))))) (sSeq (sAsg (cF 2 f_law_draw (aCons (eVar 0) (aCons (en gLen (aCons (eVar 1) aNil)) aNil))) (gNm 3))
    (sRet (e2 gPlus (e2 gPlus (eSl (eVar 1) none (some (eVar 3))) (eTup (aCons (cF 2 rec (aCons (eVar 0) (aCons (e2 gIx (eVar 1) (eVar 3)) aNil))) aNil))) (eSl (eVar 1) (some (e2 gPlus (eVar 3) (eK (.int 1)))) none)))) sNext)
    (sSeq (sAsg (cF 2 f_law_draw (aCons (eVar 0) (aCons (eK (.int 9)) aNil))) (gNm 2))
    (sSeq (sIf (bAnd (tB' (e1 (gIsi "tuple") (eVar 1))) (tB' (e2 (gCmp fun i j => decide (i < j)) (eVar 2) (eK (.int 6))))) (sRet (e2 gIx (eTup (aCons (eFrz (lList (aCons (eVar 1) aNil))) (aCons (eSl (eVar 1) none (some (e1 gNeg (eK (.int 1))))) (aCons (e2 gPlus (eVar 1) (eSl (eVar 1) (some (e1 gNeg (eK (.int 1)))) none)) (aCons (e1 gRev (eVar 1)) (aCons (eSl (eVar 1) (some (eK (.int 1))) none) (aCons (e2 gPlus (eSl (eVar 1) none (some (eK (.int 1)))) (eVar 1)) aNil))))))) (eVar 2))) sNext)
    (sSeq (sIf (bAnd (tB' (e1 (gIsi "int") (eVar 1))) (tB' (e2 (gCmp fun i j => decide (i < j)) (eVar 2) (eK (.int 5))))) (sRet (e2 gIx (eTup (aCons (e2 gPlus (eVar 1) (eK (.int 1))) (aCons (e2 gSub (eK (.int 0)) (eVar 1)) (aCons (e2 gTimes (eK (.int 2)) (eVar 1)) (aCons (e2 gSub (eVar 1) (eK (.int 2))) (aCons (e2 (gEq false) (eVar 1) (eK (.int 1))) aNil)))))) (eVar 2))) sNext)
    (sRet (cF 1 f_law_odd (aCons (eVar 0) aNil)))))))
noncomputable def f_law_bent : Nat → GF
  | 0 => fun _ _ => .bad
  | n + 1 => runD 4 (b_law_bent (f_law_bent n))

abbrev st_law_turned : Stmt := top 62
theorem sc_law_turned : FnScope ["_law_well_here", "_law_one", "_law_spot", "_law_low", "_law_at", "_law_each"] ["_law_well_here", "_law_one"] (defScope st_law_turned) := ⟨rfl, rfl, rfl, by decide +kernel, rfl, by decide +kernel, by decide +kernel⟩
theorem bd_law_turned {K : PySem.W.Frag} {f : Addr} {fd : FuncData} (F : Fun K "_law_turned" "_law_turned" st_law_turned f fd) : Binds K fd ["_law_well_here", "_law_one"] [] := F.binds (ps := ["_law_well_here", "_law_one"]) fun _ _ _ _ _ _ us hl => match us, hl with | [_, _], _ => rfl
noncomputable def b_law_turned : Sv :=
  (sSeq (sAsg (cF 2 f_law_draw (aCons (eVar 0) (aCons (e2 gPlus (en gLen (aCons (eVar 1) aNil)) (eK (.int 1))) aNil))) (gNm 2))
    (sSeq (sAsg (eNew (lDisp aNil)) (gNm 3))
    (sSeq (sFor (iR1 (aCons (eVar 2) aNil)) (gNm 4) (sExpr (eMeth1 gApp (eVar 3) (aCons (cF 1 f_law_small (aCons (eVar 0) aNil)) aNil))))
    (sRet (cF 1 f_law_trim (aCons (e2 gPlus (eVar 3) (eFrz (lLc (iAny (eSl (eVar 1) (some (eVar 2)) none)) (gNm 5) bYes (e2 gSub (eK (.int 0)) (eVar 5)) [5]))) aNil))))))
noncomputable def f_law_turned : GF := runD 6 b_law_turned

abbrev st_law_put_in : Stmt := top 63
theorem sc_law_put_in : FnScope ["_law_one", "_law_two", "_law_found", "_law_each"] ["_law_one", "_law_two"] (defScope st_law_put_in) := ⟨rfl, rfl, rfl, by decide +kernel, rfl, by decide +kernel, by decide +kernel⟩
theorem bd_law_put_in {K : PySem.W.Frag} {f : Addr} {fd : FuncData} (F : Fun K "_law_put_in" "_law_put_in" st_law_put_in f fd) : Binds K fd ["_law_one", "_law_two"] [] := F.binds (ps := ["_law_one", "_law_two"]) fun _ _ _ _ _ _ us hl => match us, hl with | [_, _], _ => rfl
noncomputable def b_law_put_in : Sv :=
  (sSeq (sAsg (eTup aNil) (gNm 2))
    (sSeq (sFor (iAny (e1 gRev (eVar 0))) (gNm 3) (sAsg (cF 2 f_law_sum (aCons (cF 2 f_law_product (aCons (eVar 2) (aCons (eVar 1) aNil))) (aCons (cF 1 f_law_trim (aCons (eTup (aCons (eVar 3) aNil)) aNil)) aNil))) (gNm 2)))
    (sRet (eVar 2))))
noncomputable def f_law_put_in : GF := runD 4 b_law_put_in

abbrev st_law_right : Stmt := top 64
theorem sc_law_right : FnScope ["_law_well_here", "_law_two", "_law_due", "_law_told", "_law_some", "_law_one", "_law_part_here", "_law_each"] ["_law_well_here"] (defScope st_law_right) := ⟨rfl, rfl, rfl, by decide +kernel, rfl, by decide +kernel, by decide +kernel⟩
theorem bd_law_right {K : PySem.W.Frag} {f : Addr} {fd : FuncData} (F : Fun K "_law_right" "_law_right" st_law_right f fd) : Binds K fd ["_law_well_here"] [] := F.binds (ps := ["_law_well_here"]) fun _ _ _ _ _ _ us hl => match us, hl with | [_], _ => rfl
noncomputable def b_law_right : Sv :=
  (sSeq (sPar 5 6 (aCons (cF 2 f_law_line (aCons (eVar 0) (aCons (eK (.int 5)) aNil))) (aCons (cF 1 f_law_part (aCons (eVar 0) aNil)) aNil)))
    (sSeq (sAsg (eIf (tB' (e2 (gEq false) (cF 2 f_law_draw (aCons (eVar 0) (aCons (eK (.int 3)) aNil))) (eK (.int 0)))) (cF 2 f_law_turned (aCons (eVar 0) (aCons (eVar 5) aNil))) (cF 2 f_law_line (aCons (eVar 0) (aCons (eK (.int 4)) aNil)))) (gNm 1))
    (sSeq (sAsg (eFrz (lDisp (aCons (cF 2 f_law_sum (aCons (eVar 5) (aCons (eVar 1) aNil))) (aCons (cF 2 f_law_sum (aCons (eVar 5) (aCons (cF 2 f_law_scaled (aCons (eVar 1) (aCons (e2 gSub (eK (.int 0)) (eK (.int 1))) aNil))) aNil))) (aCons (cF 2 f_law_product (aCons (eVar 5) (aCons (eVar 1) aNil))) (aCons (cF 1 f_law_slope (aCons (eVar 5) aNil)) aNil)))))) (gNm 2))
    (sSeq (sAsg (e2 gPlus (eVar 2) (eFrz (lDisp (aCons (cF 2 f_law_worth (aCons (eVar 5) (aCons (eVar 6) aNil))) (aCons (cF 1 f_law_prime (aCons (eVar 5) aNil)) (aCons (cF 2 f_law_put_in (aCons (eVar 5) (aCons (eVar 1) aNil))) (aCons (cF 2 f_law_put_in (aCons (eVar 1) (aCons (eVar 5) aNil))) aNil))))))) (gNm 2))
    (sSeq (sAsg (eFrz (lDisp (aCons (cF 2 f_plus (aCons (eVar 5) (aCons (eVar 1) aNil))) (aCons (cF 2 f_less (aCons (eVar 5) (aCons (eVar 1) aNil))) (aCons (cF 2 f_times (aCons (eVar 5) (aCons (eVar 1) aNil))) (aCons (cF 1 f_derivative (aCons (eVar 5) aNil)) aNil)))))) (gNm 3))
    (sSeq (sAsg (e2 gPlus (eVar 3) (eFrz (lDisp (aCons (cF 2 f_value_at (aCons (eVar 5) (aCons (eVar 6) aNil))) (aCons (cF 1 f_prime_part (aCons (eVar 5) aNil)) (aCons (cF 2 f_put_in (aCons (eVar 5) (aCons (eVar 1) aNil))) (aCons (cF 2 f_put_in (aCons (eVar 1) (aCons (eVar 5) aNil))) aNil))))))) (gNm 3))
    (sSeq (sIf (tB' (e2 (gEq true) (en gRepr (aCons (eVar 3) aNil)) (en gRepr (aCons (eVar 2) aNil)))) (sRet (eK (.bool false))) sNext)
    (sSeq (sAsg (eFrz (lDisp (aCons (cFK [1, 0] 2 f_plus (aCons (eVar 1) (aCons (eVar 5) aNil))) (aCons (cFK [1, 0] 2 f_less (aCons (eVar 1) (aCons (eVar 5) aNil))) (aCons (cFK [1, 0] 2 f_times (aCons (eVar 1) (aCons (eVar 5) aNil))) (aCons (cFK [0] 1 f_derivative (aCons (eVar 5) aNil)) aNil)))))) (gNm 3))
    (sSeq (sAsg (e2 gPlus (eVar 3) (eFrz (lDisp (aCons (cFK [1, 0] 2 f_value_at (aCons (eVar 6) (aCons (eVar 5) aNil))) (aCons (cFK [0] 1 f_prime_part (aCons (eVar 5) aNil)) (aCons (cFK [1, 0] 2 f_put_in (aCons (eVar 1) (aCons (eVar 5) aNil))) aNil)))))) (gNm 3))
    (sSeq (sIf (tB' (e2 (gEq true) (en gRepr (aCons (eVar 3) aNil)) (en gRepr (aCons (eSl (eVar 2) none (some (eK (.int 7)))) aNil)))) (sRet (eK (.bool false))) sNext)
    (sSeq (sAsg (eFrz (lDisp (aCons (eVar 5) (aCons (eVar 6) (aCons (eFrz (lList (aCons (eVar 1) aNil))) (aCons (e2 gPlus (eVar 5) (eTup (aCons (eK (.int 0)) aNil))) (aCons (cF 2 (f_law_bent 12) (aCons (eVar 0) (aCons (eVar 5) aNil))) (aCons (cF 2 (f_law_bent 12) (aCons (eVar 0) (aCons (eVar 1) aNil))) (aCons (cF 1 f_law_odd (aCons (eVar 0) aNil)) aNil))))))))) (gNm 4))
    (sRet (en gAll (aCons (eFrz (lLc (iAny (eVar 4)) (gNm 7) bYes (e2 (gEq false) (en gRepr (aCons (cF 1 f_is_row (aCons (eVar 7) aNil)) aNil)) (en gRepr (aCons (cF 1 f_law_is_row (aCons (eVar 7) aNil)) aNil))) [7])) aNil))))))))))))))
noncomputable def f_law_right : GF := runD 8 b_law_right

abbrev st_law : Stmt := top 65
theorem sc_law : FnScope ["_law_script", "_law_at"] ["_law_script"] (defScope st_law) := ⟨rfl, rfl, rfl, by decide +kernel, rfl, by decide +kernel, by decide +kernel⟩
theorem bd_law {K : PySem.W.Frag} {f : Addr} {fd : FuncData} (F : Fun K "law" "law" st_law f fd) : Binds K fd ["_law_script"] [] := F.binds (ps := ["_law_script"]) fun _ _ _ _ _ _ us hl => match us, hl with | [_], _ => rfl
noncomputable def b_law : Sv :=
  (sRet (en gAll (aCons (eFrz (lLc (iR1 (aCons (en gMax (aCons (eK (.int 2)) (aCons (en gMin (aCons (en gLen (aCons (eVar 0) aNil)) (aCons (eK (.int 4)) aNil))) aNil))) aNil)) (gNm 1) bYes (cF 1 f_law_right (aCons (cF 2 f_law_well (aCons (eVar 0) (aCons (eVar 1) aNil))) aNil)) [1])) aNil)))
noncomputable def f_law : GF := runD 2 b_law

structure LE (K : PySem.W.Frag) (mg : Str → Option Value) : Prop where
  d_is_whole : ∃ f fd, mg "is_whole" = some (.ref f) ∧ Fun K "is_whole" "is_whole" st_is_whole f fd
  d_are_wholes : ∃ f fd, mg "are_wholes" = some (.ref f) ∧ Fun K "are_wholes" "are_wholes" st_are_wholes f fd
  d_is_ratio : ∃ f fd, mg "is_ratio" = some (.ref f) ∧ Fun K "is_ratio" "is_ratio" st_is_ratio f fd
  d_ratio : ∃ f fd, mg "ratio" = some (.ref f) ∧ Fun K "ratio" "ratio" st_ratio f fd
  d_is_rowed : ∃ f fd, mg "is_rowed" = some (.ref f) ∧ Fun K "is_rowed" "is_rowed" st_is_rowed f fd
  d_trimmed : ∃ f fd, mg "trimmed" = some (.ref f) ∧ Fun K "trimmed" "trimmed" st_trimmed f fd
  d_sum_by : ∃ f fd, mg "sum_by" = some (.ref f) ∧ Fun K "sum_by" "sum_by" st_sum_by f fd
  d_scaled : ∃ f fd, mg "scaled" = some (.ref f) ∧ Fun K "scaled" "scaled" st_scaled f fd
  d_gap_by : ∃ f fd, mg "gap_by" = some (.ref f) ∧ Fun K "gap_by" "gap_by" st_gap_by f fd
  d_product_by : ∃ f fd, mg "product_by" = some (.ref f) ∧ Fun K "product_by" "product_by" st_product_by f fd
  d_slope_of : ∃ f fd, mg "slope_of" = some (.ref f) ∧ Fun K "slope_of" "slope_of" st_slope_of f fd
  d_divisor_of : ∃ f fd, mg "divisor_of" = some (.ref f) ∧ Fun K "divisor_of" "divisor_of" st_divisor_of f fd
  d_small : ∃ f fd, mg "small" = some (.ref f) ∧ Fun K "small" "small" st_small f fd
  d_prime_by : ∃ f fd, mg "prime_by" = some (.ref f) ∧ Fun K "prime_by" "prime_by" st_prime_by f fd
  d_put_by : ∃ f fd, mg "put_by" = some (.ref f) ∧ Fun K "put_by" "put_by" st_put_by f fd
  d_top_at : ∃ f fd, mg "top_at" = some (.ref f) ∧ Fun K "top_at" "top_at" st_top_at f fd
  d_power_of : ∃ f fd, mg "power_of" = some (.ref f) ∧ Fun K "power_of" "power_of" st_power_of f fd
  d_value_by : ∃ f fd, mg "value_by" = some (.ref f) ∧ Fun K "value_by" "value_by" st_value_by f fd
  d_check_fraction : ∃ f fd, mg "check_fraction" = some (.ref f) ∧ Fun K "check_fraction" "check_fraction" st_check_fraction f fd
  d_check_row : ∃ f fd, mg "check_row" = some (.ref f) ∧ Fun K "check_row" "check_row" st_check_row f fd
  d_is_row : ∃ f fd, mg "is_row" = some (.ref f) ∧ Fun K "is_row" "is_row" st_is_row f fd
  d_check_both : ∃ f fd, mg "check_both" = some (.ref f) ∧ Fun K "check_both" "check_both" st_check_both f fd
  d_plus : ∃ f fd, mg "plus" = some (.ref f) ∧ Fun K "plus" "plus" st_plus f fd
  d_less : ∃ f fd, mg "less" = some (.ref f) ∧ Fun K "less" "less" st_less f fd
  d_times : ∃ f fd, mg "times" = some (.ref f) ∧ Fun K "times" "times" st_times f fd
  d_derivative : ∃ f fd, mg "derivative" = some (.ref f) ∧ Fun K "derivative" "derivative" st_derivative f fd
  d_value_at : ∃ f fd, mg "value_at" = some (.ref f) ∧ Fun K "value_at" "value_at" st_value_at f fd
  d_prime_part : ∃ f fd, mg "prime_part" = some (.ref f) ∧ Fun K "prime_part" "prime_part" st_prime_part f fd
  d_put_in : ∃ f fd, mg "put_in" = some (.ref f) ∧ Fun K "put_in" "put_in" st_put_in f fd
  d_law_well : ∃ f fd, mg "_law_well" = some (.ref f) ∧ Fun K "_law_well" "_law_well" st_law_well f fd
  d_law_draw : ∃ f fd, mg "_law_draw" = some (.ref f) ∧ Fun K "_law_draw" "_law_draw" st_law_draw f fd
  d_law_pick : ∃ f fd, mg "_law_pick" = some (.ref f) ∧ Fun K "_law_pick" "_law_pick" st_law_pick f fd
  d_law_common : ∃ f fd, mg "_law_common" = some (.ref f) ∧ Fun K "_law_common" "_law_common" st_law_common f fd
  d_law_lean : ∃ f fd, mg "_law_lean" = some (.ref f) ∧ Fun K "_law_lean" "_law_lean" st_law_lean f fd
  d_law_small : ∃ f fd, mg "_law_small" = some (.ref f) ∧ Fun K "_law_small" "_law_small" st_law_small f fd
  d_law_part : ∃ f fd, mg "_law_part" = some (.ref f) ∧ Fun K "_law_part" "_law_part" st_law_part f fd
  d_law_trim : ∃ f fd, mg "_law_trim" = some (.ref f) ∧ Fun K "_law_trim" "_law_trim" st_law_trim f fd
  d_law_line : ∃ f fd, mg "_law_line" = some (.ref f) ∧ Fun K "_law_line" "_law_line" st_law_line f fd
  d_law_sum : ∃ f fd, mg "_law_sum" = some (.ref f) ∧ Fun K "_law_sum" "_law_sum" st_law_sum f fd
  d_law_scaled : ∃ f fd, mg "_law_scaled" = some (.ref f) ∧ Fun K "_law_scaled" "_law_scaled" st_law_scaled f fd
  d_law_product : ∃ f fd, mg "_law_product" = some (.ref f) ∧ Fun K "_law_product" "_law_product" st_law_product f fd
  d_law_slope : ∃ f fd, mg "_law_slope" = some (.ref f) ∧ Fun K "_law_slope" "_law_slope" st_law_slope f fd
  d_law_value : ∃ f fd, mg "_law_value" = some (.ref f) ∧ Fun K "_law_value" "_law_value" st_law_value f fd
  d_law_worth : ∃ f fd, mg "_law_worth" = some (.ref f) ∧ Fun K "_law_worth" "_law_worth" st_law_worth f fd
  d_law_thin : ∃ f fd, mg "_law_thin" = some (.ref f) ∧ Fun K "_law_thin" "_law_thin" st_law_thin f fd
  d_law_prime : ∃ f fd, mg "_law_prime" = some (.ref f) ∧ Fun K "_law_prime" "_law_prime" st_law_prime f fd
  d_law_is_whole : ∃ f fd, mg "_law_is_whole" = some (.ref f) ∧ Fun K "_law_is_whole" "_law_is_whole" st_law_is_whole f fd
  d_law_is_row : ∃ f fd, mg "_law_is_row" = some (.ref f) ∧ Fun K "_law_is_row" "_law_is_row" st_law_is_row f fd
  d_law_odd : ∃ f fd, mg "_law_odd" = some (.ref f) ∧ Fun K "_law_odd" "_law_odd" st_law_odd f fd
  d_law_bent : ∃ f fd, mg "_law_bent" = some (.ref f) ∧ Fun K "_law_bent" "_law_bent" st_law_bent f fd
  d_law_turned : ∃ f fd, mg "_law_turned" = some (.ref f) ∧ Fun K "_law_turned" "_law_turned" st_law_turned f fd
  d_law_put_in : ∃ f fd, mg "_law_put_in" = some (.ref f) ∧ Fun K "_law_put_in" "_law_put_in" st_law_put_in f fd
  d_law_right : ∃ f fd, mg "_law_right" = some (.ref f) ∧ Fun K "_law_right" "_law_right" st_law_right f fd
  d_law : ∃ f fd, mg "law" = some (.ref f) ∧ Fun K "law" "law" st_law f fd
  z_abs : mg "abs" = none
  z_all : mg "all" = none
  z_bool : mg "bool" = none
  z_divmod : mg "divmod" = none
  z_enumerate : mg "enumerate" = none
  z_int : mg "int" = none
  z_isinstance : mg "isinstance" = none
  z_len : mg "len" = none
  z_list : mg "list" = none
  z_max : mg "max" = none
  z_min : mg "min" = none
  z_range : mg "range" = none
  z_repr : mg "repr" = none
  z_tuple : mg "tuple" = none
  z_zip : mg "zip" = none
  m_gcd : mg "gcd" = some (.builtin "math.gcd")
  c_ZERO : Con K mg "ZERO" (.tuple [(.int 0), (.int 1)])

theorem kb_put_in_1_0 {K : PySem.W.Frag} {f : Addr} {fd : FuncData} (F : Fun K "put_in" "put_in" st_put_in f fd) : KwBinds K fd ["row", "other"] ["other", "row"] [1, 0] [] := by
  obtain ⟨oc, od, kV, doc, pm, an, cdv, ct, osl, rfl, lk, hcd⟩ := F.ex
  intro s ws _ hl
  rw [List.append_nil] at hl ⊢
  match ws, hl with
  | [], h => simp [permL] at h
  | [_], h => simp [permL] at h
  | _ :: _ :: _, _ => exact .of_eq rfl

theorem kb_prime_part_0 {K : PySem.W.Frag} {f : Addr} {fd : FuncData} (F : Fun K "prime_part" "prime_part" st_prime_part f fd) : KwBinds K fd ["row"] ["row"] [0] [] := by
  obtain ⟨oc, od, kV, doc, pm, an, cdv, ct, osl, rfl, lk, hcd⟩ := F.ex
  intro s ws _ hl
  rw [List.append_nil] at hl ⊢
  match ws, hl with
  | [], h => simp [permL] at h
  | _ :: _, _ => exact .of_eq rfl

theorem kb_value_at_1_0 {K : PySem.W.Frag} {f : Addr} {fd : FuncData} (F : Fun K "value_at" "value_at" st_value_at f fd) : KwBinds K fd ["row", "fraction"] ["fraction", "row"] [1, 0] [] := by
  obtain ⟨oc, od, kV, doc, pm, an, cdv, ct, osl, rfl, lk, hcd⟩ := F.ex
  intro s ws _ hl
  rw [List.append_nil] at hl ⊢
  match ws, hl with
  | [], h => simp [permL] at h
  | [_], h => simp [permL] at h
  | _ :: _ :: _, _ => exact .of_eq rfl

theorem kb_derivative_0 {K : PySem.W.Frag} {f : Addr} {fd : FuncData} (F : Fun K "derivative" "derivative" st_derivative f fd) : KwBinds K fd ["row"] ["row"] [0] [] := by
  obtain ⟨oc, od, kV, doc, pm, an, cdv, ct, osl, rfl, lk, hcd⟩ := F.ex
  intro s ws _ hl
  rw [List.append_nil] at hl ⊢
  match ws, hl with
  | [], h => simp [permL] at h
  | _ :: _, _ => exact .of_eq rfl

theorem kb_times_1_0 {K : PySem.W.Frag} {f : Addr} {fd : FuncData} (F : Fun K "times" "times" st_times f fd) : KwBinds K fd ["row", "other"] ["other", "row"] [1, 0] [] := by
  obtain ⟨oc, od, kV, doc, pm, an, cdv, ct, osl, rfl, lk, hcd⟩ := F.ex
  intro s ws _ hl
  rw [List.append_nil] at hl ⊢
  match ws, hl with
  | [], h => simp [permL] at h
  | [_], h => simp [permL] at h
  | _ :: _ :: _, _ => exact .of_eq rfl

theorem kb_less_1_0 {K : PySem.W.Frag} {f : Addr} {fd : FuncData} (F : Fun K "less" "less" st_less f fd) : KwBinds K fd ["row", "other"] ["other", "row"] [1, 0] [] := by
  obtain ⟨oc, od, kV, doc, pm, an, cdv, ct, osl, rfl, lk, hcd⟩ := F.ex
  intro s ws _ hl
  rw [List.append_nil] at hl ⊢
  match ws, hl with
  | [], h => simp [permL] at h
  | [_], h => simp [permL] at h
  | _ :: _ :: _, _ => exact .of_eq rfl

theorem kb_plus_1_0 {K : PySem.W.Frag} {f : Addr} {fd : FuncData} (F : Fun K "plus" "plus" st_plus f fd) : KwBinds K fd ["row", "other"] ["other", "row"] [1, 0] [] := by
  obtain ⟨oc, od, kV, doc, pm, an, cdv, ct, osl, rfl, lk, hcd⟩ := F.ex
  intro s ws _ hl
  rw [List.append_nil] at hl ⊢
  match ws, hl with
  | [], h => simp [permL] at h
  | [_], h => simp [permL] at h
  | _ :: _ :: _, _ => exact .of_eq rfl

section
variable {P : Program} {w : World} {K : PySem.W.Frag} {mg : Str → Option Value} {base : Heap}

theorem ok_is_whole (L : LE K mg) : ∃ f fd, Has P w K mg base 1 "is_whole" st_is_whole ["value"] 1 f_is_whole f fd := by
  obtain ⟨f, fd, m, F⟩ := L.d_is_whole
  refine ⟨f, fd, m, F, bd_is_whole F, ?_⟩
  refine fng_sem (k := 0) F sc_is_whole fun cdv A outer s H E hr hg => ?_
  exact (ss_one (ss_ret (se_and (xIsi bt_int L.z_isinstance L.z_int (by rfl) (by rfl) (xV 0)) (se_one (se_not (xIsi bt_bool L.z_isinstance L.z_bool (by rfl) (by rfl) (xV 0)))))))

theorem ok_are_wholes (L : LE K mg) : ∃ f fd, Has P w K mg base 2 "are_wholes" st_are_wholes ["value", "many"] 2 f_are_wholes f fd := by
  obtain ⟨_, _, h_is_whole⟩ := ok_is_whole (P := P) (w := w) (base := base) L
  obtain ⟨f, fd, m, F⟩ := L.d_are_wholes
  refine ⟨f, fd, m, F, bd_are_wholes F, ?_⟩
  refine fng_sem (k := 1) F sc_are_wholes fun cdv A outer s H E hr hg => ?_
  exact (ss_one (ss_ret (se_and (xIsi bt_tuple L.z_isinstance L.z_tuple (by rfl) (by rfl) (xV 0)) (se_and (xCmp (op_gEq (hu64 hr)) (xBi cr_gLen bt_len L.z_len (by rfl) (xA (xV 0) sa_nil)) (xV 1)) (se_one (xBi (cr_gAll rfl) bt_all L.z_all (by rfl) (xA (se_frz (xLc [("each", 2)] rfl sc_are_wholes.nd (si_any (xV 0)) (fun _ _ _ _ _ => (xwNm 2 sc_are_wholes.nd)) (fun _ _ _ _ _ => sts_nil) (fun _ _ _ _ _ => (xCall h_is_whole (by decide) hr hg takes0 (by rfl) (xA (xV 2) sa_nil))) (ok := by exact blkOk_by (show blkC ["value", "many", "each"] (defScope st_are_wholes) _ [("each", 2)] = true from by decide +kernel)))) sa_nil)))))))

theorem ok_is_ratio (L : LE K mg) : ∃ f fd, Has P w K mg base 3 "is_ratio" st_is_ratio ["value"] 1 f_is_ratio f fd := by
  obtain ⟨_, _, h_are_wholes⟩ := ok_are_wholes (P := P) (w := w) (base := base) L
  obtain ⟨f, fd, m, F⟩ := L.d_is_ratio
  refine ⟨f, fd, m, F, bd_is_ratio F, ?_⟩
  refine fng_sem (k := 2) F sc_is_ratio fun cdv A outer s H E hr hg => ?_
  exact (ss_one (ss_ret (se_and (xCall h_are_wholes (by decide) hr hg (takes_of rfl rfl rfl rfl) (by rfl) (xA (xV 0) (xA se_int sa_nil))) (se_and (xCmp op_gGt (xIx (xV 0) se_int) se_int) (se_one (xCmp (op_gEq (hu64 hr)) (xBif cr_gGcd L.m_gcd (by rfl) (xA (xIx (xV 0) se_int) (xA (xIx (xV 0) se_int) sa_nil))) se_int))))))

theorem ok_ratio (L : LE K mg) : ∃ f fd, Has P w K mg base 1 "ratio" st_ratio ["top", "low"] 2 f_ratio f fd := by
  obtain ⟨f, fd, m, F⟩ := L.d_ratio
  refine ⟨f, fd, m, F, bd_ratio F, ?_⟩
  refine fng_sem (k := 0) F sc_ratio fun cdv A outer s H E hr hg => ?_
  exact (ss_cons (xSet 2 sc_ratio.nd (se_if (xtCmp op_gGt (xV 1) se_int) (xBif cr_gGcd L.m_gcd (by rfl) (xA (xV 0) (xA (xV 1) sa_nil))) (se_un un_gNeg (xBif cr_gGcd L.m_gcd (by rfl) (xA (xV 0) (xA (xV 1) sa_nil))))))
      (ss_one (ss_ret (se_tup (xA (se_op op_gDiv (xV 0) (xV 2)) (xA (se_op op_gDiv (xV 1) (xV 2)) sa_nil))))))

theorem ok_is_rowed (L : LE K mg) : ∃ f fd, Has P w K mg base 2 "is_rowed" st_is_rowed ["value"] 1 f_is_rowed f fd := by
  obtain ⟨_, _, h_is_whole⟩ := ok_is_whole (P := P) (w := w) (base := base) L
  obtain ⟨f, fd, m, F⟩ := L.d_is_rowed
  refine ⟨f, fd, m, F, bd_is_rowed F, ?_⟩
  refine fng_sem (k := 1) F sc_is_rowed fun cdv A outer s H E hr hg => ?_
  exact (ss_cons (ss_if (sw_or (st_not (xtVal (xIsi bt_tuple L.z_isinstance L.z_tuple (by rfl) (by rfl) (xV 0)))) (sw_or1 (st_not (xtVal (xBi (cr_gAll rfl) bt_all L.z_all (by rfl) (xA (se_frz (xLc [("each", 1)] rfl sc_is_rowed.nd (si_any (xV 0)) (fun _ _ _ _ _ => (xwNm 1 sc_is_rowed.nd)) (fun _ _ _ _ _ => sts_nil) (fun _ _ _ _ _ => (xCall h_is_whole (by decide) hr hg takes0 (by rfl) (xA (xV 1) sa_nil))) (ok := by exact blkOk_by (show blkC ["value", "each"] (defScope st_is_rowed) _ [("each", 1)] = true from by decide +kernel)))) sa_nil)))))).pt (ss_one (ss_ret se_bl)) ss_nil)
      (ss_one (ss_ret (se_or (xCmp (op_gEq (hu64 hr)) (xV 0) (se_tup sa_nil)) (se_one (xCmp (op_gNe (hu64 hr)) (xIx (xV 0) (se_un un_gNeg se_int)) se_int))))))

theorem ok_trimmed (L : LE K mg) : ∃ f fd, Has P w K mg base 1 "trimmed" st_trimmed ["some"] 1 f_trimmed f fd := by
  obtain ⟨f, fd, m, F⟩ := L.d_trimmed
  refine ⟨f, fd, m, F, bd_trimmed F, ?_⟩
  refine fng_sem (k := 0) F sc_trimmed fun cdv A outer s H E hr hg => ?_
  exact (ss_cons (xSet 1 sc_trimmed.nd (xBi cr_gLen bt_len L.z_len (by rfl) (xA (xV 0) sa_nil)))
      (ss_cons (ss_whileN (passes_of rfl) (sw_and (xtCmp op_gGt (xV 1) se_int) (sw_and1 (xtCmp (op_gEq (hu64 hr)) (xIx (xV 0) (se_op op_gSub (xV 1) se_int)) se_int))).pt (ss_one (xSet 1 sc_trimmed.nd (se_op op_gSub (xV 1) se_int))))
      (ss_one (ss_ret (xTy cr_gTuple bt_tuple L.z_tuple (by rfl) (xA (se_sl (xV 0) so_none (so_some (xV 1))) sa_nil))))))

theorem ok_sum_by (L : LE K mg) : ∃ f fd, Has P w K mg base 2 "sum_by" st_sum_by ["row", "other"] 2 f_sum_by f fd := by
  obtain ⟨_, _, h_trimmed⟩ := ok_trimmed (P := P) (w := w) (base := base) L
  obtain ⟨f, fd, m, F⟩ := L.d_sum_by
  refine ⟨f, fd, m, F, bd_sum_by F, ?_⟩
  refine fng_sem (k := 1) F sc_sum_by fun cdv A outer s H E hr hg => ?_
  exact (ss_cons (xSet 2 sc_sum_by.nd (xBi (cr_gMax rfl) bt_max L.z_max (by rfl) (xA (xBi cr_gLen bt_len L.z_len (by rfl) (xA (xV 0) sa_nil)) (xA (xBi cr_gLen bt_len L.z_len (by rfl) (xA (xV 1) sa_nil)) sa_nil))))
      (ss_cons (xPar 3 4 rfl sc_sum_by.nd (xA (se_op op_gPlus (xV 0) (se_op op_gTimesT (se_tup (xA se_int sa_nil)) (se_op op_gSub (xV 2) (xBi cr_gLen bt_len L.z_len (by rfl) (xA (xV 0) sa_nil))))) (xA (se_op op_gPlus (xV 1) (se_op op_gTimesT (se_tup (xA se_int sa_nil)) (se_op op_gSub (xV 2) (xBi cr_gLen bt_len L.z_len (by rfl) (xA (xV 1) sa_nil))))) sa_nil)))
      (ss_one (ss_ret (xCall h_trimmed (by decide) hr hg (takes_of rfl rfl rfl rfl) (by rfl) (xA (se_frz (xLc [("here", 5), ("there", 6)] rfl sc_sum_by.nd (xZip L.z_zip (by rfl) (xA (xV 3) (xA (xV 4) sa_nil))) (fun _ _ _ _ _ => (xwGT rfl (xwG (xwNm 5 sc_sum_by.nd) (xwG (xwNm 6 sc_sum_by.nd) sgsw_nil)))) (fun _ _ _ _ _ => sts_nil) (fun _ _ _ _ _ => (se_op op_gPlus (xV 5) (xV 6))) (ok := by exact blkOk_by (show blkC ["row", "other", "size", "one", "two", "here", "there"] (defScope st_sum_by) _ [("here", 5), ("there", 6)] = true from by decide +kernel)))) sa_nil))))))

theorem ok_scaled (L : LE K mg) : ∃ f fd, Has P w K mg base 2 "scaled" st_scaled ["row", "number"] 2 f_scaled f fd := by
  obtain ⟨_, _, h_trimmed⟩ := ok_trimmed (P := P) (w := w) (base := base) L
  obtain ⟨f, fd, m, F⟩ := L.d_scaled
  refine ⟨f, fd, m, F, bd_scaled F, ?_⟩
  refine fng_sem (k := 1) F sc_scaled fun cdv A outer s H E hr hg => ?_
  exact (ss_one (ss_ret (xCall h_trimmed (by decide) hr hg (takes_of rfl rfl rfl rfl) (by rfl) (xA (se_frz (xLc [("each", 2)] rfl sc_scaled.nd (si_any (xV 0)) (fun _ _ _ _ _ => (xwNm 2 sc_scaled.nd)) (fun _ _ _ _ _ => sts_nil) (fun _ _ _ _ _ => (se_op op_gTimes (xV 1) (xV 2))) (ok := by exact blkOk_by (show blkC ["row", "number", "each"] (defScope st_scaled) _ [("each", 2)] = true from by decide +kernel)))) sa_nil))))

theorem ok_gap_by (L : LE K mg) : ∃ f fd, Has P w K mg base 3 "gap_by" st_gap_by ["row", "other"] 2 f_gap_by f fd := by
  obtain ⟨_, _, h_sum_by⟩ := ok_sum_by (P := P) (w := w) (base := base) L
  obtain ⟨_, _, h_scaled⟩ := ok_scaled (P := P) (w := w) (base := base) L
  obtain ⟨f, fd, m, F⟩ := L.d_gap_by
  refine ⟨f, fd, m, F, bd_gap_by F, ?_⟩
  refine fng_sem (k := 2) F sc_gap_by fun cdv A outer s H E hr hg => ?_
  exact (ss_one (ss_ret (xCall h_sum_by (by decide) hr hg (takes_of rfl rfl rfl rfl) (by rfl) (xA (xV 0) (xA (xCall h_scaled (by decide) hr hg (takes_of rfl rfl rfl rfl) (by rfl) (xA (xV 1) (xA (se_un un_gNeg se_int) sa_nil))) sa_nil)))))

theorem ok_product_by (L : LE K mg) : ∃ f fd, Has P w K mg base 2 "product_by" st_product_by ["row", "other"] 2 f_product_by f fd := by
  obtain ⟨_, _, h_trimmed⟩ := ok_trimmed (P := P) (w := w) (base := base) L
  obtain ⟨f, fd, m, F⟩ := L.d_product_by
  refine ⟨f, fd, m, F, bd_product_by F, ?_⟩
  refine fng_sem (k := 1) F sc_product_by fun cdv A outer s H E hr hg => ?_
  exact (ss_cons (ss_if (sw_or (xtCmp (op_gEq (hu64 hr)) (xV 0) (se_tup sa_nil)) (sw_or1 (xtCmp (op_gEq (hu64 hr)) (xV 1) (se_tup sa_nil)))).pt (ss_one (ss_ret (se_tup sa_nil))) ss_nil)
      (ss_cons (xSet 2 sc_product_by.nd (se_new (sl_rep (se_frz (sl_disp (xA se_int sa_nil))) (se_op op_gSub (se_op op_gPlus (xBi cr_gLen bt_len L.z_len (by rfl) (xA (xV 0) sa_nil)) (xBi cr_gLen bt_len L.z_len (by rfl) (xA (xV 1) sa_nil))) se_int))))
      (ss_cons (xFor (passes_of rfl) rfl (xEnumT L.z_enumerate (by rfl) (xA (xV 0) sa_nil)) (xGT rfl (xG (xNm 3 sc_product_by.nd) (xG (xNm 4 sc_product_by.nd) sgs_nil))) (ss_one (xFor (passes_of rfl) rfl (xEnumT L.z_enumerate (by rfl) (xA (xV 1) sa_nil)) (xGT rfl (xG (xNm 5 sc_product_by.nd) (xG (xNm 6 sc_product_by.nd) sgs_nil))) (ss_one (xAsg (se_op op_gPlus (xIx (xV 2) (se_op op_gPlus (xV 3) (xV 5))) (se_op op_gTimes (xV 4) (xV 6))) (xGS (xV 2) (se_op op_gPlus (xV 3) (xV 5))))))))
      (ss_one (ss_ret (xCall h_trimmed (by decide) hr hg (takes_of rfl rfl rfl rfl) (by rfl) (xA (xV 2) sa_nil)))))))

theorem ok_slope_of (L : LE K mg) : ∃ f fd, Has P w K mg base 2 "slope_of" st_slope_of ["row"] 1 f_slope_of f fd := by
  obtain ⟨_, _, h_trimmed⟩ := ok_trimmed (P := P) (w := w) (base := base) L
  obtain ⟨f, fd, m, F⟩ := L.d_slope_of
  refine ⟨f, fd, m, F, bd_slope_of F, ?_⟩
  refine fng_sem (k := 1) F sc_slope_of fun cdv A outer s H E hr hg => ?_
  exact (ss_one (ss_ret (xCall h_trimmed (by decide) hr hg (takes_of rfl rfl rfl rfl) (by rfl) (xA (se_sl (se_frz (xLc [("at", 1), ("each", 2)] rfl sc_slope_of.nd (xEnumT L.z_enumerate (by rfl) (xA (xV 0) sa_nil)) (fun _ _ _ _ _ => (xwGT rfl (xwG (xwNm 1 sc_slope_of.nd) (xwG (xwNm 2 sc_slope_of.nd) sgsw_nil)))) (fun _ _ _ _ _ => sts_nil) (fun _ _ _ _ _ => (se_op op_gTimes (xV 1) (xV 2))) (ok := by exact blkOk_by (show blkC ["row", "at", "each"] (defScope st_slope_of) _ [("at", 1), ("each", 2)] = true from by decide +kernel)))) (so_some se_int) so_none) sa_nil))))

theorem ok_divisor_of (L : LE K mg) : ∃ f fd, Has P w K mg base 1 "divisor_of" st_divisor_of ["row"] 1 f_divisor_of f fd := by
  obtain ⟨f, fd, m, F⟩ := L.d_divisor_of
  refine ⟨f, fd, m, F, bd_divisor_of F, ?_⟩
  refine fng_sem (k := 0) F sc_divisor_of fun cdv A outer s H E hr hg => ?_
  exact (ss_cons (xSet 1 sc_divisor_of.nd se_int)
      (ss_cons (xFor (passes_of rfl) rfl (si_any (xV 0)) (xNm 2 sc_divisor_of.nd) (ss_one (xSet 1 sc_divisor_of.nd (xBif cr_gGcd L.m_gcd (by rfl) (xA (xV 1) (xA (xV 2) sa_nil))))))
      (ss_one (ss_ret (xV 1)))))

theorem ok_small (L : LE K mg) : ∃ f fd, Has P w K mg base 2 "small" st_small ["row"] 1 f_small f fd := by
  obtain ⟨_, _, h_divisor_of⟩ := ok_divisor_of (P := P) (w := w) (base := base) L
  obtain ⟨f, fd, m, F⟩ := L.d_small
  refine ⟨f, fd, m, F, bd_small F, ?_⟩
  refine fng_sem (k := 1) F sc_small fun cdv A outer s H E hr hg => ?_
  exact (ss_cons (xSet 1 sc_small.nd (xCall h_divisor_of (by decide) hr hg (takes_of rfl rfl rfl rfl) (by rfl) (xA (xV 0) sa_nil)))
      (ss_one (ss_ret (se_if (xtCmp op_gGt (xV 1) se_int) (xTy cr_gTuple bt_tuple L.z_tuple (by rfl) (xA (se_frz (xLc [("each", 2)] rfl sc_small.nd (si_any (xV 0)) (fun _ _ _ _ _ => (xwNm 2 sc_small.nd)) (fun _ _ _ _ _ => sts_nil) (fun _ _ _ _ _ => (se_op op_gDiv (xV 2) (xV 1))) (ok := by exact blkOk_by (show blkC ["row", "part", "each"] (defScope st_small) _ [("each", 2)] = true from by decide +kernel)))) sa_nil)) (xV 0)))))

theorem ok_prime_by (L : LE K mg) : ∃ f fd, Has P w K mg base 3 "prime_by" st_prime_by ["row"] 1 f_prime_by f fd := by
  obtain ⟨_, _, h_scaled⟩ := ok_scaled (P := P) (w := w) (base := base) L
  obtain ⟨_, _, h_small⟩ := ok_small (P := P) (w := w) (base := base) L
  obtain ⟨f, fd, m, F⟩ := L.d_prime_by
  refine ⟨f, fd, m, F, bd_prime_by F, ?_⟩
  refine fng_sem (k := 2) F sc_prime_by fun cdv A outer s H E hr hg => ?_
  exact (ss_cons (xSet 1 sc_prime_by.nd (xCall h_small (by decide) hr hg (takes_of rfl rfl rfl rfl) (by rfl) (xA (xV 0) sa_nil)))
      (ss_one (ss_ret (se_if (sw_and (xtCmp (op_gNe (hu64 hr)) (xV 1) (se_tup sa_nil)) (sw_and1 (xtCmp op_gLt (xIx (xV 1) (se_un un_gNeg se_int)) se_int))).pt (xCall h_scaled (by decide) hr hg (takes_of rfl rfl rfl rfl) (by rfl) (xA (xV 1) (xA (se_un un_gNeg se_int) sa_nil))) (xV 1)))))

theorem ok_put_by (L : LE K mg) : ∃ f fd, Has P w K mg base 3 "put_by" st_put_by ["row", "other"] 2 f_put_by f fd := by
  obtain ⟨_, _, h_trimmed⟩ := ok_trimmed (P := P) (w := w) (base := base) L
  obtain ⟨_, _, h_sum_by⟩ := ok_sum_by (P := P) (w := w) (base := base) L
  obtain ⟨_, _, h_product_by⟩ := ok_product_by (P := P) (w := w) (base := base) L
  obtain ⟨f, fd, m, F⟩ := L.d_put_by
  refine ⟨f, fd, m, F, bd_put_by F, ?_⟩
  refine fng_sem (k := 2) F sc_put_by fun cdv A outer s H E hr hg => ?_
  exact (ss_cons (xSet 2 sc_put_by.nd (se_tup sa_nil))
      (ss_cons (xFor (passes_of rfl) rfl (si_any (se_rev (xV 0))) (xNm 3 sc_put_by.nd) (ss_one (xSet 2 sc_put_by.nd (xCall h_sum_by (by decide) hr hg (takes_of rfl rfl rfl rfl) (by rfl) (xA (xCall h_product_by (by decide) hr hg (takes_of rfl rfl rfl rfl) (by rfl) (xA (xV 2) (xA (xV 1) sa_nil))) (xA (xCall h_trimmed (by decide) hr hg (takes_of rfl rfl rfl rfl) (by rfl) (xA (se_tup (xA (xV 3) sa_nil)) sa_nil)) sa_nil))))))
      (ss_one (ss_ret (xV 2)))))

theorem ok_top_at (L : LE K mg) : ∃ f fd, Has P w K mg base 1 "top_at" st_top_at ["row", "fraction"] 2 f_top_at f fd := by
  obtain ⟨f, fd, m, F⟩ := L.d_top_at
  refine ⟨f, fd, m, F, bd_top_at F, ?_⟩
  refine fng_sem (k := 0) F sc_top_at fun cdv A outer s H E hr hg => ?_
  exact (ss_cons (xAsg (xV 1) (xGT rfl (xG (xNm 3 sc_top_at.nd) (xG (xNm 4 sc_top_at.nd) sgs_nil))))
      (ss_cons (xAsg (se_tup (xA se_int (xA se_int sa_nil))) (xGT rfl (xG (xNm 5 sc_top_at.nd) (xG (xNm 6 sc_top_at.nd) sgs_nil))))
      (ss_cons (xFor (passes_of rfl) rfl (si_any (se_rev (xV 0))) (xNm 2 sc_top_at.nd) (ss_cons (xSet 5 sc_top_at.nd (se_op op_gPlus (se_op op_gTimes (xV 5) (xV 3)) (se_op op_gTimes (xV 2) (xV 6))))
      (ss_one (xSet 6 sc_top_at.nd (se_op op_gTimes (xV 6) (xV 4))))))
      (ss_one (ss_ret (xV 5))))))

theorem ok_power_of (L : LE K mg) : ∃ f fd, Has P w K mg base 1 "power_of" st_power_of ["number", "many"] 2 f_power_of f fd := by
  obtain ⟨f, fd, m, F⟩ := L.d_power_of
  refine ⟨f, fd, m, F, bd_power_of F, ?_⟩
  refine fng_sem (k := 0) F sc_power_of fun cdv A outer s H E hr hg => ?_
  exact (ss_cons (xSet 2 sc_power_of.nd se_int)
      (ss_cons (xFor (passes_of rfl) rfl (xR1 L.z_range (by rfl) (xA (xV 1) sa_nil)) (xNm 3 sc_power_of.nd) (ss_one (xSet 2 sc_power_of.nd (se_op op_gTimes (xV 2) (xV 0)))))
      (ss_one (ss_ret (xV 2)))))

theorem ok_value_by (L : LE K mg) : ∃ f fd, Has P w K mg base 2 "value_by" st_value_by ["row", "fraction"] 2 f_value_by f fd := by
  obtain ⟨_, _, h_ratio⟩ := ok_ratio (P := P) (w := w) (base := base) L
  obtain ⟨_, _, h_top_at⟩ := ok_top_at (P := P) (w := w) (base := base) L
  obtain ⟨_, _, h_power_of⟩ := ok_power_of (P := P) (w := w) (base := base) L
  obtain ⟨f, fd, m, F⟩ := L.d_value_by
  refine ⟨f, fd, m, F, bd_value_by F, ?_⟩
  refine fng_sem (k := 1) F sc_value_by fun cdv A outer s H E hr hg => ?_
  exact (ss_one (ss_ret (xCall h_ratio (by decide) hr hg (takes_of rfl rfl rfl rfl) (by rfl) (xA (xCall h_top_at (by decide) hr hg (takes_of rfl rfl rfl rfl) (by rfl) (xA (xV 0) (xA (xV 1) sa_nil))) (xA (xCall h_power_of (by decide) hr hg (takes_of rfl rfl rfl rfl) (by rfl) (xA (xIx (xV 1) se_int) (xA (se_op op_gSub (xBi cr_gLen bt_len L.z_len (by rfl) (xA (xV 0) sa_nil)) se_int) sa_nil))) sa_nil)))))

theorem ok_check_fraction (L : LE K mg) : ∃ f fd, Has P w K mg base 4 "check_fraction" st_check_fraction ["value"] 1 f_check_fraction f fd := by
  obtain ⟨_, _, h_is_ratio⟩ := ok_is_ratio (P := P) (w := w) (base := base) L
  obtain ⟨f, fd, m, F⟩ := L.d_check_fraction
  refine ⟨f, fd, m, F, bd_check_fraction F, ?_⟩
  refine fng_sem (k := 3) F sc_check_fraction fun cdv A outer s H E hr hg => ?_
  exact (ss_one (ss_if (st_not (xtVal (xCall h_is_ratio (by decide) hr hg (takes_of rfl rfl rfl rfl) (by rfl) (xA (xV 0) sa_nil)))) (ss_one ss_nev) ss_nil))

theorem ok_check_row (L : LE K mg) : ∃ f fd, Has P w K mg base 3 "check_row" st_check_row ["value"] 1 f_check_row f fd := by
  obtain ⟨_, _, h_is_rowed⟩ := ok_is_rowed (P := P) (w := w) (base := base) L
  obtain ⟨f, fd, m, F⟩ := L.d_check_row
  refine ⟨f, fd, m, F, bd_check_row F, ?_⟩
  refine fng_sem (k := 2) F sc_check_row fun cdv A outer s H E hr hg => ?_
  exact (ss_one (ss_if (st_not (xtVal (xCall h_is_rowed (by decide) hr hg (takes_of rfl rfl rfl rfl) (by rfl) (xA (xV 0) sa_nil)))) (ss_one ss_nev) ss_nil))

theorem ok_is_row (L : LE K mg) : ∃ f fd, Has P w K mg base 3 "is_row" st_is_row ["value"] 1 f_is_row f fd := by
  obtain ⟨_, _, h_is_rowed⟩ := ok_is_rowed (P := P) (w := w) (base := base) L
  obtain ⟨f, fd, m, F⟩ := L.d_is_row
  refine ⟨f, fd, m, F, bd_is_row F, ?_⟩
  refine fng_sem (k := 2) F sc_is_row fun cdv A outer s H E hr hg => ?_
  exact (ss_one (ss_ret (xCall h_is_rowed (by decide) hr hg (takes_of rfl rfl rfl rfl) (by rfl) (xA (xV 0) sa_nil))))

theorem ok_check_both (L : LE K mg) : ∃ f fd, Has P w K mg base 4 "check_both" st_check_both ["row", "other"] 2 f_check_both f fd := by
  obtain ⟨_, _, h_check_row⟩ := ok_check_row (P := P) (w := w) (base := base) L
  obtain ⟨f, fd, m, F⟩ := L.d_check_both
  refine ⟨f, fd, m, F, bd_check_both F, ?_⟩
  refine fng_sem (k := 3) F sc_check_both fun cdv A outer s H E hr hg => ?_
  exact (ss_cons (xExpr (xCall h_check_row (by decide) hr hg (takes_of rfl rfl rfl rfl) (by rfl) (xA (xV 0) sa_nil)))
      (ss_one (xExpr (xCall h_check_row (by decide) hr hg (takes_of rfl rfl rfl rfl) (by rfl) (xA (xV 1) sa_nil)))))

theorem ok_plus (L : LE K mg) : ∃ f fd, Has P w K mg base 5 "plus" st_plus ["row", "other"] 2 f_plus f fd := by
  obtain ⟨_, _, h_sum_by⟩ := ok_sum_by (P := P) (w := w) (base := base) L
  obtain ⟨_, _, h_check_both⟩ := ok_check_both (P := P) (w := w) (base := base) L
  obtain ⟨f, fd, m, F⟩ := L.d_plus
  refine ⟨f, fd, m, F, bd_plus F, ?_⟩
  refine fng_sem (k := 4) F sc_plus fun cdv A outer s H E hr hg => ?_
  exact (ss_cons (xExpr (xCall h_check_both (by decide) hr hg (takes_of rfl rfl rfl rfl) (by rfl) (xA (xV 0) (xA (xV 1) sa_nil))))
      (ss_one (ss_ret (xCall h_sum_by (by decide) hr hg (takes_of rfl rfl rfl rfl) (by rfl) (xA (xV 0) (xA (xV 1) sa_nil))))))

theorem ok_less (L : LE K mg) : ∃ f fd, Has P w K mg base 5 "less" st_less ["row", "other"] 2 f_less f fd := by
  obtain ⟨_, _, h_gap_by⟩ := ok_gap_by (P := P) (w := w) (base := base) L
  obtain ⟨_, _, h_check_both⟩ := ok_check_both (P := P) (w := w) (base := base) L
  obtain ⟨f, fd, m, F⟩ := L.d_less
  refine ⟨f, fd, m, F, bd_less F, ?_⟩
  refine fng_sem (k := 4) F sc_less fun cdv A outer s H E hr hg => ?_
  exact (ss_cons (xExpr (xCall h_check_both (by decide) hr hg (takes_of rfl rfl rfl rfl) (by rfl) (xA (xV 0) (xA (xV 1) sa_nil))))
      (ss_one (ss_ret (xCall h_gap_by (by decide) hr hg (takes_of rfl rfl rfl rfl) (by rfl) (xA (xV 0) (xA (xV 1) sa_nil))))))

theorem ok_times (L : LE K mg) : ∃ f fd, Has P w K mg base 5 "times" st_times ["row", "other"] 2 f_times f fd := by
  obtain ⟨_, _, h_product_by⟩ := ok_product_by (P := P) (w := w) (base := base) L
  obtain ⟨_, _, h_check_both⟩ := ok_check_both (P := P) (w := w) (base := base) L
  obtain ⟨f, fd, m, F⟩ := L.d_times
  refine ⟨f, fd, m, F, bd_times F, ?_⟩
  refine fng_sem (k := 4) F sc_times fun cdv A outer s H E hr hg => ?_
  exact (ss_cons (xExpr (xCall h_check_both (by decide) hr hg (takes_of rfl rfl rfl rfl) (by rfl) (xA (xV 0) (xA (xV 1) sa_nil))))
      (ss_one (ss_ret (xCall h_product_by (by decide) hr hg (takes_of rfl rfl rfl rfl) (by rfl) (xA (xV 0) (xA (xV 1) sa_nil))))))

theorem ok_derivative (L : LE K mg) : ∃ f fd, Has P w K mg base 4 "derivative" st_derivative ["row"] 1 f_derivative f fd := by
  obtain ⟨_, _, h_slope_of⟩ := ok_slope_of (P := P) (w := w) (base := base) L
  obtain ⟨_, _, h_check_row⟩ := ok_check_row (P := P) (w := w) (base := base) L
  obtain ⟨f, fd, m, F⟩ := L.d_derivative
  refine ⟨f, fd, m, F, bd_derivative F, ?_⟩
  refine fng_sem (k := 3) F sc_derivative fun cdv A outer s H E hr hg => ?_
  exact (ss_cons (xExpr (xCall h_check_row (by decide) hr hg (takes_of rfl rfl rfl rfl) (by rfl) (xA (xV 0) sa_nil)))
      (ss_one (ss_ret (xCall h_slope_of (by decide) hr hg (takes_of rfl rfl rfl rfl) (by rfl) (xA (xV 0) sa_nil)))))

theorem ok_value_at (L : LE K mg) : ∃ f fd, Has P w K mg base 5 "value_at" st_value_at ["row", "fraction"] 2 f_value_at f fd := by
  obtain ⟨_, _, h_value_by⟩ := ok_value_by (P := P) (w := w) (base := base) L
  obtain ⟨_, _, h_check_fraction⟩ := ok_check_fraction (P := P) (w := w) (base := base) L
  obtain ⟨_, _, h_check_row⟩ := ok_check_row (P := P) (w := w) (base := base) L
  obtain ⟨f, fd, m, F⟩ := L.d_value_at
  refine ⟨f, fd, m, F, bd_value_at F, ?_⟩
  refine fng_sem (k := 4) F sc_value_at fun cdv A outer s H E hr hg => ?_
  exact (ss_cons (xExpr (xCall h_check_row (by decide) hr hg (takes_of rfl rfl rfl rfl) (by rfl) (xA (xV 0) sa_nil)))
      (ss_cons (xExpr (xCall h_check_fraction (by decide) hr hg (takes_of rfl rfl rfl rfl) (by rfl) (xA (xV 1) sa_nil)))
      (ss_one (ss_ret (se_if (xtCmp (op_gNe (hu64 hr)) (xV 0) (se_tup sa_nil)) (xCall h_value_by (by decide) hr hg (takes_of rfl rfl rfl rfl) (by rfl) (xA (xV 0) (xA (xV 1) sa_nil))) (xCon L.c_ZERO (by rfl)))))))

theorem ok_prime_part (L : LE K mg) : ∃ f fd, Has P w K mg base 4 "prime_part" st_prime_part ["row"] 1 f_prime_part f fd := by
  obtain ⟨_, _, h_prime_by⟩ := ok_prime_by (P := P) (w := w) (base := base) L
  obtain ⟨_, _, h_check_row⟩ := ok_check_row (P := P) (w := w) (base := base) L
  obtain ⟨f, fd, m, F⟩ := L.d_prime_part
  refine ⟨f, fd, m, F, bd_prime_part F, ?_⟩
  refine fng_sem (k := 3) F sc_prime_part fun cdv A outer s H E hr hg => ?_
  exact (ss_cons (xExpr (xCall h_check_row (by decide) hr hg (takes_of rfl rfl rfl rfl) (by rfl) (xA (xV 0) sa_nil)))
      (ss_one (ss_ret (xCall h_prime_by (by decide) hr hg (takes_of rfl rfl rfl rfl) (by rfl) (xA (xV 0) sa_nil)))))

theorem ok_put_in (L : LE K mg) : ∃ f fd, Has P w K mg base 5 "put_in" st_put_in ["row", "other"] 2 f_put_in f fd := by
  obtain ⟨_, _, h_put_by⟩ := ok_put_by (P := P) (w := w) (base := base) L
  obtain ⟨_, _, h_check_both⟩ := ok_check_both (P := P) (w := w) (base := base) L
  obtain ⟨f, fd, m, F⟩ := L.d_put_in
  refine ⟨f, fd, m, F, bd_put_in F, ?_⟩
  refine fng_sem (k := 4) F sc_put_in fun cdv A outer s H E hr hg => ?_
  exact (ss_cons (xExpr (xCall h_check_both (by decide) hr hg (takes_of rfl rfl rfl rfl) (by rfl) (xA (xV 0) (xA (xV 1) sa_nil))))
      (ss_one (ss_ret (xCall h_put_by (by decide) hr hg (takes_of rfl rfl rfl rfl) (by rfl) (xA (xV 0) (xA (xV 1) sa_nil))))))

theorem ok_law_well (L : LE K mg) : ∃ f fd, Has P w K mg base 1 "_law_well" st_law_well ["_law_script", "_law_at"] 2 f_law_well f fd := by
  obtain ⟨f, fd, m, F⟩ := L.d_law_well
  refine ⟨f, fd, m, F, bd_law_well F, ?_⟩
  refine fng_sem (k := 0) F sc_law_well fun cdv A outer s H E hr hg => ?_
  exact (ss_cons (xSet 2 sc_law_well.nd (se_op op_gPlus se_int (se_op op_gTimes se_int (xV 1))))
      (ss_cons (xFor (passes_of rfl) rfl (si_any (se_sl (xV 0) so_none (so_some se_int))) (xNm 3 sc_law_well.nd) (ss_one (xSet 2 sc_law_well.nd (se_op op_gMod (xTy cr_gInt bt_int L.z_int (by rfl) (xA (se_op op_gPlus (se_op op_gPlus (se_op op_gTimes (xV 2) se_int) (se_op op_gMod (xTy cr_gInt bt_int L.z_int (by rfl) (xA (xV 3) sa_nil)) se_int)) se_int) sa_nil)) se_int))))
      (ss_cons (xSet 4 sc_law_well.nd (se_if (xtCmp op_gLt (xV 1) (xBi cr_gLen bt_len L.z_len (by rfl) (xA (xV 0) sa_nil))) (xTy cr_gInt bt_int L.z_int (by rfl) (xA (xIx (xV 0) (xV 1)) sa_nil)) se_int))
      (ss_cons (xSet 2 sc_law_well.nd (se_op op_gMod (xTy cr_gInt bt_int L.z_int (by rfl) (xA (se_op op_gPlus (se_op op_gPlus (se_op op_gTimes (xV 2) se_int) (se_op op_gTimes (se_op op_gMod (xTy cr_gInt bt_int L.z_int (by rfl) (xA (xV 4) sa_nil)) se_int) se_int)) se_int) sa_nil)) se_int))
      (ss_one (ss_ret (se_new (sl_disp (xA (se_if (sw_or (xtCmp op_gLt (xV 4) se_int) (sw_or1 (xtCmp op_gGe (xV 4) (se_op op_gPow se_int se_int)))).pt (xBi cr_gAbs bt_abs L.z_abs (by rfl) (xA (xV 4) sa_nil)) se_int) (xA (xV 2) (xA se_int sa_nil)))))))))))

theorem ok_law_draw (L : LE K mg) : ∃ f fd, Has P w K mg base 1 "_law_draw" st_law_draw ["_law_well_here", "_law_few"] 2 f_law_draw f fd := by
  obtain ⟨f, fd, m, F⟩ := L.d_law_draw
  refine ⟨f, fd, m, F, bd_law_draw F, ?_⟩
  refine fng_sem (k := 0) F sc_law_draw fun cdv A outer s H E hr hg => ?_
  exact (ss_cons (ss_if (xtCmp op_gGt (xIx (xV 0) se_int) se_int) (ss_cons (xAsg (xBi cr_gDivmod bt_divmod L.z_divmod (by rfl) (xA (xIx (xV 0) se_int) (xA (xV 1) sa_nil))) (xGT rfl (xG (xGS (xV 0) se_int) (xG (xNm 3 sc_law_draw.nd) sgs_nil))))
      (ss_one (ss_ret (xV 3)))) ss_nil)
      (ss_cons (xAsg (se_op op_gPlus (xIx (xV 0) se_int) se_int) (xGS (xV 0) se_int))
      (ss_cons (xSet 2 sc_law_draw.nd (se_op op_gMod (xTy cr_gInt bt_int L.z_int (by rfl) (xA (se_op op_gPlus (xIx (xV 0) se_int) (se_op op_gTimes se_int (xIx (xV 0) se_int))) sa_nil)) se_int))
      (ss_cons (xAsg (se_op op_gMod (xTy cr_gInt bt_int L.z_int (by rfl) (xA (se_op op_gPlus (se_op op_gTimes (xV 2) (se_op op_gPlus (se_op op_gMod (xTy cr_gInt bt_int L.z_int (by rfl) (xA (xV 2) sa_nil)) se_int) se_int)) (se_op op_gTimes se_int (xIx (xV 0) se_int))) sa_nil)) se_int) (xGS (xV 0) se_int))
      (ss_one (ss_ret (se_op op_gMod (xTy cr_gInt bt_int L.z_int (by rfl) (xA (se_op op_gDiv (xIx (xV 0) se_int) se_int) sa_nil)) (xV 1))))))))

theorem ok_law_pick (L : LE K mg) : ∃ f fd, Has P w K mg base 2 "_law_pick" st_law_pick ["_law_well_here", "_law_some"] 2 f_law_pick f fd := by
  obtain ⟨_, _, h_law_draw⟩ := ok_law_draw (P := P) (w := w) (base := base) L
  obtain ⟨f, fd, m, F⟩ := L.d_law_pick
  refine ⟨f, fd, m, F, bd_law_pick F, ?_⟩
  refine fng_sem (k := 1) F sc_law_pick fun cdv A outer s H E hr hg => ?_
  exact (ss_one (ss_ret (xIx (xV 1) (xCall h_law_draw (by decide) hr hg (takes_of rfl rfl rfl rfl) (by rfl) (xA (xV 0) (xA (xBi cr_gLen bt_len L.z_len (by rfl) (xA (xV 1) sa_nil)) sa_nil))))))

theorem ok_law_common (L : LE K mg) : ∃ f fd, Has P w K mg base 1 "_law_common" st_law_common ["_law_one", "_law_two"] 2 f_law_common f fd := by
  obtain ⟨f, fd, m, F⟩ := L.d_law_common
  refine ⟨f, fd, m, F, bd_law_common F, ?_⟩
  refine fng_sem (k := 0) F sc_law_common fun cdv A outer s H E hr hg => ?_
  exact (ss_cons (xPar 2 3 rfl sc_law_common.nd (xA (xBi cr_gAbs bt_abs L.z_abs (by rfl) (xA (xV 0) sa_nil)) (xA (xBi cr_gAbs bt_abs L.z_abs (by rfl) (xA (xV 1) sa_nil)) sa_nil)))
      (ss_cons (ss_whileN (passes_of rfl) (xtCmp (op_gNe (hu64 hr)) (xV 3) se_int) (ss_one (xPar 2 3 rfl sc_law_common.nd (xA (xV 3) (xA (se_op op_gMod (xTy cr_gInt bt_int L.z_int (by rfl) (xA (xV 2) sa_nil)) (xV 3)) sa_nil)))))
      (ss_one (ss_ret (xV 2)))))

theorem ok_law_lean (L : LE K mg) : ∃ f fd, Has P w K mg base 2 "_law_lean" st_law_lean ["_law_top", "_law_base"] 2 f_law_lean f fd := by
  obtain ⟨_, _, h_law_common⟩ := ok_law_common (P := P) (w := w) (base := base) L
  obtain ⟨f, fd, m, F⟩ := L.d_law_lean
  refine ⟨f, fd, m, F, bd_law_lean F, ?_⟩
  refine fng_sem (k := 1) F sc_law_lean fun cdv A outer s H E hr hg => ?_
  exact (ss_cons (xSet 2 sc_law_lean.nd (se_if (xtCmp op_gGt (xV 1) se_int) (xCall h_law_common (by decide) hr hg (takes_of rfl rfl rfl rfl) (by rfl) (xA (xV 0) (xA (xV 1) sa_nil))) (se_op op_gSub se_int (xCall h_law_common (by decide) hr hg (takes_of rfl rfl rfl rfl) (by rfl) (xA (xV 0) (xA (xV 1) sa_nil))))))
      (ss_one (ss_ret (se_tup (xA (se_op op_gDiv (xV 0) (xV 2)) (xA (se_op op_gDiv (xV 1) (xV 2)) sa_nil))))))

theorem ok_law_small (L : LE K mg) : ∃ f fd, Has P w K mg base 2 "_law_small" st_law_small ["_law_well_here"] 1 f_law_small f fd := by
  obtain ⟨_, _, h_law_draw⟩ := ok_law_draw (P := P) (w := w) (base := base) L
  obtain ⟨f, fd, m, F⟩ := L.d_law_small
  refine ⟨f, fd, m, F, bd_law_small F, ?_⟩
  refine fng_sem (k := 1) F sc_law_small fun cdv A outer s H E hr hg => ?_
  exact (ss_cons (xSet 1 sc_law_small.nd (xCall h_law_draw (by decide) hr hg (takes_of rfl rfl rfl rfl) (by rfl) (xA (xV 0) (xA se_int sa_nil))))
      (ss_cons (ss_if (xtCmp op_gLt (xV 1) se_int) (ss_one (ss_ret (se_op op_gSub (xCall h_law_draw (by decide) hr hg (takes_of rfl rfl rfl rfl) (by rfl) (xA (xV 0) (xA se_int sa_nil))) se_int))) ss_nil)
      (ss_one (ss_ret (se_if (xtCmp op_gLt (xV 1) se_int) (se_op op_gSub (xCall h_law_draw (by decide) hr hg (takes_of rfl rfl rfl rfl) (by rfl) (xA (xV 0) (xA se_int sa_nil))) se_int) (se_op op_gSub (xCall h_law_draw (by decide) hr hg (takes_of rfl rfl rfl rfl) (by rfl) (xA (xV 0) (xA se_int sa_nil))) se_int))))))

theorem ok_law_part (L : LE K mg) : ∃ f fd, Has P w K mg base 3 "_law_part" st_law_part ["_law_well_here"] 1 f_law_part f fd := by
  obtain ⟨_, _, h_law_pick⟩ := ok_law_pick (P := P) (w := w) (base := base) L
  obtain ⟨_, _, h_law_lean⟩ := ok_law_lean (P := P) (w := w) (base := base) L
  obtain ⟨_, _, h_law_small⟩ := ok_law_small (P := P) (w := w) (base := base) L
  obtain ⟨f, fd, m, F⟩ := L.d_law_part
  refine ⟨f, fd, m, F, bd_law_part F, ?_⟩
  refine fng_sem (k := 2) F sc_law_part fun cdv A outer s H E hr hg => ?_
  exact (ss_cons (xSet 1 sc_law_part.nd (xCall h_law_small (by decide) hr hg (takes_of rfl rfl rfl rfl) (by rfl) (xA (xV 0) sa_nil)))
      (ss_one (ss_ret (xCall h_law_lean (by decide) hr hg (takes_of rfl rfl rfl rfl) (by rfl) (xA (xV 1) (xA (xCall h_law_pick (by decide) hr hg (takes_of rfl rfl rfl rfl) (by rfl) (xA (xV 0) (xA (se_tup (xA se_int (xA se_int (xA se_int (xA se_int (xA se_int (xA se_int (xA se_int (xA se_int sa_nil))))))))) sa_nil))) sa_nil))))))

theorem ok_law_trim (L : LE K mg) : ∃ f fd, Has P w K mg base 1 "_law_trim" st_law_trim ["_law_some"] 1 f_law_trim f fd := by
  obtain ⟨f, fd, m, F⟩ := L.d_law_trim
  refine ⟨f, fd, m, F, bd_law_trim F, ?_⟩
  refine fng_sem (k := 0) F sc_law_trim fun cdv A outer s H E hr hg => ?_
  exact (ss_cons (xSet 1 sc_law_trim.nd (se_new (xList L.z_list (by rfl) (xA (xV 0) sa_nil))))
      (ss_cons (ss_whileN (passes_of rfl) (sw_and (xtCmp (op_gNe (hu64 hr)) (xV 1) (se_frz (sl_disp sa_nil))) (sw_and1 (xtCmp (op_gEq (hu64 hr)) (xIx (xV 1) (se_un un_gNeg se_int)) se_int))).pt (ss_one (xExpr (xPop (xV 1)))))
      (ss_one (ss_ret (xTy cr_gTuple bt_tuple L.z_tuple (by rfl) (xA (xV 1) sa_nil))))))

theorem ok_law_line (L : LE K mg) : ∃ f fd, Has P w K mg base 3 "_law_line" st_law_line ["_law_well_here", "_law_few"] 2 f_law_line f fd := by
  obtain ⟨_, _, h_law_draw⟩ := ok_law_draw (P := P) (w := w) (base := base) L
  obtain ⟨_, _, h_law_small⟩ := ok_law_small (P := P) (w := w) (base := base) L
  obtain ⟨_, _, h_law_trim⟩ := ok_law_trim (P := P) (w := w) (base := base) L
  obtain ⟨f, fd, m, F⟩ := L.d_law_line
  refine ⟨f, fd, m, F, bd_law_line F, ?_⟩
  refine fng_sem (k := 2) F sc_law_line fun cdv A outer s H E hr hg => ?_
  exact (ss_cons (xSet 2 sc_law_line.nd (se_new (sl_disp sa_nil)))
      (ss_cons (xFor (passes_of rfl) rfl (xR1 L.z_range (by rfl) (xA (xCall h_law_draw (by decide) hr hg (takes_of rfl rfl rfl rfl) (by rfl) (xA (xV 0) (xA (se_op op_gPlus (xV 1) se_int) sa_nil))) sa_nil)) (xNm 3 sc_law_line.nd) (ss_one (xExpr (xApp (xV 2) (xA (xCall h_law_small (by decide) hr hg (takes_of rfl rfl rfl rfl) (by rfl) (xA (xV 0) sa_nil)) sa_nil)))))
      (ss_one (ss_ret (xCall h_law_trim (by decide) hr hg (takes_of rfl rfl rfl rfl) (by rfl) (xA (xV 2) sa_nil))))))

theorem ok_law_sum (L : LE K mg) : ∃ f fd, Has P w K mg base 2 "_law_sum" st_law_sum ["_law_one", "_law_two"] 2 f_law_sum f fd := by
  obtain ⟨_, _, h_law_trim⟩ := ok_law_trim (P := P) (w := w) (base := base) L
  obtain ⟨f, fd, m, F⟩ := L.d_law_sum
  refine ⟨f, fd, m, F, bd_law_sum F, ?_⟩
  refine fng_sem (k := 1) F sc_law_sum fun cdv A outer s H E hr hg => ?_
  exact (ss_cons (xSet 2 sc_law_sum.nd (xBi (cr_gMax rfl) bt_max L.z_max (by rfl) (xA (xBi cr_gLen bt_len L.z_len (by rfl) (xA (xV 0) sa_nil)) (xA (xBi cr_gLen bt_len L.z_len (by rfl) (xA (xV 1) sa_nil)) sa_nil))))
      (ss_cons (xSet 3 sc_law_sum.nd (se_op op_gPlus (se_frz (xList L.z_list (by rfl) (xA (xV 0) sa_nil))) (se_frz (sl_rep (se_frz (sl_disp (xA se_int sa_nil))) (se_op op_gSub (xV 2) (xBi cr_gLen bt_len L.z_len (by rfl) (xA (xV 0) sa_nil)))))))
      (ss_cons (xSet 4 sc_law_sum.nd (se_op op_gPlus (se_frz (xList L.z_list (by rfl) (xA (xV 1) sa_nil))) (se_frz (sl_rep (se_frz (sl_disp (xA se_int sa_nil))) (se_op op_gSub (xV 2) (xBi cr_gLen bt_len L.z_len (by rfl) (xA (xV 1) sa_nil)))))))
      (ss_one (ss_ret (xCall h_law_trim (by decide) hr hg (takes_of rfl rfl rfl rfl) (by rfl) (xA (se_frz (xLc [("_law_at", 5)] rfl sc_law_sum.nd (xR1 L.z_range (by rfl) (xA (xV 2) sa_nil)) (fun _ _ _ _ _ => (xwNm 5 sc_law_sum.nd)) (fun _ _ _ _ _ => sts_nil) (fun _ _ _ _ _ => (se_op op_gPlus (xIx (xV 3) (xV 5)) (xIx (xV 4) (xV 5)))) (ok := by exact blkOk_by (show blkC ["_law_one", "_law_two", "_law_few", "_law_far", "_law_rest", "_law_at"] (defScope st_law_sum) _ [("_law_at", 5)] = true from by decide +kernel)))) sa_nil)))))))

theorem ok_law_scaled (L : LE K mg) : ∃ f fd, Has P w K mg base 2 "_law_scaled" st_law_scaled ["_law_line_here", "_law_by"] 2 f_law_scaled f fd := by
  obtain ⟨_, _, h_law_trim⟩ := ok_law_trim (P := P) (w := w) (base := base) L
  obtain ⟨f, fd, m, F⟩ := L.d_law_scaled
  refine ⟨f, fd, m, F, bd_law_scaled F, ?_⟩
  refine fng_sem (k := 1) F sc_law_scaled fun cdv A outer s H E hr hg => ?_
  exact (ss_one (ss_ret (xCall h_law_trim (by decide) hr hg (takes_of rfl rfl rfl rfl) (by rfl) (xA (se_frz (xLc [("_law_each", 2)] rfl sc_law_scaled.nd (si_any (xV 0)) (fun _ _ _ _ _ => (xwNm 2 sc_law_scaled.nd)) (fun _ _ _ _ _ => sts_nil) (fun _ _ _ _ _ => (se_op op_gTimes (xV 1) (xV 2))) (ok := by exact blkOk_by (show blkC ["_law_line_here", "_law_by", "_law_each"] (defScope st_law_scaled) _ [("_law_each", 2)] = true from by decide +kernel)))) sa_nil))))

theorem ok_law_product (L : LE K mg) : ∃ f fd, Has P w K mg base 2 "_law_product" st_law_product ["_law_one", "_law_two"] 2 f_law_product f fd := by
  obtain ⟨_, _, h_law_trim⟩ := ok_law_trim (P := P) (w := w) (base := base) L
  obtain ⟨f, fd, m, F⟩ := L.d_law_product
  refine ⟨f, fd, m, F, bd_law_product F, ?_⟩
  refine fng_sem (k := 1) F sc_law_product fun cdv A outer s H E hr hg => ?_
  exact (ss_cons (xSet 2 sc_law_product.nd (se_new (sl_rep (se_frz (sl_disp (xA se_int sa_nil))) (se_op op_gPlus (xBi cr_gLen bt_len L.z_len (by rfl) (xA (xV 0) sa_nil)) (xBi cr_gLen bt_len L.z_len (by rfl) (xA (xV 1) sa_nil))))))
      (ss_cons (xFor (passes_of rfl) rfl (xEnumT L.z_enumerate (by rfl) (xA (xV 0) sa_nil)) (xGT rfl (xG (xNm 3 sc_law_product.nd) (xG (xNm 4 sc_law_product.nd) sgs_nil))) (ss_one (xFor (passes_of rfl) rfl (xEnumT L.z_enumerate (by rfl) (xA (xV 1) sa_nil)) (xGT rfl (xG (xNm 5 sc_law_product.nd) (xG (xNm 6 sc_law_product.nd) sgs_nil))) (ss_one (xAsg (se_op op_gPlus (xIx (xV 2) (se_op op_gPlus (xV 3) (xV 5))) (se_op op_gTimes (xV 4) (xV 6))) (xGS (xV 2) (se_op op_gPlus (xV 3) (xV 5))))))))
      (ss_one (ss_ret (xCall h_law_trim (by decide) hr hg (takes_of rfl rfl rfl rfl) (by rfl) (xA (xV 2) sa_nil))))))

theorem ok_law_slope (L : LE K mg) : ∃ f fd, Has P w K mg base 1 "_law_slope" st_law_slope ["_law_line_here"] 1 f_law_slope f fd := by
  obtain ⟨f, fd, m, F⟩ := L.d_law_slope
  refine ⟨f, fd, m, F, bd_law_slope F, ?_⟩
  refine fng_sem (k := 0) F sc_law_slope fun cdv A outer s H E hr hg => ?_
  exact (ss_one (ss_ret (xTy cr_gTuple bt_tuple L.z_tuple (by rfl) (xA (se_frz (xLc [("_law_at", 1), ("_law_each", 2)] rfl sc_law_slope.nd (xEnumT L.z_enumerate (by rfl) (xA (xV 0) sa_nil)) (fun _ _ _ _ _ => (xwGT rfl (xwG (xwNm 1 sc_law_slope.nd) (xwG (xwNm 2 sc_law_slope.nd) sgsw_nil)))) (fun _ _ _ _ _ => (sts_one (xtCmp op_gGt (xV 1) se_int))) (fun _ _ _ _ _ => (se_op op_gTimes (xV 1) (xV 2))) (ok := by exact blkOk_by (show blkC ["_law_line_here", "_law_at", "_law_each"] (defScope st_law_slope) _ [("_law_at", 1), ("_law_each", 2)] = true from by decide +kernel)))) sa_nil))))

theorem ok_law_value (L : LE K mg) : ∃ f fd, Has P w K mg base 1 "_law_value" st_law_value ["_law_line_here", "_law_part_here"] 2 f_law_value f fd := by
  obtain ⟨f, fd, m, F⟩ := L.d_law_value
  refine ⟨f, fd, m, F, bd_law_value F, ?_⟩
  refine fng_sem (k := 0) F sc_law_value fun cdv A outer s H E hr hg => ?_
  exact (ss_cons (xAsg (se_tup (xA se_int (xA se_int sa_nil))) (xGT rfl (xG (xNm 3 sc_law_value.nd) (xG (xNm 4 sc_law_value.nd) sgs_nil))))
      (ss_cons (xFor (passes_of rfl) rfl (si_any (se_rev (xV 0))) (xNm 2 sc_law_value.nd) (ss_one (xPar 3 4 rfl sc_law_value.nd (xA (se_op op_gPlus (se_op op_gTimes (xV 3) (xIx (xV 1) se_int)) (se_op op_gTimes (xV 2) (xV 4))) (xA (se_op op_gTimes (xV 4) (xIx (xV 1) se_int)) sa_nil)))))
      (ss_one (ss_ret (xV 3)))))

theorem ok_law_worth (L : LE K mg) : ∃ f fd, Has P w K mg base 3 "_law_worth" st_law_worth ["_law_line_here", "_law_part_here"] 2 f_law_worth f fd := by
  obtain ⟨_, _, h_law_lean⟩ := ok_law_lean (P := P) (w := w) (base := base) L
  obtain ⟨_, _, h_law_value⟩ := ok_law_value (P := P) (w := w) (base := base) L
  obtain ⟨f, fd, m, F⟩ := L.d_law_worth
  refine ⟨f, fd, m, F, bd_law_worth F, ?_⟩
  refine fng_sem (k := 2) F sc_law_worth fun cdv A outer s H E hr hg => ?_
  exact (ss_cons (xSet 2 sc_law_worth.nd se_int)
      (ss_cons (xFor (passes_of rfl) rfl (si_any (se_sl (xV 0) (so_some se_int) so_none)) (xNm 3 sc_law_worth.nd) (ss_one (xSet 2 sc_law_worth.nd (se_op op_gTimes (xV 2) (xIx (xV 1) se_int)))))
      (ss_one (ss_ret (xCall h_law_lean (by decide) hr hg (takes_of rfl rfl rfl rfl) (by rfl) (xA (xCall h_law_value (by decide) hr hg (takes_of rfl rfl rfl rfl) (by rfl) (xA (xV 0) (xA (xV 1) sa_nil))) (xA (xV 2) sa_nil)))))))

theorem ok_law_thin (L : LE K mg) : ∃ f fd, Has P w K mg base 2 "_law_thin" st_law_thin ["_law_line_here"] 1 f_law_thin f fd := by
  obtain ⟨_, _, h_law_common⟩ := ok_law_common (P := P) (w := w) (base := base) L
  obtain ⟨f, fd, m, F⟩ := L.d_law_thin
  refine ⟨f, fd, m, F, bd_law_thin F, ?_⟩
  refine fng_sem (k := 1) F sc_law_thin fun cdv A outer s H E hr hg => ?_
  exact (ss_cons (xSet 1 sc_law_thin.nd se_int)
      (ss_cons (xFor (passes_of rfl) rfl (si_any (xV 0)) (xNm 2 sc_law_thin.nd) (ss_one (xSet 1 sc_law_thin.nd (xCall h_law_common (by decide) hr hg (takes_of rfl rfl rfl rfl) (by rfl) (xA (xV 1) (xA (xV 2) sa_nil))))))
      (ss_one (ss_ret (xTy cr_gTuple bt_tuple L.z_tuple (by rfl) (xA (se_frz (xLc [("_law_each", 2)] rfl sc_law_thin.nd (si_any (xV 0)) (fun _ _ _ _ _ => (xwNm 2 sc_law_thin.nd)) (fun _ _ _ _ _ => sts_nil) (fun _ _ _ _ _ => (se_op op_gDiv (xV 2) (xV 1))) (ok := by exact blkOk_by (show blkC ["_law_line_here", "_law_far", "_law_each"] (defScope st_law_thin) _ [("_law_each", 2)] = true from by decide +kernel)))) sa_nil))))))

theorem ok_law_prime (L : LE K mg) : ∃ f fd, Has P w K mg base 3 "_law_prime" st_law_prime ["_law_line_here"] 1 f_law_prime f fd := by
  obtain ⟨_, _, h_law_thin⟩ := ok_law_thin (P := P) (w := w) (base := base) L
  obtain ⟨f, fd, m, F⟩ := L.d_law_prime
  refine ⟨f, fd, m, F, bd_law_prime F, ?_⟩
  refine fng_sem (k := 2) F sc_law_prime fun cdv A outer s H E hr hg => ?_
  exact (ss_cons (xSet 1 sc_law_prime.nd (xCall h_law_thin (by decide) hr hg (takes_of rfl rfl rfl rfl) (by rfl) (xA (xV 0) sa_nil)))
      (ss_one (ss_ret (se_if (sw_or (xtCmp (op_gEq (hu64 hr)) (xV 0) (se_tup sa_nil)) (sw_or1 (xtCmp op_gGt (xIx (xV 0) (se_un un_gNeg se_int)) se_int))).pt (xV 1) (xTy cr_gTuple bt_tuple L.z_tuple (by rfl) (xA (se_frz (xLc [("_law_each", 2)] rfl sc_law_prime.nd (si_any (xV 1)) (fun _ _ _ _ _ => (xwNm 2 sc_law_prime.nd)) (fun _ _ _ _ _ => sts_nil) (fun _ _ _ _ _ => (se_op op_gSub se_int (xV 2))) (ok := by exact blkOk_by (show blkC ["_law_line_here", "_law_found", "_law_each"] (defScope st_law_prime) _ [("_law_each", 2)] = true from by decide +kernel)))) sa_nil))))))

theorem ok_law_is_whole (L : LE K mg) : ∃ f fd, Has P w K mg base 1 "_law_is_whole" st_law_is_whole ["_law_thing"] 1 f_law_is_whole f fd := by
  obtain ⟨f, fd, m, F⟩ := L.d_law_is_whole
  refine ⟨f, fd, m, F, bd_law_is_whole F, ?_⟩
  refine fng_sem (k := 0) F sc_law_is_whole fun cdv A outer s H E hr hg => ?_
  exact (ss_one (ss_ret (se_and (xIsi bt_int L.z_isinstance L.z_int (by rfl) (by rfl) (xV 0)) (se_one (se_not (xIsi bt_bool L.z_isinstance L.z_bool (by rfl) (by rfl) (xV 0)))))))

theorem ok_law_is_row (L : LE K mg) : ∃ f fd, Has P w K mg base 2 "_law_is_row" st_law_is_row ["_law_thing"] 1 f_law_is_row f fd := by
  obtain ⟨_, _, h_law_is_whole⟩ := ok_law_is_whole (P := P) (w := w) (base := base) L
  obtain ⟨f, fd, m, F⟩ := L.d_law_is_row
  refine ⟨f, fd, m, F, bd_law_is_row F, ?_⟩
  refine fng_sem (k := 1) F sc_law_is_row fun cdv A outer s H E hr hg => ?_
  exact (ss_cons (ss_if (sw_or (st_not (xtVal (xIsi bt_tuple L.z_isinstance L.z_tuple (by rfl) (by rfl) (xV 0)))) (sw_or1 (st_not (xtVal (xBi (cr_gAll rfl) bt_all L.z_all (by rfl) (xA (se_frz (xLc [("_law_each", 1)] rfl sc_law_is_row.nd (si_any (xV 0)) (fun _ _ _ _ _ => (xwNm 1 sc_law_is_row.nd)) (fun _ _ _ _ _ => sts_nil) (fun _ _ _ _ _ => (xCall h_law_is_whole (by decide) hr hg takes0 (by rfl) (xA (xV 1) sa_nil))) (ok := by exact blkOk_by (show blkC ["_law_thing", "_law_each"] (defScope st_law_is_row) _ [("_law_each", 1)] = true from by decide +kernel)))) sa_nil)))))).pt (ss_one (ss_ret se_bl)) ss_nil)
      (ss_one (ss_ret (se_or (xCmp (op_gEq (hu64 hr)) (xV 0) (se_tup sa_nil)) (se_one (xCmp (op_gNe (hu64 hr)) (xIx (xV 0) (se_un un_gNeg se_int)) se_int))))))

theorem ok_law_odd (L : LE K mg) : ∃ f fd, Has P w K mg base 3 "_law_odd" st_law_odd ["_law_well_here"] 1 f_law_odd f fd := by
  obtain ⟨_, _, h_law_pick⟩ := ok_law_pick (P := P) (w := w) (base := base) L
  obtain ⟨f, fd, m, F⟩ := L.d_law_odd
  refine ⟨f, fd, m, F, bd_law_odd F, ?_⟩
  refine fng_sem (k := 2) F sc_law_odd fun cdv A outer s H E hr hg => ?_
  exact (ss_one (ss_ret (xCall h_law_pick (by decide) hr hg (takes_of rfl rfl rfl rfl) (by rfl) (xA (xV 0) (xA (se_tup (xA se_non (xA se_bl (xA se_bl (xA se_int (xA se_int (xA (se_un un_gNeg se_int) (xA se_int (xA (se_op op_gPow se_int se_int) (xA se_str (xA se_str (xA se_str (xA (se_tup sa_nil) (xA (se_tup (xA se_int sa_nil)) (xA (se_tup (xA se_int sa_nil)) (xA (se_tup (xA se_int (xA se_int sa_nil))) (xA (se_tup (xA se_int (xA se_int sa_nil))) (xA (se_tup (xA se_int (xA se_int sa_nil))) (xA (se_tup (xA se_int (xA se_int sa_nil))) (xA (se_tup (xA se_int (xA se_int sa_nil))) (xA (se_tup (xA se_int (xA (se_un un_gNeg se_int) sa_nil))) (xA (se_tup (xA se_bl (xA se_int sa_nil))) (xA (se_tup (xA se_int (xA se_bl sa_nil))) (xA (se_tup (xA se_int (xA se_int (xA se_int sa_nil)))) (xA (se_tup (xA se_int (xA se_int (xA se_int sa_nil)))) (xA (se_tup (xA (se_tup sa_nil) sa_nil)) (xA (se_tup (xA (se_tup (xA se_int (xA se_int sa_nil))) sa_nil)) (xA (se_tup (xA (se_tup (xA se_int (xA se_int sa_nil))) (xA (se_tup (xA se_int (xA se_int sa_nil))) sa_nil))) (xA (se_tup (xA (se_tup (xA se_int sa_nil)) (xA (se_tup (xA se_int (xA se_int sa_nil))) sa_nil))) (xA (se_frz (sl_disp sa_nil)) (xA (se_frz (sl_disp (xA se_int (xA se_int sa_nil)))) (xA (se_frz (sl_disp (xA (se_tup (xA se_int (xA se_int sa_nil))) sa_nil))) (xA se_dic (xA (se_tup (xA se_non (xA se_int sa_nil))) (xA (se_tup (xA se_str (xA se_int sa_nil))) (xA (se_tup (xA (se_tup (xA (se_un un_gNeg se_int) (xA se_int (xA se_int sa_nil)))) (xA se_int sa_nil))) (xA (se_tup (xA (se_tup (xA (se_un un_gNeg se_int) (xA se_int (xA se_int sa_nil)))) (xA se_int sa_nil))) (xA (se_tup (xA (se_tup (xA (se_un un_gNeg se_int) (xA se_int (xA se_int sa_nil)))) (xA se_bl sa_nil))) (xA (se_tup (xA (se_tup (xA (se_un un_gNeg se_int) (xA se_int (xA se_int sa_nil)))) (xA (se_un un_gNeg se_int) sa_nil))) (xA (se_tup (xA (se_tup (xA se_int (xA se_int (xA (se_un un_gNeg se_int) sa_nil)))) (xA se_int sa_nil))) (xA (se_tup (xA (se_tup (xA (se_un un_gNeg se_int) (xA se_int (xA se_int sa_nil)))) (xA se_int sa_nil))) (xA (se_tup (xA (se_tup (xA (se_un un_gNeg se_int) (xA se_int (xA se_int sa_nil)))) (xA se_int sa_nil))) (xA (se_tup (xA (se_tup (xA se_int (xA se_int (xA (se_un un_gNeg se_int) (xA se_int (xA se_int sa_nil)))))) (xA se_int sa_nil))) (xA (se_tup (xA (se_tup sa_nil) (xA (se_tup (xA se_bl sa_nil)) sa_nil))) (xA (se_tup (xA (se_tup sa_nil) (xA (se_tup (xA se_int sa_nil)) sa_nil))) (xA (se_tup (xA (se_tup (xA (se_tup (xA se_int (xA se_int sa_nil))) sa_nil)) (xA (se_tup (xA se_bl (xA se_bl (xA se_bl sa_nil)))) sa_nil))) (xA (se_tup (xA se_str sa_nil)) (xA se_str (xA (se_tup (xA se_int (xA se_int sa_nil))) (xA (se_tup (xA (se_tup (xA (se_tup (xA se_int (xA se_int sa_nil))) sa_nil)) (xA (se_tup (xA se_bl (xA se_bl (xA se_bl sa_nil)))) sa_nil))) (xA (se_tup (xA se_str (xA (se_tup (xA (se_tup (xA se_int (xA se_int sa_nil))) sa_nil)) sa_nil))) (xA (se_tup (xA (se_frz (sl_disp (xA se_int (xA se_int sa_nil)))) (xA se_int sa_nil))) (xA (se_tup (xA (se_tup (xA se_int (xA se_int sa_nil))) (xA (se_tup sa_nil) sa_nil))) sa_nil))))))))))))))))))))))))))))))))))))))))))))))))))))) sa_nil)))))

theorem ok_law_bent (n : Nat) (L : LE K mg) : ∃ f fd, Has P w K mg base (3 + n) "_law_bent" st_law_bent ["_law_well_here", "_law_thing"] 2 (f_law_bent n) f fd := by
  obtain ⟨_, _, h_law_draw⟩ := ok_law_draw (P := P) (w := w) (base := base) L
  obtain ⟨_, _, h_law_odd⟩ := ok_law_odd (P := P) (w := w) (base := base) L
  obtain ⟨f, fd, m, F⟩ := L.d_law_bent
  refine ⟨f, fd, m, F, bd_law_bent F, ?_⟩
  induction n with
  | zero => exact fng_bad rfl
  | succ n ih =>
    have hrec : Has P w K mg base (3 + n) "_law_bent" st_law_bent ["_law_well_here", "_law_thing"] 2 (f_law_bent n) f fd := ⟨m, F, bd_law_bent F, ih⟩
    have hle : 3 + n ≤ 3 + n := Nat.le_refl _
    refine fng_sem (k := 3 + n) F sc_law_bent fun cdv A outer s H E hr hg => ?_
    exact (ss_cons (ss_if (sw_and (xtVal (xIsi bt_tuple L.z_isinstance L.z_tuple (by rfl) (by rfl) (xV 1))) (sw_and (xtCmp (op_gNe (hu64 hr)) (xV 1) (se_tup sa_nil)) (sw_and1 (xtCmp op_gGt (xCall h_law_draw (Nat.le_trans (by decide : 1 ≤ 3) (Nat.le_add_right _ _)) hr hg (takes_of rfl rfl rfl rfl) (by rfl) (xA (xV 0) (xA se_int sa_nil))) se_int)))).pt (ss_cons (xSet 3 sc_law_bent.nd (xCall h_law_draw (Nat.le_trans (by decide : 1 ≤ 3) (Nat.le_add_right _ _)) hr hg (takes_of rfl rfl rfl rfl) (by rfl) (xA (xV 0) (xA (xBi cr_gLen bt_len L.z_len (by rfl) (xA (xV 1) sa_nil)) sa_nil))))
      (ss_one (ss_ret (se_op op_gPlus (se_op op_gPlus (se_sl (xV 1) so_none (so_some (xV 3))) (se_tup (xA (xCall hrec hle hr hg (takes_of rfl rfl rfl rfl) (by rfl) (xA (xV 0) (xA (xIx (xV 1) (xV 3)) sa_nil))) sa_nil))) (se_sl (xV 1) (so_some (se_op op_gPlus (xV 3) se_int)) so_none))))) ss_nil)
      (ss_cons (xSet 2 sc_law_bent.nd (xCall h_law_draw (Nat.le_trans (by decide : 1 ≤ 3) (Nat.le_add_right _ _)) hr hg (takes_of rfl rfl rfl rfl) (by rfl) (xA (xV 0) (xA se_int sa_nil))))
      (ss_cons (ss_if (sw_and (xtVal (xIsi bt_tuple L.z_isinstance L.z_tuple (by rfl) (by rfl) (xV 1))) (sw_and1 (xtCmp op_gLt (xV 2) se_int))).pt (ss_one (ss_ret (xIx (se_tup (xA (se_frz (xList L.z_list (by rfl) (xA (xV 1) sa_nil))) (xA (se_sl (xV 1) so_none (so_some (se_un un_gNeg se_int))) (xA (se_op op_gPlus (xV 1) (se_sl (xV 1) (so_some (se_un un_gNeg se_int)) so_none)) (xA (se_rev (xV 1)) (xA (se_sl (xV 1) (so_some se_int) so_none) (xA (se_op op_gPlus (se_sl (xV 1) so_none (so_some se_int)) (xV 1)) sa_nil))))))) (xV 2)))) ss_nil)
      (ss_cons (ss_if (sw_and (xtVal (xIsi bt_int L.z_isinstance L.z_int (by rfl) (by rfl) (xV 1))) (sw_and1 (xtCmp op_gLt (xV 2) se_int))).pt (ss_one (ss_ret (xIx (se_tup (xA (se_op op_gPlus (xV 1) se_int) (xA (se_op op_gSub se_int (xV 1)) (xA (se_op op_gTimes se_int (xV 1)) (xA (se_op op_gSub (xV 1) se_int) (xA (xCmp (op_gEq (hu64 hr)) (xV 1) se_int) sa_nil)))))) (xV 2)))) ss_nil)
      (ss_one (ss_ret (xCall h_law_odd (Nat.le_trans (by decide : 3 ≤ 3) (Nat.le_add_right _ _)) hr hg (takes_of rfl rfl rfl rfl) (by rfl) (xA (xV 0) sa_nil))))))))

theorem ok_law_turned (L : LE K mg) : ∃ f fd, Has P w K mg base 3 "_law_turned" st_law_turned ["_law_well_here", "_law_one"] 2 f_law_turned f fd := by
  obtain ⟨_, _, h_law_draw⟩ := ok_law_draw (P := P) (w := w) (base := base) L
  obtain ⟨_, _, h_law_small⟩ := ok_law_small (P := P) (w := w) (base := base) L
  obtain ⟨_, _, h_law_trim⟩ := ok_law_trim (P := P) (w := w) (base := base) L
  obtain ⟨f, fd, m, F⟩ := L.d_law_turned
  refine ⟨f, fd, m, F, bd_law_turned F, ?_⟩
  refine fng_sem (k := 2) F sc_law_turned fun cdv A outer s H E hr hg => ?_
  exact (ss_cons (xSet 2 sc_law_turned.nd (xCall h_law_draw (by decide) hr hg (takes_of rfl rfl rfl rfl) (by rfl) (xA (xV 0) (xA (se_op op_gPlus (xBi cr_gLen bt_len L.z_len (by rfl) (xA (xV 1) sa_nil)) se_int) sa_nil))))
      (ss_cons (xSet 3 sc_law_turned.nd (se_new (sl_disp sa_nil)))
      (ss_cons (xFor (passes_of rfl) rfl (xR1 L.z_range (by rfl) (xA (xV 2) sa_nil)) (xNm 4 sc_law_turned.nd) (ss_one (xExpr (xApp (xV 3) (xA (xCall h_law_small (by decide) hr hg (takes_of rfl rfl rfl rfl) (by rfl) (xA (xV 0) sa_nil)) sa_nil)))))
      (ss_one (ss_ret (xCall h_law_trim (by decide) hr hg (takes_of rfl rfl rfl rfl) (by rfl) (xA (se_op op_gPlus (xV 3) (se_frz (xLc [("_law_each", 5)] rfl sc_law_turned.nd (si_any (se_sl (xV 1) (so_some (xV 2)) so_none)) (fun _ _ _ _ _ => (xwNm 5 sc_law_turned.nd)) (fun _ _ _ _ _ => sts_nil) (fun _ _ _ _ _ => (se_op op_gSub se_int (xV 5))) (ok := by exact blkOk_by (show blkC ["_law_well_here", "_law_one", "_law_spot", "_law_low", "_law_at", "_law_each"] (defScope st_law_turned) _ [("_law_each", 5)] = true from by decide +kernel))))) sa_nil)))))))

theorem ok_law_put_in (L : LE K mg) : ∃ f fd, Has P w K mg base 3 "_law_put_in" st_law_put_in ["_law_one", "_law_two"] 2 f_law_put_in f fd := by
  obtain ⟨_, _, h_law_trim⟩ := ok_law_trim (P := P) (w := w) (base := base) L
  obtain ⟨_, _, h_law_sum⟩ := ok_law_sum (P := P) (w := w) (base := base) L
  obtain ⟨_, _, h_law_product⟩ := ok_law_product (P := P) (w := w) (base := base) L
  obtain ⟨f, fd, m, F⟩ := L.d_law_put_in
  refine ⟨f, fd, m, F, bd_law_put_in F, ?_⟩
  refine fng_sem (k := 2) F sc_law_put_in fun cdv A outer s H E hr hg => ?_
  exact (ss_cons (xSet 2 sc_law_put_in.nd (se_tup sa_nil))
      (ss_cons (xFor (passes_of rfl) rfl (si_any (se_rev (xV 0))) (xNm 3 sc_law_put_in.nd) (ss_one (xSet 2 sc_law_put_in.nd (xCall h_law_sum (by decide) hr hg (takes_of rfl rfl rfl rfl) (by rfl) (xA (xCall h_law_product (by decide) hr hg (takes_of rfl rfl rfl rfl) (by rfl) (xA (xV 2) (xA (xV 1) sa_nil))) (xA (xCall h_law_trim (by decide) hr hg (takes_of rfl rfl rfl rfl) (by rfl) (xA (se_tup (xA (xV 3) sa_nil)) sa_nil)) sa_nil))))))
      (ss_one (ss_ret (xV 2)))))

theorem ok_law_right (L : LE K mg) : ∃ f fd, Has P w K mg base 16 "_law_right" st_law_right ["_law_well_here"] 1 f_law_right f fd := by
  obtain ⟨_, _, h_is_row⟩ := ok_is_row (P := P) (w := w) (base := base) L
  obtain ⟨_, _, h_plus⟩ := ok_plus (P := P) (w := w) (base := base) L
  obtain ⟨_, _, h_less⟩ := ok_less (P := P) (w := w) (base := base) L
  obtain ⟨_, _, h_times⟩ := ok_times (P := P) (w := w) (base := base) L
  obtain ⟨_, _, h_derivative⟩ := ok_derivative (P := P) (w := w) (base := base) L
  obtain ⟨_, _, h_value_at⟩ := ok_value_at (P := P) (w := w) (base := base) L
  obtain ⟨_, _, h_prime_part⟩ := ok_prime_part (P := P) (w := w) (base := base) L
  obtain ⟨_, _, h_put_in⟩ := ok_put_in (P := P) (w := w) (base := base) L
  obtain ⟨_, _, h_law_draw⟩ := ok_law_draw (P := P) (w := w) (base := base) L
  obtain ⟨_, _, h_law_part⟩ := ok_law_part (P := P) (w := w) (base := base) L
  obtain ⟨_, _, h_law_line⟩ := ok_law_line (P := P) (w := w) (base := base) L
  obtain ⟨_, _, h_law_sum⟩ := ok_law_sum (P := P) (w := w) (base := base) L
  obtain ⟨_, _, h_law_scaled⟩ := ok_law_scaled (P := P) (w := w) (base := base) L
  obtain ⟨_, _, h_law_product⟩ := ok_law_product (P := P) (w := w) (base := base) L
  obtain ⟨_, _, h_law_slope⟩ := ok_law_slope (P := P) (w := w) (base := base) L
  obtain ⟨_, _, h_law_worth⟩ := ok_law_worth (P := P) (w := w) (base := base) L
  obtain ⟨_, _, h_law_prime⟩ := ok_law_prime (P := P) (w := w) (base := base) L
  obtain ⟨_, _, h_law_is_row⟩ := ok_law_is_row (P := P) (w := w) (base := base) L
  obtain ⟨_, _, h_law_odd⟩ := ok_law_odd (P := P) (w := w) (base := base) L
  obtain ⟨_, _, h_law_bent⟩ := ok_law_bent 12 (P := P) (w := w) (base := base) L
  obtain ⟨_, _, h_law_turned⟩ := ok_law_turned (P := P) (w := w) (base := base) L
  obtain ⟨_, _, h_law_put_in⟩ := ok_law_put_in (P := P) (w := w) (base := base) L
  obtain ⟨f, fd, m, F⟩ := L.d_law_right
  refine ⟨f, fd, m, F, bd_law_right F, ?_⟩
  refine fng_sem (k := 15) F sc_law_right fun cdv A outer s H E hr hg => ?_
  exact (ss_cons (xPar 5 6 rfl sc_law_right.nd (xA (xCall h_law_line (by decide) hr hg (takes_of rfl rfl rfl rfl) (by rfl) (xA (xV 0) (xA se_int sa_nil))) (xA (xCall h_law_part (by decide) hr hg (takes_of rfl rfl rfl rfl) (by rfl) (xA (xV 0) sa_nil)) sa_nil)))
      (ss_cons (xSet 1 sc_law_right.nd (se_if (xtCmp (op_gEq (hu64 hr)) (xCall h_law_draw (by decide) hr hg (takes_of rfl rfl rfl rfl) (by rfl) (xA (xV 0) (xA se_int sa_nil))) se_int) (xCall h_law_turned (by decide) hr hg (takes_of rfl rfl rfl rfl) (by rfl) (xA (xV 0) (xA (xV 5) sa_nil))) (xCall h_law_line (by decide) hr hg (takes_of rfl rfl rfl rfl) (by rfl) (xA (xV 0) (xA se_int sa_nil)))))
      (ss_cons (xSet 2 sc_law_right.nd (se_frz (sl_disp (xA (xCall h_law_sum (by decide) hr hg (takes_of rfl rfl rfl rfl) (by rfl) (xA (xV 5) (xA (xV 1) sa_nil))) (xA (xCall h_law_sum (by decide) hr hg (takes_of rfl rfl rfl rfl) (by rfl) (xA (xV 5) (xA (xCall h_law_scaled (by decide) hr hg (takes_of rfl rfl rfl rfl) (by rfl) (xA (xV 1) (xA (se_op op_gSub se_int se_int) sa_nil))) sa_nil))) (xA (xCall h_law_product (by decide) hr hg (takes_of rfl rfl rfl rfl) (by rfl) (xA (xV 5) (xA (xV 1) sa_nil))) (xA (xCall h_law_slope (by decide) hr hg (takes_of rfl rfl rfl rfl) (by rfl) (xA (xV 5) sa_nil)) sa_nil)))))))
      (ss_cons (xSet 2 sc_law_right.nd (se_op op_gPlus (xV 2) (se_frz (sl_disp (xA (xCall h_law_worth (by decide) hr hg (takes_of rfl rfl rfl rfl) (by rfl) (xA (xV 5) (xA (xV 6) sa_nil))) (xA (xCall h_law_prime (by decide) hr hg (takes_of rfl rfl rfl rfl) (by rfl) (xA (xV 5) sa_nil)) (xA (xCall h_law_put_in (by decide) hr hg (takes_of rfl rfl rfl rfl) (by rfl) (xA (xV 5) (xA (xV 1) sa_nil))) (xA (xCall h_law_put_in (by decide) hr hg (takes_of rfl rfl rfl rfl) (by rfl) (xA (xV 1) (xA (xV 5) sa_nil))) sa_nil))))))))
      (ss_cons (xSet 3 sc_law_right.nd (se_frz (sl_disp (xA (xCall h_plus (by decide) hr hg (takes_of rfl rfl rfl rfl) (by rfl) (xA (xV 5) (xA (xV 1) sa_nil))) (xA (xCall h_less (by decide) hr hg (takes_of rfl rfl rfl rfl) (by rfl) (xA (xV 5) (xA (xV 1) sa_nil))) (xA (xCall h_times (by decide) hr hg (takes_of rfl rfl rfl rfl) (by rfl) (xA (xV 5) (xA (xV 1) sa_nil))) (xA (xCall h_derivative (by decide) hr hg (takes_of rfl rfl rfl rfl) (by rfl) (xA (xV 5) sa_nil)) sa_nil)))))))
      (ss_cons (xSet 3 sc_law_right.nd (se_op op_gPlus (xV 3) (se_frz (sl_disp (xA (xCall h_value_at (by decide) hr hg (takes_of rfl rfl rfl rfl) (by rfl) (xA (xV 5) (xA (xV 6) sa_nil))) (xA (xCall h_prime_part (by decide) hr hg (takes_of rfl rfl rfl rfl) (by rfl) (xA (xV 5) sa_nil)) (xA (xCall h_put_in (by decide) hr hg (takes_of rfl rfl rfl rfl) (by rfl) (xA (xV 5) (xA (xV 1) sa_nil))) (xA (xCall h_put_in (by decide) hr hg (takes_of rfl rfl rfl rfl) (by rfl) (xA (xV 1) (xA (xV 5) sa_nil))) sa_nil))))))))
      (ss_cons (ss_if (xtCmp (op_gNe (hu64 hr)) (xBi (cr_gRepr hg (hu64 hr)) bt_repr L.z_repr (by rfl) (xA (xV 3) sa_nil)) (xBi (cr_gRepr hg (hu64 hr)) bt_repr L.z_repr (by rfl) (xA (xV 2) sa_nil))) (ss_one (ss_ret se_bl)) ss_nil)
      (ss_cons (xSet 3 sc_law_right.nd (se_frz (sl_disp (xA (xCallK h_plus (kb_plus_1_0 h_plus.F) (by decide) hr hg (takes_of rfl rfl rfl rfl) (by rfl) (sk_cons (xV 1) (sk_cons (xV 5) sk_nil))) (xA (xCallK h_less (kb_less_1_0 h_less.F) (by decide) hr hg (takes_of rfl rfl rfl rfl) (by rfl) (sk_cons (xV 1) (sk_cons (xV 5) sk_nil))) (xA (xCallK h_times (kb_times_1_0 h_times.F) (by decide) hr hg (takes_of rfl rfl rfl rfl) (by rfl) (sk_cons (xV 1) (sk_cons (xV 5) sk_nil))) (xA (xCallK h_derivative (kb_derivative_0 h_derivative.F) (by decide) hr hg (takes_of rfl rfl rfl rfl) (by rfl) (sk_cons (xV 5) sk_nil)) sa_nil)))))))
      (ss_cons (xSet 3 sc_law_right.nd (se_op op_gPlus (xV 3) (se_frz (sl_disp (xA (xCallK h_value_at (kb_value_at_1_0 h_value_at.F) (by decide) hr hg (takes_of rfl rfl rfl rfl) (by rfl) (sk_cons (xV 6) (sk_cons (xV 5) sk_nil))) (xA (xCallK h_prime_part (kb_prime_part_0 h_prime_part.F) (by decide) hr hg (takes_of rfl rfl rfl rfl) (by rfl) (sk_cons (xV 5) sk_nil)) (xA (xCallK h_put_in (kb_put_in_1_0 h_put_in.F) (by decide) hr hg (takes_of rfl rfl rfl rfl) (by rfl) (sk_cons (xV 1) (sk_cons (xV 5) sk_nil))) sa_nil)))))))
      (ss_cons (ss_if (xtCmp (op_gNe (hu64 hr)) (xBi (cr_gRepr hg (hu64 hr)) bt_repr L.z_repr (by rfl) (xA (xV 3) sa_nil)) (xBi (cr_gRepr hg (hu64 hr)) bt_repr L.z_repr (by rfl) (xA (se_sl (xV 2) so_none (so_some se_int)) sa_nil))) (ss_one (ss_ret se_bl)) ss_nil)
      (ss_cons (xSet 4 sc_law_right.nd (se_frz (sl_disp (xA (xV 5) (xA (xV 6) (xA (se_frz (xList L.z_list (by rfl) (xA (xV 1) sa_nil))) (xA (se_op op_gPlus (xV 5) (se_tup (xA se_int sa_nil))) (xA (xCall h_law_bent (by decide) hr hg (takes_of rfl rfl rfl rfl) (by rfl) (xA (xV 0) (xA (xV 5) sa_nil))) (xA (xCall h_law_bent (by decide) hr hg (takes_of rfl rfl rfl rfl) (by rfl) (xA (xV 0) (xA (xV 1) sa_nil))) (xA (xCall h_law_odd (by decide) hr hg (takes_of rfl rfl rfl rfl) (by rfl) (xA (xV 0) sa_nil)) sa_nil))))))))))
      (ss_one (ss_ret (xBi (cr_gAll rfl) bt_all L.z_all (by rfl) (xA (se_frz (xLc [("_law_each", 7)] rfl sc_law_right.nd (si_any (xV 4)) (fun _ _ _ _ _ => (xwNm 7 sc_law_right.nd)) (fun _ _ _ _ _ => sts_nil) (fun _ _ _ _ _ => (xCmp (op_gEq (hu64 hr)) (xBi (cr_gRepr hg (hu64 hr)) bt_repr L.z_repr (by rfl) (xA (xCall h_is_row (by decide) hr hg takes0 (by rfl) (xA (xV 7) sa_nil)) sa_nil)) (xBi (cr_gRepr hg (hu64 hr)) bt_repr L.z_repr (by rfl) (xA (xCall h_law_is_row (by decide) hr hg takes0 (by rfl) (xA (xV 7) sa_nil)) sa_nil)))) (ok := by exact blkOk_by (show blkC ["_law_well_here", "_law_two", "_law_due", "_law_told", "_law_some", "_law_one", "_law_part_here", "_law_each"] (defScope st_law_right) _ [("_law_each", 7)] = true from by decide +kernel)))) sa_nil)))))))))))))))

theorem ok_law (L : LE K mg) : ∃ f fd, Has P w K mg base 17 "law" st_law ["_law_script"] 1 f_law f fd := by
  obtain ⟨_, _, h_law_well⟩ := ok_law_well (P := P) (w := w) (base := base) L
  obtain ⟨_, _, h_law_right⟩ := ok_law_right (P := P) (w := w) (base := base) L
  obtain ⟨f, fd, m, F⟩ := L.d_law
  refine ⟨f, fd, m, F, bd_law F, ?_⟩
  refine fng_sem (k := 16) F sc_law fun cdv A outer s H E hr hg => ?_
  exact (ss_one (ss_ret (xBi (cr_gAll rfl) bt_all L.z_all (by rfl) (xA (se_frz (xLc [("_law_at", 1)] rfl sc_law.nd (xR1 L.z_range (by rfl) (xA (xBi (cr_gMax rfl) bt_max L.z_max (by rfl) (xA se_int (xA (xBi (cr_gMin rfl) bt_min L.z_min (by rfl) (xA (xBi cr_gLen bt_len L.z_len (by rfl) (xA (xV 0) sa_nil)) (xA se_int sa_nil))) sa_nil))) sa_nil)) (fun _ _ _ _ _ => (xwNm 1 sc_law.nd)) (fun _ _ _ _ _ => sts_nil) (fun _ _ _ _ _ => (xCall h_law_right (by decide) hr hg takes0 (by rfl) (xA (xCall h_law_well (by decide) hr hg takes0 (by rfl) (xA (xV 0) (xA (xV 1) sa_nil))) sa_nil))) (ok := by exact blkOk_by (show blkC ["_law_script", "_law_at"] (defScope st_law) _ [("_law_at", 1)] = true from by decide +kernel)))) sa_nil))))

end

theorem all_mk {l : PySem.W.OpenLaw} {w : World} {K : PySem.W.Frag} {h : Heap} {mg : Str → Option Value} {fa : Addr} (X : K.In h) (G : h.Ns mainGlobals mg) (hfa : mg "law" = some (.ref fa))
    {f0 : Addr} {od0 an0 : Option Addr} {sl0 : Array (Option Value)} {oc0 kV0 dc0 pm0 cd0 ct0 : Value}
    (a0 : PySem.W.nsIn K mainGlobals "is_whole" = some (some (.ref f0))) (l0 : K.lookup f0 = some ⟨oc0, od0, .func (PySem.W.fnOf "is_whole" "is_whole" (defArgs st_is_whole) (defBody st_is_whole) (defScope st_is_whole) .none kV0 dc0 pm0 an0 cd0 ct0), sl0⟩) (c0 : PySem.W.codeIn K cd0 "is_whole" = true) (k0 : PySem.W.keepIn K (.ref f0) = true)
    {f1 : Addr} {od1 an1 : Option Addr} {sl1 : Array (Option Value)} {oc1 kV1 dc1 pm1 cd1 ct1 : Value}
    (a1 : PySem.W.nsIn K mainGlobals "are_wholes" = some (some (.ref f1))) (l1 : K.lookup f1 = some ⟨oc1, od1, .func (PySem.W.fnOf "are_wholes" "are_wholes" (defArgs st_are_wholes) (defBody st_are_wholes) (defScope st_are_wholes) .none kV1 dc1 pm1 an1 cd1 ct1), sl1⟩) (c1 : PySem.W.codeIn K cd1 "are_wholes" = true) (k1 : PySem.W.keepIn K (.ref f1) = true)
    {f2 : Addr} {od2 an2 : Option Addr} {sl2 : Array (Option Value)} {oc2 kV2 dc2 pm2 cd2 ct2 : Value}
    (a2 : PySem.W.nsIn K mainGlobals "is_ratio" = some (some (.ref f2))) (l2 : K.lookup f2 = some ⟨oc2, od2, .func (PySem.W.fnOf "is_ratio" "is_ratio" (defArgs st_is_ratio) (defBody st_is_ratio) (defScope st_is_ratio) .none kV2 dc2 pm2 an2 cd2 ct2), sl2⟩) (c2 : PySem.W.codeIn K cd2 "is_ratio" = true) (k2 : PySem.W.keepIn K (.ref f2) = true)
    {f3 : Addr} {od3 an3 : Option Addr} {sl3 : Array (Option Value)} {oc3 kV3 dc3 pm3 cd3 ct3 : Value}
    (a3 : PySem.W.nsIn K mainGlobals "ratio" = some (some (.ref f3))) (l3 : K.lookup f3 = some ⟨oc3, od3, .func (PySem.W.fnOf "ratio" "ratio" (defArgs st_ratio) (defBody st_ratio) (defScope st_ratio) .none kV3 dc3 pm3 an3 cd3 ct3), sl3⟩) (c3 : PySem.W.codeIn K cd3 "ratio" = true) (k3 : PySem.W.keepIn K (.ref f3) = true)
    {f4 : Addr} {od4 an4 : Option Addr} {sl4 : Array (Option Value)} {oc4 kV4 dc4 pm4 cd4 ct4 : Value}
    (a4 : PySem.W.nsIn K mainGlobals "is_rowed" = some (some (.ref f4))) (l4 : K.lookup f4 = some ⟨oc4, od4, .func (PySem.W.fnOf "is_rowed" "is_rowed" (defArgs st_is_rowed) (defBody st_is_rowed) (defScope st_is_rowed) .none kV4 dc4 pm4 an4 cd4 ct4), sl4⟩) (c4 : PySem.W.codeIn K cd4 "is_rowed" = true) (k4 : PySem.W.keepIn K (.ref f4) = true)
    {f5 : Addr} {od5 an5 : Option Addr} {sl5 : Array (Option Value)} {oc5 kV5 dc5 pm5 cd5 ct5 : Value}
    (a5 : PySem.W.nsIn K mainGlobals "trimmed" = some (some (.ref f5))) (l5 : K.lookup f5 = some ⟨oc5, od5, .func (PySem.W.fnOf "trimmed" "trimmed" (defArgs st_trimmed) (defBody st_trimmed) (defScope st_trimmed) .none kV5 dc5 pm5 an5 cd5 ct5), sl5⟩) (c5 : PySem.W.codeIn K cd5 "trimmed" = true) (k5 : PySem.W.keepIn K (.ref f5) = true)
    {f6 : Addr} {od6 an6 : Option Addr} {sl6 : Array (Option Value)} {oc6 kV6 dc6 pm6 cd6 ct6 : Value}
    (a6 : PySem.W.nsIn K mainGlobals "sum_by" = some (some (.ref f6))) (l6 : K.lookup f6 = some ⟨oc6, od6, .func (PySem.W.fnOf "sum_by" "sum_by" (defArgs st_sum_by) (defBody st_sum_by) (defScope st_sum_by) .none kV6 dc6 pm6 an6 cd6 ct6), sl6⟩) (c6 : PySem.W.codeIn K cd6 "sum_by" = true) (k6 : PySem.W.keepIn K (.ref f6) = true)
    {f7 : Addr} {od7 an7 : Option Addr} {sl7 : Array (Option Value)} {oc7 kV7 dc7 pm7 cd7 ct7 : Value}
    (a7 : PySem.W.nsIn K mainGlobals "scaled" = some (some (.ref f7))) (l7 : K.lookup f7 = some ⟨oc7, od7, .func (PySem.W.fnOf "scaled" "scaled" (defArgs st_scaled) (defBody st_scaled) (defScope st_scaled) .none kV7 dc7 pm7 an7 cd7 ct7), sl7⟩) (c7 : PySem.W.codeIn K cd7 "scaled" = true) (k7 : PySem.W.keepIn K (.ref f7) = true)
    {f8 : Addr} {od8 an8 : Option Addr} {sl8 : Array (Option Value)} {oc8 kV8 dc8 pm8 cd8 ct8 : Value}
    (a8 : PySem.W.nsIn K mainGlobals "gap_by" = some (some (.ref f8))) (l8 : K.lookup f8 = some ⟨oc8, od8, .func (PySem.W.fnOf "gap_by" "gap_by" (defArgs st_gap_by) (defBody st_gap_by) (defScope st_gap_by) .none kV8 dc8 pm8 an8 cd8 ct8), sl8⟩) (c8 : PySem.W.codeIn K cd8 "gap_by" = true) (k8 : PySem.W.keepIn K (.ref f8) = true)
    {f9 : Addr} {od9 an9 : Option Addr} {sl9 : Array (Option Value)} {oc9 kV9 dc9 pm9 cd9 ct9 : Value}
    (a9 : PySem.W.nsIn K mainGlobals "product_by" = some (some (.ref f9))) (l9 : K.lookup f9 = some ⟨oc9, od9, .func (PySem.W.fnOf "product_by" "product_by" (defArgs st_product_by) (defBody st_product_by) (defScope st_product_by) .none kV9 dc9 pm9 an9 cd9 ct9), sl9⟩) (c9 : PySem.W.codeIn K cd9 "product_by" = true) (k9 : PySem.W.keepIn K (.ref f9) = true)
    {f10 : Addr} {od10 an10 : Option Addr} {sl10 : Array (Option Value)} {oc10 kV10 dc10 pm10 cd10 ct10 : Value}
    (a10 : PySem.W.nsIn K mainGlobals "slope_of" = some (some (.ref f10))) (l10 : K.lookup f10 = some ⟨oc10, od10, .func (PySem.W.fnOf "slope_of" "slope_of" (defArgs st_slope_of) (defBody st_slope_of) (defScope st_slope_of) .none kV10 dc10 pm10 an10 cd10 ct10), sl10⟩) (c10 : PySem.W.codeIn K cd10 "slope_of" = true) (k10 : PySem.W.keepIn K (.ref f10) = true)
    {f11 : Addr} {od11 an11 : Option Addr} {sl11 : Array (Option Value)} {oc11 kV11 dc11 pm11 cd11 ct11 : Value}
    (a11 : PySem.W.nsIn K mainGlobals "divisor_of" = some (some (.ref f11))) (l11 : K.lookup f11 = some ⟨oc11, od11, .func (PySem.W.fnOf "divisor_of" "divisor_of" (defArgs st_divisor_of) (defBody st_divisor_of) (defScope st_divisor_of) .none kV11 dc11 pm11 an11 cd11 ct11), sl11⟩) (c11 : PySem.W.codeIn K cd11 "divisor_of" = true) (k11 : PySem.W.keepIn K (.ref f11) = true)
    {f12 : Addr} {od12 an12 : Option Addr} {sl12 : Array (Option Value)} {oc12 kV12 dc12 pm12 cd12 ct12 : Value}
    (a12 : PySem.W.nsIn K mainGlobals "small" = some (some (.ref f12))) (l12 : K.lookup f12 = some ⟨oc12, od12, .func (PySem.W.fnOf "small" "small" (defArgs st_small) (defBody st_small) (defScope st_small) .none kV12 dc12 pm12 an12 cd12 ct12), sl12⟩) (c12 : PySem.W.codeIn K cd12 "small" = true) (k12 : PySem.W.keepIn K (.ref f12) = true)
    {f13 : Addr} {od13 an13 : Option Addr} {sl13 : Array (Option Value)} {oc13 kV13 dc13 pm13 cd13 ct13 : Value}
    (a13 : PySem.W.nsIn K mainGlobals "prime_by" = some (some (.ref f13))) (l13 : K.lookup f13 = some ⟨oc13, od13, .func (PySem.W.fnOf "prime_by" "prime_by" (defArgs st_prime_by) (defBody st_prime_by) (defScope st_prime_by) .none kV13 dc13 pm13 an13 cd13 ct13), sl13⟩) (c13 : PySem.W.codeIn K cd13 "prime_by" = true) (k13 : PySem.W.keepIn K (.ref f13) = true)
    {f14 : Addr} {od14 an14 : Option Addr} {sl14 : Array (Option Value)} {oc14 kV14 dc14 pm14 cd14 ct14 : Value}
    (a14 : PySem.W.nsIn K mainGlobals "put_by" = some (some (.ref f14))) (l14 : K.lookup f14 = some ⟨oc14, od14, .func (PySem.W.fnOf "put_by" "put_by" (defArgs st_put_by) (defBody st_put_by) (defScope st_put_by) .none kV14 dc14 pm14 an14 cd14 ct14), sl14⟩) (c14 : PySem.W.codeIn K cd14 "put_by" = true) (k14 : PySem.W.keepIn K (.ref f14) = true)
    {f15 : Addr} {od15 an15 : Option Addr} {sl15 : Array (Option Value)} {oc15 kV15 dc15 pm15 cd15 ct15 : Value}
    (a15 : PySem.W.nsIn K mainGlobals "top_at" = some (some (.ref f15))) (l15 : K.lookup f15 = some ⟨oc15, od15, .func (PySem.W.fnOf "top_at" "top_at" (defArgs st_top_at) (defBody st_top_at) (defScope st_top_at) .none kV15 dc15 pm15 an15 cd15 ct15), sl15⟩) (c15 : PySem.W.codeIn K cd15 "top_at" = true) (k15 : PySem.W.keepIn K (.ref f15) = true)
    {f16 : Addr} {od16 an16 : Option Addr} {sl16 : Array (Option Value)} {oc16 kV16 dc16 pm16 cd16 ct16 : Value}
    (a16 : PySem.W.nsIn K mainGlobals "power_of" = some (some (.ref f16))) (l16 : K.lookup f16 = some ⟨oc16, od16, .func (PySem.W.fnOf "power_of" "power_of" (defArgs st_power_of) (defBody st_power_of) (defScope st_power_of) .none kV16 dc16 pm16 an16 cd16 ct16), sl16⟩) (c16 : PySem.W.codeIn K cd16 "power_of" = true) (k16 : PySem.W.keepIn K (.ref f16) = true)
    {f17 : Addr} {od17 an17 : Option Addr} {sl17 : Array (Option Value)} {oc17 kV17 dc17 pm17 cd17 ct17 : Value}
    (a17 : PySem.W.nsIn K mainGlobals "value_by" = some (some (.ref f17))) (l17 : K.lookup f17 = some ⟨oc17, od17, .func (PySem.W.fnOf "value_by" "value_by" (defArgs st_value_by) (defBody st_value_by) (defScope st_value_by) .none kV17 dc17 pm17 an17 cd17 ct17), sl17⟩) (c17 : PySem.W.codeIn K cd17 "value_by" = true) (k17 : PySem.W.keepIn K (.ref f17) = true)
    {f18 : Addr} {od18 an18 : Option Addr} {sl18 : Array (Option Value)} {oc18 kV18 dc18 pm18 cd18 ct18 : Value}
    (a18 : PySem.W.nsIn K mainGlobals "check_fraction" = some (some (.ref f18))) (l18 : K.lookup f18 = some ⟨oc18, od18, .func (PySem.W.fnOf "check_fraction" "check_fraction" (defArgs st_check_fraction) (defBody st_check_fraction) (defScope st_check_fraction) .none kV18 dc18 pm18 an18 cd18 ct18), sl18⟩) (c18 : PySem.W.codeIn K cd18 "check_fraction" = true) (k18 : PySem.W.keepIn K (.ref f18) = true)
    {f19 : Addr} {od19 an19 : Option Addr} {sl19 : Array (Option Value)} {oc19 kV19 dc19 pm19 cd19 ct19 : Value}
    (a19 : PySem.W.nsIn K mainGlobals "check_row" = some (some (.ref f19))) (l19 : K.lookup f19 = some ⟨oc19, od19, .func (PySem.W.fnOf "check_row" "check_row" (defArgs st_check_row) (defBody st_check_row) (defScope st_check_row) .none kV19 dc19 pm19 an19 cd19 ct19), sl19⟩) (c19 : PySem.W.codeIn K cd19 "check_row" = true) (k19 : PySem.W.keepIn K (.ref f19) = true)
    {f20 : Addr} {od20 an20 : Option Addr} {sl20 : Array (Option Value)} {oc20 kV20 dc20 pm20 cd20 ct20 : Value}
    (a20 : PySem.W.nsIn K mainGlobals "is_row" = some (some (.ref f20))) (l20 : K.lookup f20 = some ⟨oc20, od20, .func (PySem.W.fnOf "is_row" "is_row" (defArgs st_is_row) (defBody st_is_row) (defScope st_is_row) .none kV20 dc20 pm20 an20 cd20 ct20), sl20⟩) (c20 : PySem.W.codeIn K cd20 "is_row" = true) (k20 : PySem.W.keepIn K (.ref f20) = true)
    {f21 : Addr} {od21 an21 : Option Addr} {sl21 : Array (Option Value)} {oc21 kV21 dc21 pm21 cd21 ct21 : Value}
    (a21 : PySem.W.nsIn K mainGlobals "check_both" = some (some (.ref f21))) (l21 : K.lookup f21 = some ⟨oc21, od21, .func (PySem.W.fnOf "check_both" "check_both" (defArgs st_check_both) (defBody st_check_both) (defScope st_check_both) .none kV21 dc21 pm21 an21 cd21 ct21), sl21⟩) (c21 : PySem.W.codeIn K cd21 "check_both" = true) (k21 : PySem.W.keepIn K (.ref f21) = true)
    {f22 : Addr} {od22 an22 : Option Addr} {sl22 : Array (Option Value)} {oc22 kV22 dc22 pm22 cd22 ct22 : Value}
    (a22 : PySem.W.nsIn K mainGlobals "plus" = some (some (.ref f22))) (l22 : K.lookup f22 = some ⟨oc22, od22, .func (PySem.W.fnOf "plus" "plus" (defArgs st_plus) (defBody st_plus) (defScope st_plus) .none kV22 dc22 pm22 an22 cd22 ct22), sl22⟩) (c22 : PySem.W.codeIn K cd22 "plus" = true) (k22 : PySem.W.keepIn K (.ref f22) = true)
    {f23 : Addr} {od23 an23 : Option Addr} {sl23 : Array (Option Value)} {oc23 kV23 dc23 pm23 cd23 ct23 : Value}
    (a23 : PySem.W.nsIn K mainGlobals "less" = some (some (.ref f23))) (l23 : K.lookup f23 = some ⟨oc23, od23, .func (PySem.W.fnOf "less" "less" (defArgs st_less) (defBody st_less) (defScope st_less) .none kV23 dc23 pm23 an23 cd23 ct23), sl23⟩) (c23 : PySem.W.codeIn K cd23 "less" = true) (k23 : PySem.W.keepIn K (.ref f23) = true)
    {f24 : Addr} {od24 an24 : Option Addr} {sl24 : Array (Option Value)} {oc24 kV24 dc24 pm24 cd24 ct24 : Value}
    (a24 : PySem.W.nsIn K mainGlobals "times" = some (some (.ref f24))) (l24 : K.lookup f24 = some ⟨oc24, od24, .func (PySem.W.fnOf "times" "times" (defArgs st_times) (defBody st_times) (defScope st_times) .none kV24 dc24 pm24 an24 cd24 ct24), sl24⟩) (c24 : PySem.W.codeIn K cd24 "times" = true) (k24 : PySem.W.keepIn K (.ref f24) = true)
    {f25 : Addr} {od25 an25 : Option Addr} {sl25 : Array (Option Value)} {oc25 kV25 dc25 pm25 cd25 ct25 : Value}
    (a25 : PySem.W.nsIn K mainGlobals "derivative" = some (some (.ref f25))) (l25 : K.lookup f25 = some ⟨oc25, od25, .func (PySem.W.fnOf "derivative" "derivative" (defArgs st_derivative) (defBody st_derivative) (defScope st_derivative) .none kV25 dc25 pm25 an25 cd25 ct25), sl25⟩) (c25 : PySem.W.codeIn K cd25 "derivative" = true) (k25 : PySem.W.keepIn K (.ref f25) = true)
    {f26 : Addr} {od26 an26 : Option Addr} {sl26 : Array (Option Value)} {oc26 kV26 dc26 pm26 cd26 ct26 : Value}
    (a26 : PySem.W.nsIn K mainGlobals "value_at" = some (some (.ref f26))) (l26 : K.lookup f26 = some ⟨oc26, od26, .func (PySem.W.fnOf "value_at" "value_at" (defArgs st_value_at) (defBody st_value_at) (defScope st_value_at) .none kV26 dc26 pm26 an26 cd26 ct26), sl26⟩) (c26 : PySem.W.codeIn K cd26 "value_at" = true) (k26 : PySem.W.keepIn K (.ref f26) = true)
    {f27 : Addr} {od27 an27 : Option Addr} {sl27 : Array (Option Value)} {oc27 kV27 dc27 pm27 cd27 ct27 : Value}
    (a27 : PySem.W.nsIn K mainGlobals "prime_part" = some (some (.ref f27))) (l27 : K.lookup f27 = some ⟨oc27, od27, .func (PySem.W.fnOf "prime_part" "prime_part" (defArgs st_prime_part) (defBody st_prime_part) (defScope st_prime_part) .none kV27 dc27 pm27 an27 cd27 ct27), sl27⟩) (c27 : PySem.W.codeIn K cd27 "prime_part" = true) (k27 : PySem.W.keepIn K (.ref f27) = true)
    {f28 : Addr} {od28 an28 : Option Addr} {sl28 : Array (Option Value)} {oc28 kV28 dc28 pm28 cd28 ct28 : Value}
    (a28 : PySem.W.nsIn K mainGlobals "put_in" = some (some (.ref f28))) (l28 : K.lookup f28 = some ⟨oc28, od28, .func (PySem.W.fnOf "put_in" "put_in" (defArgs st_put_in) (defBody st_put_in) (defScope st_put_in) .none kV28 dc28 pm28 an28 cd28 ct28), sl28⟩) (c28 : PySem.W.codeIn K cd28 "put_in" = true) (k28 : PySem.W.keepIn K (.ref f28) = true)
    {f29 : Addr} {od29 an29 : Option Addr} {sl29 : Array (Option Value)} {oc29 kV29 dc29 pm29 cd29 ct29 : Value}
    (a29 : PySem.W.nsIn K mainGlobals "_law_well" = some (some (.ref f29))) (l29 : K.lookup f29 = some ⟨oc29, od29, .func (PySem.W.fnOf "_law_well" "_law_well" (defArgs st_law_well) (defBody st_law_well) (defScope st_law_well) .none kV29 dc29 pm29 an29 cd29 ct29), sl29⟩) (c29 : PySem.W.codeIn K cd29 "_law_well" = true) (k29 : PySem.W.keepIn K (.ref f29) = true)
    {f30 : Addr} {od30 an30 : Option Addr} {sl30 : Array (Option Value)} {oc30 kV30 dc30 pm30 cd30 ct30 : Value}
    (a30 : PySem.W.nsIn K mainGlobals "_law_draw" = some (some (.ref f30))) (l30 : K.lookup f30 = some ⟨oc30, od30, .func (PySem.W.fnOf "_law_draw" "_law_draw" (defArgs st_law_draw) (defBody st_law_draw) (defScope st_law_draw) .none kV30 dc30 pm30 an30 cd30 ct30), sl30⟩) (c30 : PySem.W.codeIn K cd30 "_law_draw" = true) (k30 : PySem.W.keepIn K (.ref f30) = true)
    {f31 : Addr} {od31 an31 : Option Addr} {sl31 : Array (Option Value)} {oc31 kV31 dc31 pm31 cd31 ct31 : Value}
    (a31 : PySem.W.nsIn K mainGlobals "_law_pick" = some (some (.ref f31))) (l31 : K.lookup f31 = some ⟨oc31, od31, .func (PySem.W.fnOf "_law_pick" "_law_pick" (defArgs st_law_pick) (defBody st_law_pick) (defScope st_law_pick) .none kV31 dc31 pm31 an31 cd31 ct31), sl31⟩) (c31 : PySem.W.codeIn K cd31 "_law_pick" = true) (k31 : PySem.W.keepIn K (.ref f31) = true)
    {f32 : Addr} {od32 an32 : Option Addr} {sl32 : Array (Option Value)} {oc32 kV32 dc32 pm32 cd32 ct32 : Value}
    (a32 : PySem.W.nsIn K mainGlobals "_law_common" = some (some (.ref f32))) (l32 : K.lookup f32 = some ⟨oc32, od32, .func (PySem.W.fnOf "_law_common" "_law_common" (defArgs st_law_common) (defBody st_law_common) (defScope st_law_common) .none kV32 dc32 pm32 an32 cd32 ct32), sl32⟩) (c32 : PySem.W.codeIn K cd32 "_law_common" = true) (k32 : PySem.W.keepIn K (.ref f32) = true)
    {f33 : Addr} {od33 an33 : Option Addr} {sl33 : Array (Option Value)} {oc33 kV33 dc33 pm33 cd33 ct33 : Value}
    (a33 : PySem.W.nsIn K mainGlobals "_law_lean" = some (some (.ref f33))) (l33 : K.lookup f33 = some ⟨oc33, od33, .func (PySem.W.fnOf "_law_lean" "_law_lean" (defArgs st_law_lean) (defBody st_law_lean) (defScope st_law_lean) .none kV33 dc33 pm33 an33 cd33 ct33), sl33⟩) (c33 : PySem.W.codeIn K cd33 "_law_lean" = true) (k33 : PySem.W.keepIn K (.ref f33) = true)
    {f34 : Addr} {od34 an34 : Option Addr} {sl34 : Array (Option Value)} {oc34 kV34 dc34 pm34 cd34 ct34 : Value}
    (a34 : PySem.W.nsIn K mainGlobals "_law_small" = some (some (.ref f34))) (l34 : K.lookup f34 = some ⟨oc34, od34, .func (PySem.W.fnOf "_law_small" "_law_small" (defArgs st_law_small) (defBody st_law_small) (defScope st_law_small) .none kV34 dc34 pm34 an34 cd34 ct34), sl34⟩) (c34 : PySem.W.codeIn K cd34 "_law_small" = true) (k34 : PySem.W.keepIn K (.ref f34) = true)
    {f35 : Addr} {od35 an35 : Option Addr} {sl35 : Array (Option Value)} {oc35 kV35 dc35 pm35 cd35 ct35 : Value}
    (a35 : PySem.W.nsIn K mainGlobals "_law_part" = some (some (.ref f35))) (l35 : K.lookup f35 = some ⟨oc35, od35, .func (PySem.W.fnOf "_law_part" "_law_part" (defArgs st_law_part) (defBody st_law_part) (defScope st_law_part) .none kV35 dc35 pm35 an35 cd35 ct35), sl35⟩) (c35 : PySem.W.codeIn K cd35 "_law_part" = true) (k35 : PySem.W.keepIn K (.ref f35) = true)
    {f36 : Addr} {od36 an36 : Option Addr} {sl36 : Array (Option Value)} {oc36 kV36 dc36 pm36 cd36 ct36 : Value}
    (a36 : PySem.W.nsIn K mainGlobals "_law_trim" = some (some (.ref f36))) (l36 : K.lookup f36 = some ⟨oc36, od36, .func (PySem.W.fnOf "_law_trim" "_law_trim" (defArgs st_law_trim) (defBody st_law_trim) (defScope st_law_trim) .none kV36 dc36 pm36 an36 cd36 ct36), sl36⟩) (c36 : PySem.W.codeIn K cd36 "_law_trim" = true) (k36 : PySem.W.keepIn K (.ref f36) = true)
    {f37 : Addr} {od37 an37 : Option Addr} {sl37 : Array (Option Value)} {oc37 kV37 dc37 pm37 cd37 ct37 : Value}
    (a37 : PySem.W.nsIn K mainGlobals "_law_line" = some (some (.ref f37))) (l37 : K.lookup f37 = some ⟨oc37, od37, .func (PySem.W.fnOf "_law_line" "_law_line" (defArgs st_law_line) (defBody st_law_line) (defScope st_law_line) .none kV37 dc37 pm37 an37 cd37 ct37), sl37⟩) (c37 : PySem.W.codeIn K cd37 "_law_line" = true) (k37 : PySem.W.keepIn K (.ref f37) = true)
    {f38 : Addr} {od38 an38 : Option Addr} {sl38 : Array (Option Value)} {oc38 kV38 dc38 pm38 cd38 ct38 : Value}
    (a38 : PySem.W.nsIn K mainGlobals "_law_sum" = some (some (.ref f38))) (l38 : K.lookup f38 = some ⟨oc38, od38, .func (PySem.W.fnOf "_law_sum" "_law_sum" (defArgs st_law_sum) (defBody st_law_sum) (defScope st_law_sum) .none kV38 dc38 pm38 an38 cd38 ct38), sl38⟩) (c38 : PySem.W.codeIn K cd38 "_law_sum" = true) (k38 : PySem.W.keepIn K (.ref f38) = true)
    {f39 : Addr} {od39 an39 : Option Addr} {sl39 : Array (Option Value)} {oc39 kV39 dc39 pm39 cd39 ct39 : Value}
    (a39 : PySem.W.nsIn K mainGlobals "_law_scaled" = some (some (.ref f39))) (l39 : K.lookup f39 = some ⟨oc39, od39, .func (PySem.W.fnOf "_law_scaled" "_law_scaled" (defArgs st_law_scaled) (defBody st_law_scaled) (defScope st_law_scaled) .none kV39 dc39 pm39 an39 cd39 ct39), sl39⟩) (c39 : PySem.W.codeIn K cd39 "_law_scaled" = true) (k39 : PySem.W.keepIn K (.ref f39) = true)
    {f40 : Addr} {od40 an40 : Option Addr} {sl40 : Array (Option Value)} {oc40 kV40 dc40 pm40 cd40 ct40 : Value}
    (a40 : PySem.W.nsIn K mainGlobals "_law_product" = some (some (.ref f40))) (l40 : K.lookup f40 = some ⟨oc40, od40, .func (PySem.W.fnOf "_law_product" "_law_product" (defArgs st_law_product) (defBody st_law_product) (defScope st_law_product) .none kV40 dc40 pm40 an40 cd40 ct40), sl40⟩) (c40 : PySem.W.codeIn K cd40 "_law_product" = true) (k40 : PySem.W.keepIn K (.ref f40) = true)
    {f41 : Addr} {od41 an41 : Option Addr} {sl41 : Array (Option Value)} {oc41 kV41 dc41 pm41 cd41 ct41 : Value}
    (a41 : PySem.W.nsIn K mainGlobals "_law_slope" = some (some (.ref f41))) (l41 : K.lookup f41 = some ⟨oc41, od41, .func (PySem.W.fnOf "_law_slope" "_law_slope" (defArgs st_law_slope) (defBody st_law_slope) (defScope st_law_slope) .none kV41 dc41 pm41 an41 cd41 ct41), sl41⟩) (c41 : PySem.W.codeIn K cd41 "_law_slope" = true) (k41 : PySem.W.keepIn K (.ref f41) = true)
    {f42 : Addr} {od42 an42 : Option Addr} {sl42 : Array (Option Value)} {oc42 kV42 dc42 pm42 cd42 ct42 : Value}
    (a42 : PySem.W.nsIn K mainGlobals "_law_value" = some (some (.ref f42))) (l42 : K.lookup f42 = some ⟨oc42, od42, .func (PySem.W.fnOf "_law_value" "_law_value" (defArgs st_law_value) (defBody st_law_value) (defScope st_law_value) .none kV42 dc42 pm42 an42 cd42 ct42), sl42⟩) (c42 : PySem.W.codeIn K cd42 "_law_value" = true) (k42 : PySem.W.keepIn K (.ref f42) = true)
    {f43 : Addr} {od43 an43 : Option Addr} {sl43 : Array (Option Value)} {oc43 kV43 dc43 pm43 cd43 ct43 : Value}
    (a43 : PySem.W.nsIn K mainGlobals "_law_worth" = some (some (.ref f43))) (l43 : K.lookup f43 = some ⟨oc43, od43, .func (PySem.W.fnOf "_law_worth" "_law_worth" (defArgs st_law_worth) (defBody st_law_worth) (defScope st_law_worth) .none kV43 dc43 pm43 an43 cd43 ct43), sl43⟩) (c43 : PySem.W.codeIn K cd43 "_law_worth" = true) (k43 : PySem.W.keepIn K (.ref f43) = true)
    {f44 : Addr} {od44 an44 : Option Addr} {sl44 : Array (Option Value)} {oc44 kV44 dc44 pm44 cd44 ct44 : Value}
    (a44 : PySem.W.nsIn K mainGlobals "_law_thin" = some (some (.ref f44))) (l44 : K.lookup f44 = some ⟨oc44, od44, .func (PySem.W.fnOf "_law_thin" "_law_thin" (defArgs st_law_thin) (defBody st_law_thin) (defScope st_law_thin) .none kV44 dc44 pm44 an44 cd44 ct44), sl44⟩) (c44 : PySem.W.codeIn K cd44 "_law_thin" = true) (k44 : PySem.W.keepIn K (.ref f44) = true)
    {f45 : Addr} {od45 an45 : Option Addr} {sl45 : Array (Option Value)} {oc45 kV45 dc45 pm45 cd45 ct45 : Value}
    (a45 : PySem.W.nsIn K mainGlobals "_law_prime" = some (some (.ref f45))) (l45 : K.lookup f45 = some ⟨oc45, od45, .func (PySem.W.fnOf "_law_prime" "_law_prime" (defArgs st_law_prime) (defBody st_law_prime) (defScope st_law_prime) .none kV45 dc45 pm45 an45 cd45 ct45), sl45⟩) (c45 : PySem.W.codeIn K cd45 "_law_prime" = true) (k45 : PySem.W.keepIn K (.ref f45) = true)
    {f46 : Addr} {od46 an46 : Option Addr} {sl46 : Array (Option Value)} {oc46 kV46 dc46 pm46 cd46 ct46 : Value}
    (a46 : PySem.W.nsIn K mainGlobals "_law_is_whole" = some (some (.ref f46))) (l46 : K.lookup f46 = some ⟨oc46, od46, .func (PySem.W.fnOf "_law_is_whole" "_law_is_whole" (defArgs st_law_is_whole) (defBody st_law_is_whole) (defScope st_law_is_whole) .none kV46 dc46 pm46 an46 cd46 ct46), sl46⟩) (c46 : PySem.W.codeIn K cd46 "_law_is_whole" = true) (k46 : PySem.W.keepIn K (.ref f46) = true)
    {f47 : Addr} {od47 an47 : Option Addr} {sl47 : Array (Option Value)} {oc47 kV47 dc47 pm47 cd47 ct47 : Value}
    (a47 : PySem.W.nsIn K mainGlobals "_law_is_row" = some (some (.ref f47))) (l47 : K.lookup f47 = some ⟨oc47, od47, .func (PySem.W.fnOf "_law_is_row" "_law_is_row" (defArgs st_law_is_row) (defBody st_law_is_row) (defScope st_law_is_row) .none kV47 dc47 pm47 an47 cd47 ct47), sl47⟩) (c47 : PySem.W.codeIn K cd47 "_law_is_row" = true) (k47 : PySem.W.keepIn K (.ref f47) = true)
    {f48 : Addr} {od48 an48 : Option Addr} {sl48 : Array (Option Value)} {oc48 kV48 dc48 pm48 cd48 ct48 : Value}
    (a48 : PySem.W.nsIn K mainGlobals "_law_odd" = some (some (.ref f48))) (l48 : K.lookup f48 = some ⟨oc48, od48, .func (PySem.W.fnOf "_law_odd" "_law_odd" (defArgs st_law_odd) (defBody st_law_odd) (defScope st_law_odd) .none kV48 dc48 pm48 an48 cd48 ct48), sl48⟩) (c48 : PySem.W.codeIn K cd48 "_law_odd" = true) (k48 : PySem.W.keepIn K (.ref f48) = true)
    {f49 : Addr} {od49 an49 : Option Addr} {sl49 : Array (Option Value)} {oc49 kV49 dc49 pm49 cd49 ct49 : Value}
    (a49 : PySem.W.nsIn K mainGlobals "_law_bent" = some (some (.ref f49))) (l49 : K.lookup f49 = some ⟨oc49, od49, .func (PySem.W.fnOf "_law_bent" "_law_bent" (defArgs st_law_bent) (defBody st_law_bent) (defScope st_law_bent) .none kV49 dc49 pm49 an49 cd49 ct49), sl49⟩) (c49 : PySem.W.codeIn K cd49 "_law_bent" = true) (k49 : PySem.W.keepIn K (.ref f49) = true)
    {f50 : Addr} {od50 an50 : Option Addr} {sl50 : Array (Option Value)} {oc50 kV50 dc50 pm50 cd50 ct50 : Value}
    (a50 : PySem.W.nsIn K mainGlobals "_law_turned" = some (some (.ref f50))) (l50 : K.lookup f50 = some ⟨oc50, od50, .func (PySem.W.fnOf "_law_turned" "_law_turned" (defArgs st_law_turned) (defBody st_law_turned) (defScope st_law_turned) .none kV50 dc50 pm50 an50 cd50 ct50), sl50⟩) (c50 : PySem.W.codeIn K cd50 "_law_turned" = true) (k50 : PySem.W.keepIn K (.ref f50) = true)
    {f51 : Addr} {od51 an51 : Option Addr} {sl51 : Array (Option Value)} {oc51 kV51 dc51 pm51 cd51 ct51 : Value}
    (a51 : PySem.W.nsIn K mainGlobals "_law_put_in" = some (some (.ref f51))) (l51 : K.lookup f51 = some ⟨oc51, od51, .func (PySem.W.fnOf "_law_put_in" "_law_put_in" (defArgs st_law_put_in) (defBody st_law_put_in) (defScope st_law_put_in) .none kV51 dc51 pm51 an51 cd51 ct51), sl51⟩) (c51 : PySem.W.codeIn K cd51 "_law_put_in" = true) (k51 : PySem.W.keepIn K (.ref f51) = true)
    {f52 : Addr} {od52 an52 : Option Addr} {sl52 : Array (Option Value)} {oc52 kV52 dc52 pm52 cd52 ct52 : Value}
    (a52 : PySem.W.nsIn K mainGlobals "_law_right" = some (some (.ref f52))) (l52 : K.lookup f52 = some ⟨oc52, od52, .func (PySem.W.fnOf "_law_right" "_law_right" (defArgs st_law_right) (defBody st_law_right) (defScope st_law_right) .none kV52 dc52 pm52 an52 cd52 ct52), sl52⟩) (c52 : PySem.W.codeIn K cd52 "_law_right" = true) (k52 : PySem.W.keepIn K (.ref f52) = true)
    {f53 : Addr} {od53 an53 : Option Addr} {sl53 : Array (Option Value)} {oc53 kV53 dc53 pm53 cd53 ct53 : Value}
    (a53 : PySem.W.nsIn K mainGlobals "law" = some (some (.ref f53))) (l53 : K.lookup f53 = some ⟨oc53, od53, .func (PySem.W.fnOf "law" "law" (defArgs st_law) (defBody st_law) (defScope st_law) .none kV53 dc53 pm53 an53 cd53 ct53), sl53⟩) (c53 : PySem.W.codeIn K cd53 "law" = true) (k53 : PySem.W.keepIn K (.ref f53) = true)
    (z_abs : PySem.W.nsIn K mainGlobals "abs" = some none)
    (z_all : PySem.W.nsIn K mainGlobals "all" = some none)
    (z_bool : PySem.W.nsIn K mainGlobals "bool" = some none)
    (z_divmod : PySem.W.nsIn K mainGlobals "divmod" = some none)
    (z_enumerate : PySem.W.nsIn K mainGlobals "enumerate" = some none)
    (z_int : PySem.W.nsIn K mainGlobals "int" = some none)
    (z_isinstance : PySem.W.nsIn K mainGlobals "isinstance" = some none)
    (z_len : PySem.W.nsIn K mainGlobals "len" = some none)
    (z_list : PySem.W.nsIn K mainGlobals "list" = some none)
    (z_max : PySem.W.nsIn K mainGlobals "max" = some none)
    (z_min : PySem.W.nsIn K mainGlobals "min" = some none)
    (z_range : PySem.W.nsIn K mainGlobals "range" = some none)
    (z_repr : PySem.W.nsIn K mainGlobals "repr" = some none)
    (z_tuple : PySem.W.nsIn K mainGlobals "tuple" = some none)
    (z_zip : PySem.W.nsIn K mainGlobals "zip" = some none)
    (m_gcd : PySem.W.nsIn K mainGlobals "gcd" = some (some (.builtin "math.gcd")))
    {tZERO_1 : Tok} {tZERO_2 : Tok} {aZERO_0 : Addr} {daZERO_0 : Option Addr} {naZERO_0 : Nat} {saZERO_0 : Array (Option Value)}
    (g_ZERO : PySem.W.nsIn K mainGlobals "ZERO" = some (some (.ref aZERO_0)))
    (laZERO_0 : K.lookup aZERO_0 = some ⟨.type "tuple", daZERO_0, .seq #[(.int (0) tZERO_1), (.int (1) tZERO_2)] naZERO_0, saZERO_0⟩) :
    ∃ fd : FuncData, (∀ (s : Shared) (u : Value), BindsTo s fd ⟨[u], []⟩ [("_law_script", u)]) ∧ ∀ base : Heap, K.In base → base.Ns mainGlobals mg → FnG l.prog w K mg base 17 fa fd ["_law_script"] (spG K mg 1 f_law) := by
  have L : LE K mg := ⟨⟨_, _, PySem.W.mg_of X G a0, fun_mk (st := st_is_whole) l0 c0 k0⟩, ⟨_, _, PySem.W.mg_of X G a1, fun_mk (st := st_are_wholes) l1 c1 k1⟩, ⟨_, _, PySem.W.mg_of X G a2, fun_mk (st := st_is_ratio) l2 c2 k2⟩, ⟨_, _, PySem.W.mg_of X G a3, fun_mk (st := st_ratio) l3 c3 k3⟩, ⟨_, _, PySem.W.mg_of X G a4, fun_mk (st := st_is_rowed) l4 c4 k4⟩, ⟨_, _, PySem.W.mg_of X G a5, fun_mk (st := st_trimmed) l5 c5 k5⟩, ⟨_, _, PySem.W.mg_of X G a6, fun_mk (st := st_sum_by) l6 c6 k6⟩, ⟨_, _, PySem.W.mg_of X G a7, fun_mk (st := st_scaled) l7 c7 k7⟩, ⟨_, _, PySem.W.mg_of X G a8, fun_mk (st := st_gap_by) l8 c8 k8⟩, ⟨_, _, PySem.W.mg_of X G a9, fun_mk (st := st_product_by) l9 c9 k9⟩, ⟨_, _, PySem.W.mg_of X G a10, fun_mk (st := st_slope_of) l10 c10 k10⟩, ⟨_, _, PySem.W.mg_of X G a11, fun_mk (st := st_divisor_of) l11 c11 k11⟩, ⟨_, _, PySem.W.mg_of X G a12, fun_mk (st := st_small) l12 c12 k12⟩, ⟨_, _, PySem.W.mg_of X G a13, fun_mk (st := st_prime_by) l13 c13 k13⟩, ⟨_, _, PySem.W.mg_of X G a14, fun_mk (st := st_put_by) l14 c14 k14⟩, ⟨_, _, PySem.W.mg_of X G a15, fun_mk (st := st_top_at) l15 c15 k15⟩, ⟨_, _, PySem.W.mg_of X G a16, fun_mk (st := st_power_of) l16 c16 k16⟩, ⟨_, _, PySem.W.mg_of X G a17, fun_mk (st := st_value_by) l17 c17 k17⟩, ⟨_, _, PySem.W.mg_of X G a18, fun_mk (st := st_check_fraction) l18 c18 k18⟩, ⟨_, _, PySem.W.mg_of X G a19, fun_mk (st := st_check_row) l19 c19 k19⟩, ⟨_, _, PySem.W.mg_of X G a20, fun_mk (st := st_is_row) l20 c20 k20⟩, ⟨_, _, PySem.W.mg_of X G a21, fun_mk (st := st_check_both) l21 c21 k21⟩, ⟨_, _, PySem.W.mg_of X G a22, fun_mk (st := st_plus) l22 c22 k22⟩, ⟨_, _, PySem.W.mg_of X G a23, fun_mk (st := st_less) l23 c23 k23⟩, ⟨_, _, PySem.W.mg_of X G a24, fun_mk (st := st_times) l24 c24 k24⟩, ⟨_, _, PySem.W.mg_of X G a25, fun_mk (st := st_derivative) l25 c25 k25⟩, ⟨_, _, PySem.W.mg_of X G a26, fun_mk (st := st_value_at) l26 c26 k26⟩, ⟨_, _, PySem.W.mg_of X G a27, fun_mk (st := st_prime_part) l27 c27 k27⟩, ⟨_, _, PySem.W.mg_of X G a28, fun_mk (st := st_put_in) l28 c28 k28⟩, ⟨_, _, PySem.W.mg_of X G a29, fun_mk (st := st_law_well) l29 c29 k29⟩, ⟨_, _, PySem.W.mg_of X G a30, fun_mk (st := st_law_draw) l30 c30 k30⟩, ⟨_, _, PySem.W.mg_of X G a31, fun_mk (st := st_law_pick) l31 c31 k31⟩, ⟨_, _, PySem.W.mg_of X G a32, fun_mk (st := st_law_common) l32 c32 k32⟩, ⟨_, _, PySem.W.mg_of X G a33, fun_mk (st := st_law_lean) l33 c33 k33⟩, ⟨_, _, PySem.W.mg_of X G a34, fun_mk (st := st_law_small) l34 c34 k34⟩, ⟨_, _, PySem.W.mg_of X G a35, fun_mk (st := st_law_part) l35 c35 k35⟩, ⟨_, _, PySem.W.mg_of X G a36, fun_mk (st := st_law_trim) l36 c36 k36⟩, ⟨_, _, PySem.W.mg_of X G a37, fun_mk (st := st_law_line) l37 c37 k37⟩, ⟨_, _, PySem.W.mg_of X G a38, fun_mk (st := st_law_sum) l38 c38 k38⟩, ⟨_, _, PySem.W.mg_of X G a39, fun_mk (st := st_law_scaled) l39 c39 k39⟩, ⟨_, _, PySem.W.mg_of X G a40, fun_mk (st := st_law_product) l40 c40 k40⟩, ⟨_, _, PySem.W.mg_of X G a41, fun_mk (st := st_law_slope) l41 c41 k41⟩, ⟨_, _, PySem.W.mg_of X G a42, fun_mk (st := st_law_value) l42 c42 k42⟩, ⟨_, _, PySem.W.mg_of X G a43, fun_mk (st := st_law_worth) l43 c43 k43⟩, ⟨_, _, PySem.W.mg_of X G a44, fun_mk (st := st_law_thin) l44 c44 k44⟩, ⟨_, _, PySem.W.mg_of X G a45, fun_mk (st := st_law_prime) l45 c45 k45⟩, ⟨_, _, PySem.W.mg_of X G a46, fun_mk (st := st_law_is_whole) l46 c46 k46⟩, ⟨_, _, PySem.W.mg_of X G a47, fun_mk (st := st_law_is_row) l47 c47 k47⟩, ⟨_, _, PySem.W.mg_of X G a48, fun_mk (st := st_law_odd) l48 c48 k48⟩, ⟨_, _, PySem.W.mg_of X G a49, fun_mk (st := st_law_bent) l49 c49 k49⟩, ⟨_, _, PySem.W.mg_of X G a50, fun_mk (st := st_law_turned) l50 c50 k50⟩, ⟨_, _, PySem.W.mg_of X G a51, fun_mk (st := st_law_put_in) l51 c51 k51⟩, ⟨_, _, PySem.W.mg_of X G a52, fun_mk (st := st_law_right) l52 c52 k52⟩, ⟨_, _, PySem.W.mg_of X G a53, fun_mk (st := st_law) l53 c53 k53⟩, PySem.W.mg_none_of X G z_abs, PySem.W.mg_none_of X G z_all, PySem.W.mg_none_of X G z_bool, PySem.W.mg_none_of X G z_divmod, PySem.W.mg_none_of X G z_enumerate, PySem.W.mg_none_of X G z_int, PySem.W.mg_none_of X G z_isinstance, PySem.W.mg_none_of X G z_len, PySem.W.mg_none_of X G z_list, PySem.W.mg_none_of X G z_max, PySem.W.mg_none_of X G z_min, PySem.W.mg_none_of X G z_range, PySem.W.mg_none_of X G z_repr, PySem.W.mg_none_of X G z_tuple, PySem.W.mg_none_of X G z_zip, PySem.W.mg_of X G m_gcd, ⟨(.ref aZERO_0), (.ref aZERO_0), PySem.W.mg_of X G g_ZERO, rfl, fun F => (.tup (xs := [(V.int (0)), (V.int (1))]) (.inr ⟨_, _, _, laZERO_0, rfl, rfl, (by show 2 ≤ sizeLine; decide), (.cons ⟨_, rfl⟩ (.cons ⟨_, rfl⟩ .nil))⟩) (.cons (.int _) (.cons (.int _) .nil)))⟩⟩
  have e := hfa.symm.trans (PySem.W.mg_of X G a53)
  cases e
  refine ⟨PySem.W.fnOf "law" "law" (defArgs st_law) (defBody st_law) (defScope st_law) .none kV53 dc53 pm53 an53 cd53 ct53, fun s v => .of_eq rfl, fun base _ _ => ?_⟩
  obtain ⟨f, fd, h⟩ := ok_law (P := l.prog) (w := w) (base := base) L
  have e1 := h.m.symm.trans hfa
  cases e1
  obtain ⟨_, _, _, _, _, _, _, _, _, e2, lk, _⟩ := h.F.ex
  rw [l53] at lk
  have e3 := Option.some.inj lk
  have e4 : PySem.Data.func _ = PySem.Data.func _ := congrArg PySem.Obj.data e3
  have e5 := PySem.Data.func.inj e4
  rw [e5]
  first | exact h.G | (rw [← e2]; exact h.G)
end LW
/-! TLP: what the combinators do, as rules for simp; loops over data. -/
namespace TL
open PySem PySem.Spec L2
section
variable {ρ : Rho} {μ : Mu}
@[simp] theorem x_next : sNext ρ μ = .ok (.nx ρ) μ := rfl
@[simp] theorem x_seq {a b : Sv} : sSeq a b ρ μ = (a ρ μ).bind (seqK b) := rfl
@[simp] theorem x_seqn {b : Sv} {ρ' : Rho} : seqK b (.nx ρ') μ = b ρ' μ := rfl
@[simp] theorem x_seqr {b : Sv} {w : Wv} : seqK b (.rt w) μ = .ok (.rt w) μ := rfl
@[simp] theorem x_seqb {b : Sv} {ρ' : Rho} : seqK b (.bk ρ') μ = .ok (.bk ρ') μ := rfl
@[simp] theorem x_seqc {b : Sv} {ρ' : Rho} : seqK b (.ct ρ') μ = .ok (.ct ρ') μ := rfl
@[simp] theorem x_seqe {b : Sv} {x : Str} {ws : List Wv} {ρ' : Rho} : seqK b (.er x ws ρ') μ = .ok (.er x ws ρ') μ := rfl
@[simp] theorem x_ret {f : Ev} : sRet f ρ μ = liftO ρ (f ρ μ) fun w μ1 => .ok (.rt w) μ1 := rfl
@[simp] theorem x_retZ {f : Ev} : sRetZ f ρ μ = liftO ρ ((f ρ μ).bind frz) fun w μ1 => .ok (.rt w) μ1 := rfl
@[simp] theorem x_expr {f : Ev} : sExpr f ρ μ = liftO ρ (f ρ μ) fun _ μ1 => .ok (.nx ρ) μ1 := rfl
@[simp] theorem x_if {c : Bv} {a b : Sv} : sIf c a b ρ μ = liftO ρ (c ρ μ) fun t μ1 => if t = true then a ρ μ1 else b ρ μ1 := rfl
@[simp] theorem x_asg {f : Ev} {t : Gv} : sAsg f t ρ μ = liftO ρ (f ρ μ) fun w μ1 => (calm (t w ρ μ1)).bind fun ρ' μ2 => .ok (.nx ρ') μ2 := rfl
@[simp] theorem x_nm {i : Nat} {w : Wv} : gNm i w ρ μ = .ok (ρ.set i (some w)) μ := rfl
@[simp] theorem x_calm {γ : Type} {c : γ} : calm (.ok c μ) = .ok c μ := rfl
@[simp] theorem x_calmb {γ : Type} : calm (.bad : Out γ) = .bad := rfl
@[simp] theorem x_tp {ts : List Gv} {xs : List PyData} : gTp ts (.d (.tuple xs)) ρ μ = if xs.length = ts.length then gSeq ts (xs.map Wv.d) ρ μ else .bad := rfl
@[simp] theorem x_sq0 : gSeq [] [] ρ μ = .ok ρ μ := rfl
@[simp] theorem x_sq1 {t : Gv} {ts : List Gv} {w : Wv} {ws : List Wv} : gSeq (t :: ts) (w :: ws) ρ μ = (t w ρ μ).bind fun ρ' μ' => gSeq ts ws ρ' μ' := rfl
@[simp] theorem x_sb {o i : Ev} {w : Wv} : gSb o i w ρ μ = (o ρ μ).bind fun ow μ1 => (i ρ μ1).bind fun iw μ2 => (setC ow iw w μ2).bind fun _ μ3 => .ok ρ μ3 := rfl
@[simp] theorem x_k {x : PyData} : eK x ρ μ = .ok (.d x) μ := rfl
@[simp] theorem x_e1 {g : Wv → Mu → Out Wv} {a : Ev} : e1 g a ρ μ = (a ρ μ).bind fun w μ1 => calm (g w μ1) := rfl
@[simp] theorem x_e2 {g : Wv → Wv → Mu → Out Wv} {a b : Ev} : e2 g a b ρ μ = (a ρ μ).bind fun w μ1 => (b ρ μ1).bind fun u μ2 => calm (g w u μ2) := rfl
@[simp] theorem x_en {g : GF} {as : Av} : en g as ρ μ = (as ρ μ).bind fun ws μ1 => calm (g ws μ1) := rfl
@[simp] theorem x_nil : aNil ρ μ = .ok [] μ := rfl
@[simp] theorem x_cons {a : Ev} {as : Av} : aCons a as ρ μ = (a ρ μ).bind fun w μ1 => (as ρ μ1).bind fun ws μ2 => .ok (w :: ws) μ2 := rfl
@[simp] theorem x_cF {n : Nat} {g : GF} {as : Av} : cF n g as ρ μ = (as ρ μ).bind fun ws μ1 => if ws.length = n then g ws μ1 else .bad := rfl
@[simp] theorem x_cFK {pm : List Nat} {n : Nat} {g : GF} {as : Av} : cFK pm n g as ρ μ = (as ρ μ).bind fun ws μ1 => if (permL pm ws).length = n then g (permL pm ws) μ1 else .bad := rfl
@[simp] theorem x_tup {as : Av} : eTup as ρ μ = (lDisp as ρ μ).bind fun c μ1 => .ok (.d (.tuple c)) μ1 := rfl
@[simp] theorem x_frz {l : Lv} : eFrz l ρ μ = (l ρ μ).bind fun c μ1 => .ok (.d (.list c)) μ1 := rfl
@[simp] theorem x_new {l : Lv} : eNew l ρ μ = (l ρ μ).bind fun c μ1 => .ok (.r μ1.length) (μ1 ++ [some c]) := rfl
@[simp] theorem x_disp {as : Av} : lDisp as ρ μ = (as ρ μ).bind fun ws μ1 => match allD ws with
  | some c => if c.length ≤ 16777216 then .ok c μ1 else .bad
  | none => .bad := rfl
@[simp] theorem x_all0 : allD [] = some [] := rfl
@[simp] theorem x_all1 {x : PyData} {ws : List Wv} : allD (.d x :: ws) = (allD ws).map (x :: ·) := rfl
@[simp] theorem x_wB {b : Bool} : wB (.d (.bool b)) μ = .ok b μ := rfl
@[simp] theorem x_tB {a : Ev} : tB' a ρ μ = (a ρ μ).bind wB := rfl
@[simp] theorem x_bnot {a : Bv} : bNot a ρ μ = (a ρ μ).bind fun b μ1 => .ok (!b) μ1 := rfl
@[simp] theorem x_band {a b : Bv} : bAnd a b ρ μ = (a ρ μ).bind fun c μ1 => if c = true then b ρ μ1 else .ok false μ1 := rfl
@[simp] theorem x_bor {a b : Bv} : bOr a b ρ μ = (a ρ μ).bind fun c μ1 => if c = true then .ok true μ1 else b ρ μ1 := rfl
@[simp] theorem x_and {a b : Ev} : eAnd a b ρ μ = (a ρ μ).bind fun w μ0 => (wB w μ0).bind fun c μ1 => if c = true then b ρ μ1 else .ok (.d (.bool false)) μ1 := rfl
@[simp] theorem x_or {a b : Ev} : eOr a b ρ μ = (a ρ μ).bind fun w μ0 => (wB w μ0).bind fun c μ1 => if c = true then .ok (.d (.bool true)) μ1 else b ρ μ1 := rfl
@[simp] theorem x_not {a : Ev} : eNot a ρ μ = (a ρ μ).bind fun w μ0 => (wB w μ0).bind fun c μ1 => .ok (.d (.bool (!c))) μ1 := rfl
@[simp] theorem x_eif {c : Bv} {a b : Ev} : eIf c a b ρ μ = (c ρ μ).bind fun c μ1 => if c = true then a ρ μ1 else b ρ μ1 := rfl
@[simp] theorem x_lst {as : Av} : lList as ρ μ = (as ρ μ).bind fun ws μ1 => calm (gList ws μ1) := rfl
@[simp] theorem x_sl {a : Ev} {lo hi : Option Ev} : eSl a lo hi ρ μ = (a ρ μ).bind fun w μ1 => (oPart lo ρ μ1).bind fun l μ2 => (oPart hi ρ μ2).bind fun h μ3 => calm (gSl w l h μ3) := rfl
@[simp] theorem x_pn : oPart none ρ μ = .ok none μ := rfl
@[simp] theorem x_ps {f : Ev} : oPart (some f) ρ μ = (f ρ μ).bind fun w μ1 => match w with
    | .d (.int i) => .ok (some i) μ1
    | _ => .bad := rfl
@[simp] theorem x_dic : eDic ρ μ = .ok (.d (.dict [])) μ := rfl
@[simp] theorem x_iany {f : Ev} : iAny f ρ μ = (f ρ μ).bind fun w μ1 => oOf (itsOf w μ1) μ1 := rfl
@[simp] theorem x_oof {γ : Type} {c : γ} : oOf (some c) μ = .ok c μ := rfl
@[simp] theorem x_yes : bYes ρ μ = .ok true μ := rfl
@[simp] theorem x_dd {x : PyData} : dataOf μ (.d x) = some x := rfl
theorem x_dr {k : Nat} {c : Cell} (h : μ[k]? = some (some c)) : dataOf μ (.r k) = some (.list c) := by
  show (μ[k]?.join).map PyData.list = _
  rw [h]
  rfl
theorem x_var {i : Nat} {w : Wv} (h : ρ[i]? = some (some w)) : eVar i ρ μ = .ok w μ := by
  unfold eVar
  rw [h]
@[simp] theorem x_v0 {o : Wv} {r : Rho} : eVar 0 (some o :: r) μ = .ok o μ := rfl
@[simp] theorem x_vs {i : Nat} {o : Option Wv} {r : Rho} : eVar (i + 1) (o :: r) μ = eVar i r μ := rfl
@[simp] theorem x_ni {i : Int} : numOf (.d (.int i)) = some i := rfl
@[simp] theorem x_nb {b : Bool} : numOf (.d (.bool b)) = some (bi b) := rfl
theorem get_set {k : Nat} {c c' : Option Cell} (h : μ[k]? = some c) : (μ.set k c')[k]? = some c' := List.getElem?_set_self (List.getElem?_eq_some_iff.mp h).1
@[simp] theorem v_plus {i j : Int} : gPlus (.d (.int i)) (.d (.int j)) μ = .ok (.d (.int (i + j))) μ := rfl
@[simp] theorem v_plusT {xs ys : List PyData} : gPlus (.d (.tuple xs)) (.d (.tuple ys)) μ = if xs.length + ys.length ≤ 16777216 then .ok (.d (.tuple (xs ++ ys))) μ else .bad := rfl
@[simp] theorem v_plusL {xs ys : List PyData} : gPlus (.d (.list xs)) (.d (.list ys)) μ = if xs.length + ys.length ≤ 16777216 then .ok (.d (.list (xs ++ ys))) μ else .bad := rfl
@[simp] theorem v_plusB {b : Bool} {j : Int} : gPlus (.d (.bool b)) (.d (.int j)) μ = .ok (.d (.int (bi b + j))) μ := rfl
@[simp] theorem v_sub {i j : Int} : gSub (.d (.int i)) (.d (.int j)) μ = .ok (.d (.int (i - j))) μ := rfl
@[simp] theorem v_subB {i : Int} {b : Bool} : gSub (.d (.int i)) (.d (.bool b)) μ = .ok (.d (.int (i - bi b))) μ := rfl
@[simp] theorem v_subB' {j : Int} {b : Bool} : gSub (.d (.bool b)) (.d (.int j)) μ = .ok (.d (.int (bi b - j))) μ := rfl
theorem bits_small {i : Int} (h1 : -1000000000000000000 < i) (h2 : i < 1000000000000000000) : Builtin.Int.intBits i ≤ 64 := by
  unfold Builtin.Int.intBits
  split
  · omega
  · have hn : i.natAbs < 2 ^ 63 := by omega
    by_cases h0 : i.natAbs = 0
    · rw [h0]
      decide
    · have := (Nat.log2_lt h0).mpr hn
      omega
theorem v_times {i j : Int} (h1 : -1000000000000000000 < i) (h2 : i < 1000000000000000000) (h3 : -1000000000000000000 < j) (h4 : j < 1000000000000000000) : gTimes (.d (.int i)) (.d (.int j)) μ = .ok (.d (.int (i * j))) μ := by
  show (if mulOk i j = true then Out.ok (wI (i * j)) μ else Out.bad) = _
  rw [if_pos]
  · unfold mulOk
    have a := bits_small h1 h2
    have b := bits_small h3 h4
    exact @decide_eq_true _ (Classical.propDecidable _) (by omega)
theorem v_mod {i j : Int} (h : 0 < j) : gMod (.d (.int i)) (.d (.int j)) μ = .ok (.d (.int (i % j))) μ := by
  show (if j = 0 then Out.bad else Out.ok (wI (i.fmod j)) μ) = _
  rw [if_neg (by omega), Int.fmod_eq_emod_of_nonneg _ (by omega)]
theorem no_pylong {i j : Int} (h : 0 < j) (h2 : j < 1000000000000000000) : Builtin.divisionGoesByPylong i j = false := by
  unfold Builtin.divisionGoesByPylong
  have b := bits_small (i := j) (by omega) h2
  unfold Builtin.Int.intBits at b
  have hj : (j == 0) = false := by
    rw [beq_eq_false_iff_ne]
    omega
  rw [hj] at b
  simp only [hj, Bool.false_eq_true, if_false] at b ⊢
  have : ¬ (j.natAbs.log2 / 30 + 1 > 300) := by omega
  simp [this]
theorem v_div {i j : Int} (h : 0 < j) (h2 : j < 1000000000000000000) : gDiv (.d (.int i)) (.d (.int j)) μ = .ok (.d (.int (i / j))) μ := by
  show (if j = 0 ∨ Builtin.divisionGoesByPylong i j = true then Out.bad else Out.ok (wI (i.fdiv j)) μ) = _
  rw [if_neg, Int.fdiv_eq_ediv_of_nonneg _ (by omega)]
  · rw [no_pylong h h2]
    simp
    omega
theorem v_divmod {i j : Int} (h : 0 < j) (h2 : j < 1000000000000000000) : gDivmod [.d (.int i), .d (.int j)] μ = .ok (.d (.tuple [.int (i / j), .int (i % j)])) μ := by
  show (if 0 < j ∧ Builtin.divisionGoesByPylong i j = false then Out.ok (wT [.int (i / j), .int (i % j)]) μ else Out.bad) = _
  rw [if_pos ⟨h, no_pylong h h2⟩]
@[simp] theorem v_int {i : Int} : gInt [.d (.int i)] μ = .ok (.d (.int i)) μ := rfl
@[simp] theorem v_abs {i : Int} : gAbs [.d (.int i)] μ = .ok (.d (.int (if i < 0 then -i else i))) μ := rfl
@[simp] theorem v_neg {i : Int} : gNeg (.d (.int i)) μ = .ok (.d (.int (-i))) μ := rfl
@[simp] theorem v_cmp {p : Int → Int → Bool} {i j : Int} : gCmp p (.d (.int i)) (.d (.int j)) μ = .ok (.d (.bool (p i j))) μ := rfl
theorem v_ixr {k : Nat} {c : Cell} {i : Int} (h : μ[k]? = some (some c)) : gIx (.r k) (.d (.int i)) μ = match atI c i with
    | some x => .ok (.d x) μ
    | none => .bad := by
  unfold gIx
  rw [x_dr h] <;> rfl
@[simp] theorem v_ixt {xs : List PyData} {i : Int} : gIx (.d (.tuple xs)) (.d (.int i)) μ = match atI xs i with
    | some x => .ok (.d x) μ
    | none => .bad := rfl
@[simp] theorem v_ixl {xs : List PyData} {i : Int} : gIx (.d (.list xs)) (.d (.int i)) μ = match atI xs i with
    | some x => .ok (.d x) μ
    | none => .bad := rfl
theorem v_setc {k : Nat} {c : Cell} {j : Int} {x : PyData} (h : μ[k]? = some (some c)) : setC (.r k) (.d (.int j)) (.d x) μ = match ixN c.length j with
      | some n => .ok () (μ.set k (some (c.set n x)))
      | none => .bad := by
  unfold setC
  simp only [h] <;> (cases ixN c.length j <;> rfl)
@[simp] theorem v_isi {T : String} {x : PyData} : gIsi T (.d x) μ = if kinds.contains T = true then .ok (.d (.bool (subTy (tyName x) T))) μ else .bad := rfl
@[simp] theorem v_lent {xs : List PyData} : gLen [.d (.tuple xs)] μ = .ok (.d (.int xs.length)) μ := rfl
@[simp] theorem v_lenl {xs : List PyData} : gLen [.d (.list xs)] μ = .ok (.d (.int xs.length)) μ := rfl
@[simp] theorem v_tupl {xs : List PyData} : gTuple [.d (.list xs)] μ = .ok (.d (.tuple xs)) μ := rfl
@[simp] theorem v_tupt {xs : List PyData} : gTuple [.d (.tuple xs)] μ = .ok (.d (.tuple xs)) μ := rfl
theorem v_tupr {k : Nat} {c : Cell} (h : μ[k]? = some (some c)) : gTuple [.r k] μ = .ok (.d (.tuple c)) μ := by
  show (match dataOf μ (.r k) with
    | some (.list xs) => Out.ok (wT xs) μ
    | some (.tuple xs) => Out.ok (wT xs) μ
    | _ => Out.bad) = _
  rw [x_dr h]
@[simp] theorem v_listt {xs : List PyData} : gList [.d (.tuple xs)] μ = .ok xs μ := rfl
@[simp] theorem v_listl {xs : List PyData} : gList [.d (.list xs)] μ = .ok xs μ := rfl
theorem at_n {β : Type} {xs : List β} {x : β} {n : Nat} (h : xs[n]? = some x) : atI xs (n : Int) = some x := by
  unfold atI ixN
  rw [if_pos (by omega), if_pos (by have := (List.getElem?_eq_some_iff.mp h).1; omega)]
  exact h
@[simp] theorem at_0 {β : Type} {x : β} {xs : List β} : atI (x :: xs) 0 = some x := at_n (n := 0) rfl
@[simp] theorem at_1 {β : Type} {x y : β} {xs : List β} : atI (x :: y :: xs) 1 = some y := at_n (n := 1) rfl
@[simp] theorem at_2 {β : Type} {x y z : β} {xs : List β} : atI (x :: y :: z :: xs) 2 = some z := at_n (n := 2) rfl
@[simp] theorem ix_0 {n : Nat} : ixN (n + 1) 0 = some 0 := by
  unfold ixN
  rw [if_pos (by omega), if_pos (by omega)]
  rfl
@[simp] theorem ix_1 {n : Nat} : ixN (n + 1 + 1) 1 = some 1 := by
  unfold ixN
  rw [if_pos (by omega), if_pos (by omega)]
  rfl
@[simp] theorem ix_2 {n : Nat} : ixN (n + 1 + 1 + 1) 2 = some 2 := by
  unfold ixN
  rw [if_pos (by omega), if_pos (by omega)]
  rfl
@[simp] theorem ix_03 : ixN 3 0 = some 0 := ix_0
@[simp] theorem ix_13 : ixN 3 1 = some 1 := ix_1
@[simp] theorem ix_23 : ixN 3 2 = some 2 := ix_2
theorem at_last {x : PyData} {xs : List PyData} : atI (x :: xs) (-1) = some ((x :: xs).getLast (List.cons_ne_nil _ _)) := by
  have h : ((x :: xs) : List PyData) = (x :: xs).dropLast ++ [(x :: xs).getLast (List.cons_ne_nil _ _)] := (List.dropLast_concat_getLast _).symm
  generalize (x :: xs).getLast (List.cons_ne_nil _ _) = y at h ⊢
  rw [h]
  exact atI_last _ _
theorem at_nat {xs : List PyData} {i : Int} (h1 : 0 ≤ i) (h2 : i < xs.length) : ∃ x, atI xs i = some x ∧ x ∈ xs := by
  unfold atI ixN
  rw [if_pos h1, if_pos h2]
  have hl : i.toNat < xs.length := by omega
  exact ⟨xs[i.toNat], by simp [hl], List.getElem_mem hl⟩
/-- behind a def -/
@[simp] theorem leave_d {n : Nat} {x : PyData} : leave n (.d x) μ = .ok (.d x) (μ.take n) := rfl
@[simp] theorem take_self : μ.take μ.length = μ := List.take_length
@[simp] theorem take_set {k : Nat} {c : Option Cell} : (μ.set k c).take μ.length = μ.set k c := List.take_of_length_le (by rw [List.length_set]; exact Nat.le_refl _)
@[simp] theorem take_app {l : Mu} : (μ ++ l).take μ.length = μ := by simp
theorem lt_of_get {k : Nat} {c : Option Cell} (h : μ[k]? = some c) : k < μ.length := (List.getElem?_eq_some_iff.mp h).1
/-- data are told; of the cells only the k-th may change -/
def Tl (μ : Mu) (k : Nat) (o : Out Wv) (P : PyData → Cell → Prop) : Prop := match o with
  | .ok (.d x) μ' => ∃ c', μ' = μ.set k (some c') ∧ P x c'
  | _ => False
theorem Tl.ok {k : Nat} {o : Out Wv} {P : PyData → Cell → Prop} (h : Tl μ k o P) : ∃ x c', o = .ok (.d x) (μ.set k (some c')) ∧ P x c' := by
  unfold Tl at h
  split at h
  · obtain ⟨c', rfl, p⟩ := h
    exact ⟨_, c', rfl, p⟩
  · exact h.elim
end
end TL
/-! TLQ: loops over data. -/
namespace TL
open PySem PySem.Spec L2
@[simp] theorem tied_nil {xs : Cell} {μ : Mu} : tied ⟨xs, []⟩ μ := fun p h => (nomatch h)
theorem loopC_run {Iv : Nat → Mu → Prop} {R : PyData → PyData → Prop} {xs0 : Cell} {i : Nat} {e : Ev} {ρ : Rho} : ∀ (xs acc : Cell) (n : Nat) (μ : Mu), Iv n μ → acc.length + xs.length ≤ 16777216 →
    (∀ x ∈ xs, ∀ n μ, Iv n μ → ∃ y μ', e (ρ.set i (some (.d x))) μ = .ok (.d y) μ' ∧ Iv (n + 1) μ' ∧ R x y) →
    ∃ ys μ', loopC ⟨xs0, []⟩ (gNm i) bYes e ρ xs acc μ = .ok (acc ++ ys) μ' ∧ Iv (n + xs.length) μ' ∧ ys.length = xs.length ∧ ∀ (k : Nat) x y, xs[k]? = some x → ys[k]? = some y → R x y
  | [], acc, n, μ, h, _, _ => by
    refine ⟨[], μ, ?_, h, rfl, fun k x y h1 => by simp at h1⟩
    unfold loopC
    rw [if_pos tied_nil, List.append_nil]
  | x :: xs, acc, n, μ, h, hl, he => by
    obtain ⟨y, μ1, e1, h1, r1⟩ := he x List.mem_cons_self n μ h
    rw [List.length_cons] at hl
    obtain ⟨ys, μ2, e2, h2, l2, r2⟩ := loopC_run (xs0 := xs0) xs (acc ++ [y]) (n + 1) μ1 h1 (by rw [List.length_append, List.length_singleton]; omega) fun z hz => he z (List.mem_cons_of_mem _ hz)
    refine ⟨y :: ys, μ2, ?_, by rw [List.length_cons]; rw [show n + (xs.length + 1) = n + 1 + xs.length by omega]; exact h2, by rw [List.length_cons, List.length_cons, l2], fun k a b h3 h4 => ?_⟩
    · unfold loopC
      rw [if_pos tied_nil]
      simp only [x_nm, x_calm, Out.bind_ok, x_yes, if_true, e1]
      unfold lcPut
      simp only [Out.bind_ok]
      rw [if_pos (by omega)]
      simp only [Out.bind_ok, e2, List.append_assoc, List.singleton_append]
    · cases k with
      | zero =>
        simp at h3 h4
        subst h3 h4
        exact r1
      | succ k => exact r2 k a b (by simpa using h3) (by simpa using h4)
theorem lc_run {Iv : Nat → Mu → Prop} {R : PyData → PyData → Prop} {it : TL.Iv} {xs : Cell} {i : Nat} {e : Ev} {ρ : Rho} {μ μ1 : Mu} (hit : it ρ μ = .ok ⟨xs, []⟩ μ1) (h0 : Iv 0 μ1) (hl : xs.length ≤ 16777216)
    (he : ∀ x ∈ xs, ∀ n μ, Iv n μ → ∃ y μ', e ((ρ.set i none).set i (some (.d x))) μ = .ok (.d y) μ' ∧ Iv (n + 1) μ' ∧ R x y) :
    ∃ ys μ', lLc it (gNm i) bYes e [i] ρ μ = .ok ys μ' ∧ Iv xs.length μ' ∧ ys.length = xs.length ∧ ∀ (k : Nat) x y, xs[k]? = some x → ys[k]? = some y → R x y := by
  obtain ⟨ys, μ', e1, h1, l1, r1⟩ := loopC_run (Iv := Iv) (R := R) (xs0 := xs) (i := i) (e := e) (ρ := ρ.set i none) xs [] 0 μ1 h0 (by simpa using hl) he
  rw [Nat.zero_add] at h1
  refine ⟨ys, μ', ?_, h1, l1, r1⟩
  show (it ρ μ).bind (fun i1 μ1 => loopC i1 (gNm i) bYes e (wipeR ρ [i]) i1.xs [] μ1) = _
  rw [hit]
  exact e1
/-- each item's value by itself -/
theorem lc_map {g : PyData → PyData} {it : TL.Iv} {xs : Cell} {i : Nat} {e : Ev} {ρ : Rho} {μ μ1 : Mu} (hit : it ρ μ = .ok ⟨xs, []⟩ μ1) (hl : xs.length ≤ 16777216)
    (he : ∀ x ∈ xs, e ((ρ.set i none).set i (some (.d x))) μ1 = .ok (.d (g x)) μ1) : lLc it (gNm i) bYes e [i] ρ μ = .ok (xs.map g) μ1 := by
  obtain ⟨ys, μ', e1, rfl, l1, r1⟩ := lc_run (Iv := fun _ μ => μ = μ1) (R := fun x y => y = g x) hit rfl hl fun x hx n μ h => by
    subst h
    exact ⟨g x, μ, he x hx, rfl, rfl⟩
  rw [e1]
  congr 1
  apply List.ext_getElem?
  intro k
  rw [List.getElem?_map]
  by_cases hk : k < xs.length
  · have hk' : k < ys.length := by omega
    rw [List.getElem?_eq_getElem hk, List.getElem?_eq_getElem hk', r1 k _ _ (List.getElem?_eq_getElem hk) (List.getElem?_eq_getElem hk')]
    rfl
  · rw [List.getElem?_eq_none (by omega), List.getElem?_eq_none (by omega)]
    rfl
/-- the same with any target -/
theorem loopCT_run {Iv : Nat → Mu → Prop} {R : PyData → PyData → Prop} {xs0 : Cell} {t : Gv} {e : Ev} {ρ : Rho} : ∀ (xs acc : Cell) (n : Nat) (μ : Mu), Iv n μ → acc.length + xs.length ≤ 16777216 →
    (∀ x ∈ xs, ∀ n μ, Iv n μ → ∃ ρ1 μ1 y μ', t (.d x) ρ μ = .ok ρ1 μ1 ∧ e ρ1 μ1 = .ok (.d y) μ' ∧ Iv (n + 1) μ' ∧ R x y) →
    ∃ ys μ', loopC ⟨xs0, []⟩ t bYes e ρ xs acc μ = .ok (acc ++ ys) μ' ∧ Iv (n + xs.length) μ' ∧ ys.length = xs.length ∧ ∀ (k : Nat) x y, xs[k]? = some x → ys[k]? = some y → R x y
  | [], acc, n, μ, h, _, _ => by
    refine ⟨[], μ, ?_, h, rfl, fun k x y h1 => by simp at h1⟩
    unfold loopC
    rw [if_pos tied_nil, List.append_nil]
  | x :: xs, acc, n, μ, h, hl, he => by
    obtain ⟨ρ1, μ0, y, μ1, e0, e1, h1, r1⟩ := he x List.mem_cons_self n μ h
    rw [List.length_cons] at hl
    obtain ⟨ys, μ2, e2, h2, l2, r2⟩ := loopCT_run (xs0 := xs0) xs (acc ++ [y]) (n + 1) μ1 h1 (by rw [List.length_append, List.length_singleton]; omega) fun z hz => he z (List.mem_cons_of_mem _ hz)
    refine ⟨y :: ys, μ2, ?_, by rw [List.length_cons]; rw [show n + (xs.length + 1) = n + 1 + xs.length by omega]; exact h2, by rw [List.length_cons, List.length_cons, l2], fun k a b h3 h4 => ?_⟩
    · unfold loopC
      rw [if_pos tied_nil, e0]
      simp only [x_calm, Out.bind_ok, x_yes, if_true, e1]
      unfold lcPut
      simp only [Out.bind_ok]
      rw [if_pos (by omega)]
      simp only [Out.bind_ok, e2, List.append_assoc, List.singleton_append]
    · cases k with
      | zero =>
        simp at h3 h4
        subst h3 h4
        exact r1
      | succ k => exact r2 k a b (by simpa using h3) (by simpa using h4)
theorem lcT_run {Iv : Nat → Mu → Prop} {R : PyData → PyData → Prop} {it : TL.Iv} {xs : Cell} {t : Gv} {os : List Nat} {e : Ev} {ρ : Rho} {μ μ1 : Mu} (hit : it ρ μ = .ok ⟨xs, []⟩ μ1) (h0 : Iv 0 μ1) (hl : xs.length ≤ 16777216)
    (he : ∀ x ∈ xs, ∀ n μ, Iv n μ → ∃ ρ1 μ1 y μ', t (.d x) (wipeR ρ os) μ = .ok ρ1 μ1 ∧ e ρ1 μ1 = .ok (.d y) μ' ∧ Iv (n + 1) μ' ∧ R x y) :
    ∃ ys μ', lLc it t bYes e os ρ μ = .ok ys μ' ∧ Iv xs.length μ' ∧ ys.length = xs.length ∧ ∀ (k : Nat) x y, xs[k]? = some x → ys[k]? = some y → R x y := by
  obtain ⟨ys, μ', e1, h1, l1, r1⟩ := loopCT_run (Iv := Iv) (R := R) (xs0 := xs) (t := t) (e := e) (ρ := wipeR ρ os) xs [] 0 μ1 h0 (by simpa using hl) he
  rw [Nat.zero_add] at h1
  refine ⟨ys, μ', ?_, h1, l1, r1⟩
  show (it ρ μ).bind (fun i1 μ1 => loopC i1 t bYes e (wipeR ρ os) i1.xs [] μ1) = _
  rw [hit]
  exact e1
/-- each item's value by itself, known by place -/
theorem lcT_eq {zs : Cell} {it : TL.Iv} {xs : Cell} {t : Gv} {os : List Nat} {e : Ev} {ρ : Rho} {μ μ1 : Mu} (hit : it ρ μ = .ok ⟨xs, []⟩ μ1) (hl : xs.length ≤ 16777216) (hz : zs.length = xs.length)
    (he : ∀ (k : Nat) x z, xs[k]? = some x → zs[k]? = some z → ∃ ρ1, t (.d x) (wipeR ρ os) μ1 = .ok ρ1 μ1 ∧ e ρ1 μ1 = .ok (.d z) μ1) : lLc it t bYes e os ρ μ = .ok zs μ1 := by
  have gen : ∀ (ys ws acc : Cell), acc.length + ys.length ≤ 16777216 → ws.length = ys.length → (∀ (k : Nat) x z, ys[k]? = some x → ws[k]? = some z → ∃ ρ1, t (.d x) (wipeR ρ os) μ1 = .ok ρ1 μ1 ∧ e ρ1 μ1 = .ok (.d z) μ1) →
      loopC ⟨xs, []⟩ t bYes e (wipeR ρ os) ys acc μ1 = .ok (acc ++ ws) μ1 := by
    intro ys
    induction ys with
    | nil =>
      intro ws acc _ hw _
      cases ws with
      | nil =>
        unfold loopC
        rw [if_pos tied_nil, List.append_nil]
      | cons w ws => cases hw
    | cons y ys ih =>
      intro ws acc hl hw hk
      cases ws with
      | nil => cases hw
      | cons w ws =>
        obtain ⟨ρ1, e0, e1⟩ := hk 0 y w rfl rfl
        rw [List.length_cons] at hl
        have := ih ws (acc ++ [w]) (by rw [List.length_append, List.length_singleton]; omega) (by simpa using hw) fun k x z h1 h2 => hk (k + 1) x z (by simpa using h1) (by simpa using h2)
        unfold loopC
        rw [if_pos tied_nil, e0]
        simp only [x_calm, Out.bind_ok, x_yes, if_true, e1]
        unfold lcPut
        simp only [Out.bind_ok]
        rw [if_pos (by omega)]
        simp only [Out.bind_ok, this, List.append_assoc, List.singleton_append]
  show (it ρ μ).bind (fun i1 μ1 => loopC i1 t bYes e (wipeR ρ os) i1.xs [] μ1) = _
  rw [hit]
  exact gen xs zs [] (by simpa using hl) hz he
theorem v_allm {β : Type} {xs : List β} {p : β → Bool} {μ : Mu} : gAll [.d (.list (xs.map fun x => .bool (p x)))] μ = .ok (.d (.bool (xs.all p))) μ := by
  have e : (xs.map fun x => PyData.bool (p x)) = (xs.map p).map PyData.bool := by rw [List.map_map]; rfl
  unfold gAll
  simp only [x_dd, e, boolsOf_bools]
  show Out.ok (Wv.d (.bool _)) μ = _
  congr 3
  rw [List.all_map]
  rfl
theorem v_anym {β : Type} {xs : List β} {p : β → Bool} {μ : Mu} : gAny [.d (.list (xs.map fun x => .bool (p x)))] μ = .ok (.d (.bool (xs.any p))) μ := by
  have e : (xs.map fun x => PyData.bool (p x)) = (xs.map p).map PyData.bool := by rw [List.map_map]; rfl
  unfold gAny
  simp only [x_dd, e, boolsOf_bools]
  show Out.ok (Wv.d (.bool _)) μ = _
  congr 3
  rw [List.any_map]
  rfl
theorem loopF_run {P : Nat → Rho → Mu → Prop} {xs0 : Cell} {t : Gv} {b : Sv} : ∀ (xs : Cell) (n : Nat) (ρ : Rho) (μ : Mu), P n ρ μ →
    (∀ (k : Nat) x ρ μ, xs[k]? = some x → P (n + k) ρ μ → ∃ ρ1 μ1 ρ' μ', t (.d x) ρ μ = .ok ρ1 μ1 ∧ b ρ1 μ1 = .ok (.nx ρ') μ' ∧ P (n + k + 1) ρ' μ') →
    ∃ ρ' μ', loopF ⟨xs0, []⟩ t b xs ρ μ = .ok (.nx ρ') μ' ∧ P (n + xs.length) ρ' μ'
  | [], n, ρ, μ, h, _ => by
    refine ⟨ρ, μ, ?_, h⟩
    unfold loopF
    rw [if_pos tied_nil]
  | x :: xs, n, ρ, μ, h, hb => by
    obtain ⟨ρ1, μ1, ρ2, μ2, e1, e2, h2⟩ := hb 0 x ρ μ rfl h
    obtain ⟨ρ3, μ3, e3, h3⟩ := loopF_run (P := P) (xs0 := xs0) (t := t) (b := b) xs (n + 1) ρ2 μ2 h2 fun k y ρ μ hk hp => by
      have := hb (k + 1) y ρ μ (by simpa using hk) (by rw [show n + (k + 1) = n + 1 + k by omega]; exact hp)
      rw [show n + (k + 1) + 1 = n + 1 + k + 1 by omega] at this
      exact this
    refine ⟨ρ3, μ3, ?_, by rw [List.length_cons, show n + (xs.length + 1) = n + 1 + xs.length by omega]; exact h3⟩
    unfold loopF
    rw [if_pos tied_nil, e1]
    simp only [x_calm, Out.bind_ok, e2]
    exact e3
theorem for_run (P : Nat → Rho → Mu → Prop) {it : TL.Iv} {xs : Cell} {t : Gv} {b : Sv} {ρ : Rho} {μ μ1 : Mu} (hit : it ρ μ = .ok ⟨xs, []⟩ μ1) (h0 : P 0 ρ μ1)
    (hb : ∀ (k : Nat) x ρ μ, xs[k]? = some x → P k ρ μ → ∃ ρ1 μ1 ρ' μ', t (.d x) ρ μ = .ok ρ1 μ1 ∧ b ρ1 μ1 = .ok (.nx ρ') μ' ∧ P (k + 1) ρ' μ') :
    ∃ ρ' μ', sFor it t b ρ μ = .ok (.nx ρ') μ' ∧ P xs.length ρ' μ' := by
  obtain ⟨ρ', μ', e, h⟩ := loopF_run (P := P) (xs0 := xs) (t := t) (b := b) xs 0 ρ μ1 h0 (by simpa using hb)
  rw [Nat.zero_add] at h
  refine ⟨ρ', μ', ?_, h⟩
  unfold sFor
  rw [hit]
  exact e
theorem loopW_run {P : Nat → Rho → Mu → Prop} {Q : Rho → Mu → Prop} {c : Bv} {b : Sv} (step : ∀ n ρ μ, P n ρ μ → ∃ t μ1, c ρ μ = .ok t μ1 ∧ ((t = false ∧ Q ρ μ1) ∨ (t = true ∧ ∃ ρ' μ' n', n' < n ∧ b ρ μ1 = .ok (.nx ρ') μ' ∧ P n' ρ' μ'))) :
    ∀ (n : Nat) (ρ : Rho) (μ : Mu), P n ρ μ → ∃ k ρ' μ', loopW c b k ρ μ = .ok (.nx ρ') μ' ∧ Q ρ' μ' := by
  intro n
  induction n using Nat.strongRecOn with
  | _ n ih =>
    intro ρ μ h
    obtain ⟨t, μ1, e, z⟩ := step n ρ μ h
    rcases z with ⟨rfl, q⟩ | ⟨rfl, ρ', μ', n', hn, e2, h2⟩
    · refine ⟨1, ρ, μ1, ?_, q⟩
      unfold loopW
      rw [e]
      rfl
    · obtain ⟨k, ρ3, μ3, e3, q⟩ := ih n' hn ρ' μ' h2
      refine ⟨k + 1, ρ3, μ3, ?_, q⟩
      unfold loopW
      rw [e]
      simp only [liftO_ok, if_true, e2, x_calm, Out.bind_ok]
      exact e3
theorem wh_run (P : Nat → Rho → Mu → Prop) (Q : Rho → Mu → Prop) {c : Bv} {b : Sv} (n : Nat) {ρ : Rho} {μ : Mu} (h : P n ρ μ)
    (step : ∀ n ρ μ, P n ρ μ → ∃ t μ1, c ρ μ = .ok t μ1 ∧ ((t = false ∧ Q ρ μ1) ∨ (t = true ∧ ∃ ρ' μ' n', n' < n ∧ b ρ μ1 = .ok (.nx ρ') μ' ∧ P n' ρ' μ'))) :
    ∃ ρ' μ', sWhile c b ρ μ = .ok (.nx ρ') μ' ∧ Q ρ' μ' := by
  obtain ⟨k, ρ', μ', e, q⟩ := loopW_run step n ρ μ h
  exact ⟨ρ', μ', sWhile_at k e (by simp), q⟩
section
variable {μ : Mu}
theorem v_eq {neg : Bool} {a b : Wv} {x y : PyData} {c : Bool} (ha : dataOf μ a = some x) (hb : dataOf μ b = some y) (h : eqP x y = some c) : gEq neg a b μ = .ok (.d (.bool (if neg then !c else c))) μ := by
  unfold gEq
  simp only [ha, hb, h]
@[simp] theorem v_eqd {neg : Bool} {x y : PyData} : gEq neg (.d x) (.d y) μ = match eqP x y with
    | some c => .ok (.d (.bool (if neg then !c else c))) μ
    | none => .bad := rfl
@[simp] theorem v_pow {i j : Int} : gPow (.d (.int i)) (.d (.int j)) μ = if 0 ≤ j ∧ j ≤ 1000000 ∧ i.natAbs < 2 ^ 64 then .ok (.d (.int (i ^ j.toNat))) μ else .bad := rfl
@[simp] theorem eq_tt {xs : List PyData} : eqP (.tuple xs) (.tuple []) = some xs.isEmpty := by cases xs <;> rfl
@[simp] theorem eq_ll {xs : List PyData} : eqP (.list xs) (.list []) = some xs.isEmpty := by cases xs <;> rfl
@[simp] theorem eq_ss {x y : Str} : eqP (.str x) (.str y) = some (decide (x = y)) := rfl
@[simp] theorem sh_int {i : Int} : SeqAt.shaped (.int i) = true := rfl
@[simp] theorem sh_bool {b : Bool} : SeqAt.shaped (.bool b) = true := rfl
@[simp] theorem sh_none : SeqAt.shaped .none = true := rfl
@[simp] theorem sh_t0 : SeqAt.shaped (.tuple []) = true := rfl
theorem eq_sh {x y : PyData} (hx : SeqAt.shaped x = true) (hy : SeqAt.shaped y = true) (h1 : ∀ a, x ≠ .str a) (h2 : ∀ a, x ≠ .tuple a) (h3 : ∀ a, x ≠ .list a) : eqP x y = some (PyData.eqv x y) := by
  unfold eqP
  split
  · exact (h1 _ rfl).elim
  · exact (h2 _ rfl).elim
  · exact (h2 _ rfl).elim
  · exact (h3 _ rfl).elim
  · exact (h3 _ rfl).elim
  · rw [if_pos ⟨hx, hy⟩]
@[simp] theorem eq_ii {i j : Int} : eqP (.int i) (.int j) = some (i == j) := by
  rw [eq_sh rfl rfl (fun _ h => by cases h) (fun _ h => by cases h) (fun _ h => by cases h)]
  simp [PyData.eqv]
@[simp] theorem eq_it {i : Int} : eqP (.int i) (.tuple []) = some false := by
  rw [eq_sh rfl rfl (fun _ h => by cases h) (fun _ h => by cases h) (fun _ h => by cases h)]
  simp [PyData.eqv]
@[simp] theorem eq_bi {b : Bool} {j : Int} : eqP (.bool b) (.int j) = some ((if b then 1 else 0) == j) := by
  rw [eq_sh rfl rfl (fun _ h => by cases h) (fun _ h => by cases h) (fun _ h => by cases h)]
  simp [PyData.eqv]
theorem eq_ti {xs : List PyData} {j : Int} (h : SeqAt.shaped (.tuple xs) = true) : eqP (.tuple xs) (.int j) = some false := by
  have : eqP (.tuple xs) (.int j) = if SeqAt.shaped (.tuple xs) = true ∧ SeqAt.shaped (.int j) = true then some (PyData.eqv (.tuple xs) (.int j)) else none := by
    cases xs <;> rfl
  rw [this, if_pos ⟨h, rfl⟩]
  simp [PyData.eqv]
theorem sh_ints {xs : List PyData} (h : ∀ x ∈ xs, ∃ i, x = .int i) : SeqAt.shaped (.tuple xs) = true := by
  have h1 : PyData.canLayAll0 xs = true ∧ PyData.depthAll xs = 0 := by
    induction xs with
    | nil => exact ⟨rfl, rfl⟩
    | cons x xs ih =>
      obtain ⟨i, rfl⟩ := h x List.mem_cons_self
      obtain ⟨a, b⟩ := ih fun y hy => h y (List.mem_cons_of_mem _ hy)
      exact ⟨by simp [PyData.canLayAll0, PyData.canLay0, a], by simp [PyData.depthAll, PyData.depth, b]⟩
  unfold SeqAt.shaped
  simp [PyData.canLay0, PyData.depth, h1.1, h1.2]
end
section
variable {μ : Mu}
theorem app_set {k : Nat} {a : Option Cell} {l : Mu} (h : k < μ.length) : (μ ++ l).set k a = μ.set k a ++ l := List.set_append_left _ _ h
theorem app_get {k : Nat} {a : Option Cell} {l : Mu} (h : μ[k]? = some a) : (μ ++ l)[k]? = some a := by
  rw [List.getElem?_append_left (lt_of_get h)]
  exact h
@[simp] theorem take_setapp {k : Nat} {c : Option Cell} {l : Mu} : (μ.set k c ++ l).take μ.length = μ.set k c := by
  rw [List.take_append_of_le_length (by rw [List.length_set]; exact Nat.le_refl _)]
  exact take_set
@[simp] theorem get_last {k : Nat} {c a : Option Cell} : (μ.set k c ++ [a])[μ.length]? = some a := by
  rw [List.getElem?_append_right (by rw [List.length_set]; exact Nat.le_refl _), List.length_set, Nat.sub_self]
  rfl
@[simp] theorem set_last {k : Nat} {c a b : Option Cell} : (μ.set k c ++ [a]).set μ.length b = μ.set k c ++ [b] := by
  rw [List.set_append_right _ _ (by rw [List.length_set]; exact Nat.le_refl _), List.length_set, Nat.sub_self]
  rfl
theorem v_app {k : Nat} {c : Cell} {x : PyData} (h : μ[k]? = some (some c)) (hl : c.length < 16777216) : gApp (.r k) [.d x] μ = .ok (.d .none) (μ.set k (some (c ++ [x]))) := by
  unfold gApp
  simp only [h, if_pos hl]
theorem x_meth {ρ : Rho} {g : Wv → List Wv → Mu → Out Wv} {o : Ev} {as : Av} : eMeth1 g o as ρ μ = (o ρ μ).bind fun w μ1 => if live w μ1 = true then (as ρ μ1).bind fun ws μ2 => calm (g w ws μ2) else .bad := rfl
theorem live_r {k : Nat} {c : Cell} (h : μ[k]? = some (some c)) : live (.r k) μ = true := by
  unfold live
  simp only [h]
theorem it_r1 {ρ : Rho} {as : Av} {j : Int} {μ1 : Mu} (h : as ρ μ = .ok [.d (.int j)] μ1) (h1 : -4611686018427387904 ≤ j) (h2 : j < 4611686018427387904) : iR1 as ρ μ = .ok ⟨intL 0 j.toNat 1, []⟩ μ1 := by
  show (as ρ μ).bind _ = _
  rw [h]
  show (if smallI j = true then _ else _) = _
  rw [if_pos (smallI_is h1 h2)]
end
end TL
namespace LW
open PySem PySem.Spec TL
open L2 (atI ixN)
/-- the law's own well -/
def Wl (m : Nat) (c : Cell) : Prop := ∃ a b n : Int, c = [.int a, .int b, .int n] ∧ 0 ≤ a ∧ 0 ≤ b ∧ b < 2147483563 ∧ 0 ≤ n ∧ n ≤ m
def DrawP (m : Nat) (many : Int) (x : PyData) (c' : Cell) : Prop := ∃ r, x = .int r ∧ 0 ≤ r ∧ r < many ∧ Wl (m + 1) c'
theorem t_draw0 {μ : Mu} {k m : Nat} {many : Int} {c : Cell} (h : μ[k]? = some (some c)) (w : Wl m c) (hm : m < 1000000000) (h1 : 0 < many) (h2 : many < 1000000000) : Tl μ k (f_law_draw [.r k, .d (.int many)] μ) (DrawP m many) := by
  obtain ⟨a, b, n, rfl, ha, hb, hb2, hn, hn2⟩ := w
  by_cases ha0 : 0 < a
  · simp [f_law_draw, b_law_draw, runD, initR, v_ixr h, v_setc h, ha0, v_divmod h1 (by omega : many < 1000000000000000000)]
    exact ⟨_, rfl, _, rfl, Int.emod_nonneg _ (by omega), Int.emod_lt_of_pos _ h1, _, _, _, rfl, Int.ediv_nonneg ha (by omega), hb, hb2, hn, by omega⟩
  · have h3 : ∀ c1 : Cell, (μ.set k (some c1))[k]? = some (some c1) := fun c1 => get_set h
    simp (disch := omega) [f_law_draw, b_law_draw, runD, initR, v_ixr h, v_setc h, ha0, v_ixr (h3 _), v_setc (h3 _), TL.v_times, TL.v_mod, TL.v_div]
    exact ⟨_, rfl, _, rfl, Int.emod_nonneg _ (by omega), Int.emod_lt_of_pos _ h1, _, _, _, rfl, ha, Int.emod_nonneg _ (by omega), Int.emod_lt_of_pos _ (by omega), by omega, by omega⟩
theorem t_draw {μ : Mu} {k m : Nat} {many : Int} {c : Cell} (h : μ[k]? = some (some c)) (w : Wl m c) (hm : m < 1000000000) (h1 : 0 < many) (h2 : many < 1000000000) :
    ∃ r c', f_law_draw [.r k, .d (.int many)] μ = .ok (.d (.int r)) (μ.set k (some c')) ∧ 0 ≤ r ∧ r < many ∧ Wl (m + 1) c' := by
  obtain ⟨x, c', e, r, rfl, p⟩ := (t_draw0 h w hm h1 h2).ok
  exact ⟨r, c', e, p⟩

theorem Wl.up {m n : Nat} {c : Cell} (w : Wl m c) (h : m ≤ n) : Wl n c := by
  obtain ⟨a, b, i, rfl, q1, q2, q3, q4, q5⟩ := w
  exact ⟨a, b, i, rfl, q1, q2, q3, q4, by omega⟩
theorem t_pick {μ : Mu} {k m : Nat} {xs : List PyData} {c : Cell} (h : μ[k]? = some (some c)) (w : Wl m c) (hm : m < 900000000) (h0 : 0 < xs.length) (h1 : xs.length < 100000) :
    ∃ x c', f_law_pick [.r k, .d (.tuple xs)] μ = .ok (.d x) (μ.set k (some c')) ∧ Wl (m + 1) c' ∧ x ∈ xs := by
  obtain ⟨r, c1, e1, r0, r1, w1⟩ := t_draw (many := xs.length) h w (by omega) (by omega) (by omega)
  obtain ⟨x, e2, hx⟩ := at_nat r0 r1
  exact ⟨x, c1, by simp [f_law_pick, b_law_pick, runD, initR, e1, e2], w1, hx⟩
theorem cut_in {xs : List PyData} {lo hi : Option Int} : (cutL xs lo hi).length ≤ xs.length ∧ ∀ y ∈ cutL xs lo hi, y ∈ xs := by
  unfold cutL
  refine ⟨?_, fun y hy => List.mem_of_mem_drop (List.mem_of_mem_take hy)⟩
  rw [List.length_take, List.length_drop]
  omega
@[simp] theorem v_slt {μ : Mu} {xs : List PyData} {lo hi : Option Int} : gSl (.d (.tuple xs)) lo hi μ = .ok (.d (.tuple (cutL xs lo hi))) μ := rfl
@[simp] theorem v_sll {μ : Mu} {xs : List PyData} {lo hi : Option Int} : gSl (.d (.list xs)) lo hi μ = .ok (.d (.list (cutL xs lo hi))) μ := rfl
@[simp] theorem v_revt {μ : Mu} {xs : List PyData} : gRev (.d (.tuple xs)) μ = .ok (.d (.tuple xs.reverse)) μ := rfl
theorem t_wstep {sc a : Wv} {y v p q : Int} {μ : Mu} (v0 : 0 ≤ v) (v1 : v < 1000000000000) (hp : 0 < p) (hq : 0 < q) :
    (sAsg (e2 gMod (en gInt (aCons (e2 gPlus (e2 gPlus (e2 gTimes (eVar 2) (eK (.int 48023))) (e2 gMod (en gInt (aCons (eVar 3) aNil)) (eK (.int p)))) (eK (.int 5))) aNil)) (eK (.int q))) (gNm 2))
      [some sc, some a, some (.d (.int v)), some (.d (.int y)), none] μ = .ok (.nx [some sc, some a, some (.d (.int ((v * 48023 + y % p + 5) % q))), some (.d (.int y)), none]) μ := by
  simp (disch := omega) [TL.v_times, TL.v_mod]
theorem t_wloop {ns : List Int} {a : Wv} {v p q : Int} {μ : Mu} (v0 : 0 ≤ v) (v1 : v < q) (hp : 0 < p) (hq : 0 < q) (hq2 : q < 1000000000000) : ∃ v' o, sFor (iAny (eSl (eVar 0) none (some (eK (.int 9))))) (gNm 3)
    (sAsg (e2 gMod (en gInt (aCons (e2 gPlus (e2 gPlus (e2 gTimes (eVar 2) (eK (.int 48023))) (e2 gMod (en gInt (aCons (eVar 3) aNil)) (eK (.int p)))) (eK (.int 5))) aNil)) (eK (.int q))) (gNm 2))
    [some (.d (.list (ns.map PyData.int))), some a, some (.d (.int v)), none, none] μ = .ok (.nx [some (.d (.list (ns.map PyData.int))), some a, some (.d (.int v')), o, none]) μ ∧ 0 ≤ v' ∧ v' < q := by
  have main := for_run (it := (iAny (eSl (eVar 0) none (some (eK (.int 9)))))) (xs := cutL (ns.map PyData.int) none (some 9)) (t := gNm 3)
    (b := (sAsg (e2 gMod (en gInt (aCons (e2 gPlus (e2 gPlus (e2 gTimes (eVar 2) (eK (.int 48023))) (e2 gMod (en gInt (aCons (eVar 3) aNil)) (eK (.int p)))) (eK (.int 5))) aNil)) (eK (.int q))) (gNm 2)))
    (ρ := [some (.d (.list (ns.map PyData.int))), some a, some (.d (.int v)), none, none]) (μ := μ) (μ1 := μ)
    (fun _ ρ' μ' => μ' = μ ∧ ∃ v x, ρ' = [some (.d (.list (ns.map PyData.int))), some a, some (.d (.int v)), x, none] ∧ 0 ≤ v ∧ v < q)
    rfl ⟨rfl, _, none, rfl, v0, v1⟩ (fun n x ρ' μ' hx ⟨e0, v, o, e1, v0, v1⟩ => ?_)
  · obtain ⟨ρ', μ', e, rfl, v, o, rfl, v0, v1⟩ := main
    exact ⟨v, o, e, v0, v1⟩
  · subst e0 e1
    have hm := cut_in.2 x (List.mem_of_getElem? hx)
    obtain ⟨y, _, rfl⟩ := List.mem_map.mp hm
    exact ⟨_, _, _, _, rfl, t_wstep v0 (by omega) hp hq, rfl, _, _, rfl, Int.emod_nonneg _ (by omega), Int.emod_lt_of_pos _ hq⟩
theorem t_wown {ns : List Int} {i : Nat} {o2 o3 o4 : Option Wv} {μ : Mu} : ∃ z : Int, (eIf (tB' (e2 (gCmp fun i j => decide (i < j)) (eVar 1) (en gLen (aCons (eVar 0) aNil)))) (en gInt (aCons (e2 gIx (eVar 0) (eVar 1)) aNil)) (eK (.int 0))) [some (.d (.list (ns.map PyData.int))), some (.d (.int i)), o2, o3, o4] μ = .ok (.d (.int z)) μ := by
  by_cases hl : i < ns.length
  · have : atI (ns.map PyData.int) (i : Int) = some (.int ns[i]) := at_n (by rw [List.getElem?_map, List.getElem?_eq_getElem hl]; rfl)
    exact ⟨ns[i], by simp [this, hl]⟩
  · exact ⟨0, by simp [hl]⟩
noncomputable def M_well (p q : Int) : Ev :=
  (e2 gMod (en gInt (aCons (e2 gPlus (e2 gPlus (e2 gTimes (eVar 2) (eK (.int 43))) (e2 gTimes (e2 gMod (en gInt (aCons (eVar 4) aNil)) (eK (.int p))) (eK (.int 20047)))) (eK (.int 13))) aNil)) (eK (.int q)))
noncomputable def U_well : Sv :=
  (sRet (eNew (lDisp (aCons (eIf (bOr (tB' (e2 (gCmp fun i j => decide (i < j)) (eVar 4) (eK (.int 0)))) (tB' (e2 (gCmp fun i j => decide (j ≤ i)) (eVar 4) (e2 gPow (eK (.int 10)) (eK (.int 14)))))) (en gAbs (aCons (eVar 4) aNil)) (eK (.int 0))) (aCons (eVar 2) (aCons (eK (.int 0)) aNil))))))
theorem t_wmix {sc a : Wv} {v z p q : Int} {o o4 : Option Wv} {μ : Mu} (v0 : 0 ≤ v) (v1 : v < 1000000000000) (hp : 0 < p) (hp2 : p < 1000000000000) (hq : 0 < q) :
    sAsg (M_well p q) (gNm 2) [some sc, some a, some (.d (.int v)), o, some (.d (.int z))] μ = .ok (.nx [some sc, some a, some (.d (.int ((v * 43 + z % p * 20047 + 13) % q))), o, some (.d (.int z))]) μ := by
  have h1 := Int.emod_nonneg z (show p ≠ 0 by omega)
  have h2 := Int.emod_lt_of_pos z hp
  simp (disch := omega) [M_well, TL.v_times, TL.v_mod]
theorem t_wret {sc a : Wv} {v z : Int} {o : Option Wv} {μ : Mu} : U_well [some sc, some a, some (.d (.int v)), o, some (.d (.int z))] μ = .ok (.rt (.r μ.length)) (μ ++ [some [.int (if z < 0 ∨ 10 ^ 14 ≤ z then (if z < 0 then -z else z) else 0), .int v, .int 0]]) := by
  have p : gPow (.d (.int 10)) (.d (.int 14)) μ = .ok (.d (.int (10 ^ 14))) μ := rfl
  generalize (10 : Int) ^ 14 = big at p ⊢
  by_cases hz : z < 0
  · simp [-v_pow, U_well, hz, p]
  · by_cases hz2 : big ≤ z
    · simp [-v_pow, U_well, hz, hz2, p]
    · simp [-v_pow, U_well, hz, hz2, p]
theorem well_is : b_law_well = sSeq (sAsg (e2 gPlus (eK (.int 738107)) (e2 gTimes (eK (.int 7457)) (eVar 1))) (gNm 2)) (sSeq (sFor (iAny (eSl (eVar 0) none (some (eK (.int 9))))) (gNm 3) (sAsg (e2 gMod (en gInt (aCons (e2 gPlus (e2 gPlus (e2 gTimes (eVar 2) (eK (.int 48023))) (e2 gMod (en gInt (aCons (eVar 3) aNil)) (eK (.int 2147483629)))) (eK (.int 5))) aNil)) (eK (.int 2147483563))) (gNm 2))) (sSeq (sAsg (eIf (tB' (e2 (gCmp fun i j => decide (i < j)) (eVar 1) (en gLen (aCons (eVar 0) aNil)))) (en gInt (aCons (e2 gIx (eVar 0) (eVar 1)) aNil)) (eK (.int 0))) (gNm 4)) (sSeq (sAsg (M_well 2147483629 2147483563) (gNm 2)) U_well))) := rfl
theorem asg_ok {f : Ev} {i : Nat} {ρ : Rho} {μ : Mu} {w : Wv} (h : f ρ μ = .ok w μ) : sAsg f (gNm i) ρ μ = .ok (.nx (ρ.set i (some w))) μ := by
  rw [x_asg, h]
  rfl
theorem seq_ok {a b : Sv} {ρ ρ' : Rho} {μ μ' : Mu} (h : a ρ μ = .ok (.nx ρ') μ') : sSeq a b ρ μ = b ρ' μ' := by
  rw [x_seq, h]
  rfl
theorem t_well {ns : List Int} {i : Nat} {μ : Mu} (hi : i ≤ 100) : ∃ c, f_law_well [.d (.list (ns.map PyData.int)), .d (.int i)] μ = .ok (.r μ.length) (μ ++ [some c]) ∧ Wl 0 c := by
  have t1 := TL.v_times (μ := μ) (i := 7457) (j := i) (by omega) (by omega) (by omega) (by omega)
  obtain ⟨v, o, e, v0, v1⟩ := t_wloop (ns := ns) (a := .d (.int i)) (v := 738107 + 7457 * i) (p := 2147483629) (q := 2147483563) (μ := μ) (by omega) (by omega) (by omega) (by omega) (by omega)
  obtain ⟨z, ez⟩ := t_wown (ns := ns) (i := i) (o2 := some (.d (.int v))) (o3 := o) (o4 := none) (μ := μ)
  have em := t_wmix (sc := .d (.list (ns.map PyData.int))) (a := .d (.int i)) (v := v) (z := z) (p := 2147483629) (q := 2147483563) (o := o) (o4 := none) (μ := μ) v0 (by omega) (by omega) (by omega) (by omega)
  have er := t_wret (sc := .d (.list (ns.map PyData.int))) (a := .d (.int i)) (v := (v * 43 + z % 2147483629 * 20047 + 13) % 2147483563) (z := z) (o := o) (μ := μ)
  have q : b_law_well [some (.d (.list (ns.map PyData.int))), some (.d (.int i)), none, none, none] μ = .ok (.rt (.r μ.length)) (μ ++ [some [.int (if z < 0 ∨ 10 ^ 14 ≤ z then (if z < 0 then -z else z) else 0), .int ((v * 43 + z % 2147483629 * 20047 + 13) % 2147483563), .int 0]]) := by
    rw [well_is, seq_ok (asg_ok (w := .d (.int (738107 + 7457 * i))) (by simp [t1]))]
    show sSeq _ _ [some (.d (.list (ns.map PyData.int))), some (.d (.int i)), some (.d (.int (738107 + 7457 * i))), none, none] μ = _
    rw [seq_ok e, seq_ok (asg_ok ez)]
    show sSeq _ _ [some (.d (.list (ns.map PyData.int))), some (.d (.int i)), some (.d (.int v)), o, some (.d (.int z))] μ = _
    rw [seq_ok em]
    exact er
  have q2 : f_law_well [.d (.list (ns.map PyData.int)), .d (.int i)] μ = .ok (.r μ.length) (μ ++ [some [.int (if z < 0 ∨ 10 ^ 14 ≤ z then (if z < 0 then -z else z) else 0), .int ((v * 43 + z % 2147483629 * 20047 + 13) % 2147483563), .int 0]]) := by
    show (match b_law_well [some (.d (.list (ns.map PyData.int))), some (.d (.int i)), none, none, none] μ with
      | .ok (.rt w) μ' => leave μ.length w μ'
      | .ok (.nx _) μ' => leave μ.length (.d .none) μ'
      | .ok (.er x us _) μ' => match allD us with
        | some c => .err x (c.map Wv.d) (μ'.take μ.length)
        | none => .bad
      | _ => .bad) = _
    rw [q]
    simp [leave]
  have hz : (0 : Int) ≤ (if z < 0 ∨ 10 ^ 14 ≤ z then (if z < 0 then -z else z) else 0) := by
    split
    · split <;> omega
    · omega
  exact ⟨_, q2, _, _, _, rfl, hz, Int.emod_nonneg _ (by omega), Int.emod_lt_of_pos _ (by omega), by omega, by omega⟩
end LW
namespace LW
open PySem PySem.Spec TL
open L2 (atI ixN)
/-- zeros at the end cut off -/
def trim : List Int → List Int
  | [] => []
  | x :: xs => match trim xs with
    | [] => if x = 0 then [] else [x]
    | y :: ys => x :: y :: ys
theorem trim_app0 : ∀ xs : List Int, trim (xs ++ [0]) = trim xs
  | [] => rfl
  | x :: xs => by
    show trim (x :: (xs ++ [0])) = _
    unfold trim
    rw [trim_app0 xs]
theorem trim_last : ∀ (xs : List Int) (y : Int), y ≠ 0 → trim (xs ++ [y]) = xs ++ [y]
  | [], y, h => by simp [trim, h]
  | x :: xs, y, h => by
    show trim (x :: (xs ++ [y])) = _
    unfold trim
    rw [trim_last xs y h]
    cases xs <;> rfl
def Li (xs : List Int) : List PyData := xs.map PyData.int
@[simp] theorem Li_len {xs : List Int} : (Li xs).length = xs.length := List.length_map _
theorem Li_get {xs : List Int} {n : Nat} : (Li xs)[n]? = xs[n]?.map PyData.int := List.getElem?_map ..
@[simp] theorem Li_one {x : Int} : Li [x] = [.int x] := rfl
theorem Li_app {a b : List Int} : Li (a ++ b) = Li a ++ Li b := List.map_append
theorem Li_mem {xs : List Int} {y : PyData} (h : y ∈ Li xs) : ∃ x ∈ xs, y = .int x := by
  obtain ⟨x, hx, rfl⟩ := List.mem_map.mp h
  exact ⟨x, hx, rfl⟩
abbrev Rw' (xs : List Int) : PyData := .tuple (Li xs)
theorem take_succ0 {xs : List Int} {n : Nat} (h : n < xs.length) : xs.take (n + 1) = xs.take n ++ [xs[n]] := by
  rw [List.take_add_one, List.getElem?_eq_getElem h]
  rfl
theorem trim_take {xs : List Int} {n : Nat} (hn : n < xs.length) (h : xs[n] = 0) : trim (xs.take (n + 1)) = trim (xs.take n) := by
  rw [take_succ0 hn, h, trim_app0]
theorem trim_take' {xs : List Int} {n : Nat} (hn : n < xs.length) (h : xs[n] ≠ 0) : trim (xs.take (n + 1)) = xs.take (n + 1) := by
  rw [take_succ0 hn, trim_last _ _ h]
theorem cut_take {β : Type} {xs : List β} {n : Nat} (h : n ≤ xs.length) : cutL xs none (some (n : Int)) = xs.take n := by
  unfold cutL
  rw [show HT.sIx xs.length 0 none = 0 from rfl, show HT.sIx xs.length xs.length (some (n : Int)) = min n xs.length from HT.sIx_nat xs.length xs.length n]
  rw [List.drop_zero, Nat.sub_zero, Nat.min_eq_left h]
/-- a list or a tuple of ints -/
def Sq (μ : Mu) (w : Wv) (xs : List Int) : Prop := dataOf μ w = some (.list (Li xs)) ∨ dataOf μ w = some (.tuple (Li xs))
theorem sq_len {μ : Mu} {w : Wv} {xs : List Int} (h : Sq μ w xs) : gLen [w] μ = .ok (.d (.int xs.length)) μ := by
  rcases h with h | h <;> (unfold gLen; simp only [h, Li_len] <;> rfl)
theorem sq_ix {μ : Mu} {w : Wv} {xs : List Int} (h : Sq μ w xs) {n : Nat} (hn : n < xs.length) : gIx w (.d (.int n)) μ = .ok (.d (.int xs[n])) μ := by
  have e : atI (Li xs) (n : Int) = some (.int xs[n]) := at_n (by rw [Li_get, List.getElem?_eq_getElem hn]; rfl)
  rcases h with h | h <;> (unfold gIx; simp only [h, e])
theorem sq_take {μ : Mu} {w : Wv} {xs : List Int} (h : Sq μ w xs) {n : Nat} (hn : n ≤ xs.length) : ∃ u, gSl w none (some (n : Int)) μ = .ok u μ ∧ gTuple [u] μ = .ok (.d (Rw' (xs.take n))) μ := by
  have e : cutL (Li xs) none (some (n : Int)) = Li (xs.take n) := by
    rw [cut_take (by rw [Li_len]; exact hn)]
    exact (List.map_take).symm
  rcases h with h | h
  · refine ⟨.d (.list (Li (xs.take n))), ?_, rfl⟩
    unfold gSl
    simp only [h, e] <;> rfl
  · refine ⟨.d (.tuple (Li (xs.take n))), ?_, rfl⟩
    unfold gSl
    simp only [h, e] <;> rfl
theorem t_trimmed {μ : Mu} {w : Wv} {xs : List Int} (h : Sq μ w xs) : f_trimmed [w] μ = .ok (.d (Rw' (trim xs))) μ := by
  have main : ∃ ρ' μ', sWhile (bAnd (tB' (e2 (gCmp fun i j => decide (j < i)) (eVar 1) (eK (.int 0)))) (tB' (e2 (gEq false) (e2 gIx (eVar 0) (e2 gSub (eVar 1) (eK (.int 1)))) (eK (.int 0))))) (sAsg (e2 gSub (eVar 1) (eK (.int 1))) (gNm 1)) [some w, some (.d (.int xs.length))] μ = .ok (.nx ρ') μ' ∧
      μ' = μ ∧ ∃ n : Nat, ρ' = [some w, some (.d (.int n))] ∧ n ≤ xs.length ∧ xs.take n = trim xs := by
    refine wh_run (fun n ρ' μ' => μ' = μ ∧ ρ' = [some w, some (.d (.int n))] ∧ n ≤ xs.length ∧ trim (xs.take n) = trim xs) _ xs.length ⟨rfl, rfl, Nat.le_refl _, by rw [List.take_length]⟩ ?_
    rintro n ρ' μ' ⟨rfl, rfl, hn, ht⟩
    cases n with
    | zero => exact ⟨false, μ', by simp, .inl ⟨rfl, rfl, 0, rfl, hn, by rw [← ht]; rfl⟩⟩
    | succ n =>
      have ei : ((n + 1 : Nat) : Int) - 1 = (n : Int) := by omega
      have e1 := sq_ix h (show n < xs.length by omega)
      have hp : (0 : Int) < ((n + 1 : Nat) : Int) := by omega
      by_cases hz : xs[n] = 0
      · refine ⟨true, μ', ?_, .inr ⟨rfl, [some w, some (.d (.int n))], μ', n, by omega, ?_, rfl, rfl, by omega, ?_⟩⟩
        · simp only [x_band, x_tB, x_e2, x_v0, x_vs, x_k, Out.bind_ok, v_cmp, x_calm, x_wB, decide_eq_true hp, if_true, v_sub, ei, e1, v_eqd, eq_ii]
          simp [hz]
        · simp only [x_asg, x_e2, x_v0, x_vs, x_k, Out.bind_ok, v_sub, x_calm, liftO_ok, x_nm, ei]
          rfl
        · rw [← ht, trim_take (by omega) hz]
      · refine ⟨false, μ', ?_, .inl ⟨rfl, rfl, n + 1, rfl, hn, ?_⟩⟩
        · simp only [x_band, x_tB, x_e2, x_v0, x_vs, x_k, Out.bind_ok, v_cmp, x_calm, x_wB, decide_eq_true hp, if_true, v_sub, ei, e1, v_eqd, eq_ii]
          simp [hz]
        · rw [← ht, trim_take' (by omega) hz]
  obtain ⟨ρ', μ', e, rfl, n, rfl, hn, ht⟩ := main
  obtain ⟨u, e2, e3⟩ := sq_take h hn
  rw [ht] at e3
  simp [f_trimmed, b_trimmed, runD, initR, sq_len h]
  rw [e]
  simp [e2, e3]
end LW
namespace LW
open PySem PySem.Spec TL
open L2 (atI ixN)
theorem sq_list {μ : Mu} {w : Wv} {xs : List Int} (h : Sq μ w xs) : gList [w] μ = .ok (Li xs) μ := by
  rcases h with h | h <;> (unfold gList; simp only [h])
theorem trim_snoc0 {xs : List Int} {ys : List Int} (e : ys = xs ++ [0]) : trim ys = trim xs := by
  rw [e, trim_app0]
theorem t_law_trim {μ : Mu} {w : Wv} {xs : List Int} (h : Sq μ w xs) : f_law_trim [w] μ = .ok (.d (Rw' (trim xs))) μ := by
  have main : ∃ ρ' μ', sWhile (bAnd (tB' (e2 (gEq true) (eVar 1) (eFrz (lDisp aNil)))) (tB' (e2 (gEq false) (e2 gIx (eVar 1) (e1 gNeg (eK (.int 1)))) (eK (.int 0))))) (sExpr (e1 gPop (eVar 1))) [some w, some (.r μ.length)] (μ ++ [some (Li xs)]) = .ok (.nx ρ') μ' ∧
      ρ' = [some w, some (.r μ.length)] ∧ μ' = μ ++ [some (Li (trim xs))] := by
    refine wh_run (fun n ρ' μ' => ∃ ys : List Int, ρ' = [some w, some (.r μ.length)] ∧ μ' = μ ++ [some (Li ys)] ∧ n = ys.length ∧ trim ys = trim xs) _ xs.length ⟨xs, rfl, rfl, rfl, rfl⟩ ?_
    rintro n ρ' μ' ⟨ys, rfl, rfl, rfl, ht⟩
    have t : (μ ++ [some (Li ys)])[μ.length]? = some (some (Li ys)) := by simp
    have q1 : gEq true (.r μ.length) (.d (.list [])) (μ ++ [some (Li ys)]) = .ok (.d (.bool (!(Li ys).isEmpty))) (μ ++ [some (Li ys)]) := v_eq (x_dr t) rfl eq_ll
    rcases List.eq_nil_or_concat ys with rfl | ⟨zs, z, rfl⟩
    · have q1 : gEq true (.r μ.length) (.d (.list [])) (μ ++ [some (Li [])]) = .ok (.d (.bool false)) (μ ++ [some (Li [])]) := q1
      refine ⟨false, μ ++ [some (Li [])], ?_, .inl ⟨rfl, rfl, by rw [← ht]; rfl⟩⟩
      simp [q1]
    · rw [List.concat_eq_append] at *
      have hne : (Li (zs ++ [z])).isEmpty = false := by
        rw [Li_app]
        cases zs <;> rfl
      have hat : atI (Li (zs ++ [z])) (-1) = some (.int z) := by
        rw [Li_app]
        exact L2.atI_last _ _
      have q2 : gIx (.r μ.length) (.d (.int (-1))) (μ ++ [some (Li (zs ++ [z]))]) = .ok (.d (.int z)) (μ ++ [some (Li (zs ++ [z]))]) := by
        rw [v_ixr t, hat]
      rw [hne] at q1
      have c : bAnd (tB' (e2 (gEq true) (eVar 1) (eFrz (lDisp aNil)))) (tB' (e2 (gEq false) (e2 gIx (eVar 1) (e1 gNeg (eK (.int 1)))) (eK (.int 0)))) [some w, some (.r μ.length)] (μ ++ [some (Li (zs ++ [z]))]) = .ok (z == 0) (μ ++ [some (Li (zs ++ [z]))]) := by
        simp [-List.map_append, q1, q2]
      by_cases hz : z = 0
      · subst hz
        refine ⟨true, _, c, .inr ⟨rfl, [some w, some (.r μ.length)], μ ++ [some (Li zs)], zs.length, by simp, ?_, zs, rfl, rfl, rfl, by rw [← ht, trim_app0]⟩⟩
        have p : gPop (.r μ.length) (μ ++ [some (Li (zs ++ [0]))]) = .ok (.d (.int 0)) (μ ++ [some (Li zs)]) := by
          unfold gPop
          simp only [t]
          rw [Li_app]
          simp
        simp [p]
      · have hb : (z == 0) = false := by simpa using hz
        rw [hb] at c
        exact ⟨false, _, c, .inl ⟨rfl, rfl, by rw [← ht, trim_last _ _ hz]⟩⟩
  obtain ⟨ρ', μ', e, rfl, rfl⟩ := main
  have t : (μ ++ [some (Li (trim xs))])[μ.length]? = some (some (Li (trim xs))) := by simp
  simp [f_law_trim, b_law_trim, runD, initR, sq_list h]
  rw [e]
  simp [v_tupr t]
/-- numbers not above B -/
def Bd (B : Int) (xs : List Int) : Prop := ∀ x ∈ xs, -B ≤ x ∧ x ≤ B
theorem trim_mem : ∀ {xs : List Int} {x : Int}, x ∈ trim xs → x ∈ xs
  | [], x, h => h
  | y :: ys, x, h => by
    unfold trim at h
    split at h
    · split at h
      · cases h
      · simp at h
        subst h
        exact List.mem_cons_self
    · rename_i z zs e
      rcases List.mem_cons.mp h with rfl | h
      · exact List.mem_cons_self
      · exact List.mem_cons_of_mem _ (trim_mem (by rw [e]; exact h))
theorem trim_len : ∀ xs : List Int, (trim xs).length ≤ xs.length
  | [] => Nat.le_refl _
  | y :: ys => by
    have ih := trim_len ys
    unfold trim
    split
    · split <;> simp
    · rename_i z zs e
      rw [e] at ih
      simp at ih ⊢
      omega
theorem lc_ints {g : Int → Int} {it : TL.Iv} {xs : List Int} {i : Nat} {e : Ev} {ρ : Rho} {μ μ1 : Mu} (hit : it ρ μ = .ok ⟨Li xs, []⟩ μ1) (hl : xs.length ≤ 16777216)
    (he : ∀ x ∈ xs, e ((ρ.set i none).set i (some (.d (.int x)))) μ1 = .ok (.d (.int (g x))) μ1) : lLc it (gNm i) bYes e [i] ρ μ = .ok (Li (xs.map g)) μ1 := by
  obtain ⟨ys, μ', e1, rfl, l1, r1⟩ := lc_run (Iv := fun _ μ => μ = μ1) (R := fun x y => ∀ a, x = .int a → y = .int (g a)) hit rfl (by rw [Li_len]; exact hl) (e := e) (i := i) fun y hy n μ h => by
    obtain ⟨x, hx, rfl⟩ := Li_mem hy
    subst h
    exact ⟨.int (g x), μ, he x hx, rfl, fun a ha => by cases ha; rfl⟩
  rw [e1]
  congr 1
  rw [Li_len] at l1
  apply List.ext_getElem?
  intro k
  rw [Li_get, List.getElem?_map]
  by_cases hk : k < xs.length
  · have hk' : k < ys.length := by omega
    rw [List.getElem?_eq_getElem hk, List.getElem?_eq_getElem hk', r1 k (.int xs[k]) _ (by rw [Li_get, List.getElem?_eq_getElem hk]; rfl) (List.getElem?_eq_getElem hk') _ rfl]
    rfl
  · rw [List.getElem?_eq_none (by omega), List.getElem?_eq_none (by omega)]
    rfl
theorem t_scaled {μ : Mu} {xs : List Int} {k : Int} (hl : xs.length ≤ 1000) (hk : -1000000000000 < k ∧ k < 1000000000000) (hb : Bd 100000000000000000 xs) : f_scaled [.d (Rw' xs), .d (.int k)] μ = .ok (.d (Rw' (trim (xs.map (k * ·))))) μ := by
  have e1 : lLc (iAny (eVar 0)) (gNm 2) bYes (e2 gTimes (eVar 1) (eVar 2)) [2] [some (.d (Rw' xs)), some (.d (.int k)), none] μ = .ok (Li (xs.map (k * ·))) μ := lc_ints rfl (by omega) fun x hx => by
    have := hb x hx
    simp [TL.v_times (μ := μ) (i := k) (j := x) (by omega) (by omega) (by omega) (by omega)]
  have tr : f_trimmed [.d (.list (Li (xs.map (k * ·))))] μ = .ok (.d (Rw' (trim (xs.map (k * ·))))) μ := t_trimmed (.inl rfl)
  simp [f_scaled, b_scaled, runD, initR, e1, tr]
end LW
namespace LW
open PySem PySem.Spec TL
open L2 (atI ixN)
/-- the sum of two rows -/
def addP : List Int → List Int → List Int
  | [], ys => ys
  | x :: xs, [] => x :: xs
  | x :: xs, y :: ys => (x + y) :: addP xs ys
theorem addP_len : ∀ a b : List Int, (addP a b).length = max a.length b.length
  | [], ys => by simp [addP]
  | x :: xs, [] => by simp [addP]
  | x :: xs, y :: ys => by
    have ih := addP_len xs ys
    simp [addP, ih]
theorem addP_get : ∀ (a b : List Int) (k : Nat), k < max a.length b.length → (addP a b)[k]? = some (a.getD k 0 + b.getD k 0)
  | [], ys, k, h => by
    have hk : k < ys.length := by simpa using h
    simp [addP, List.getElem?_eq_getElem hk, List.getD_eq_getElem?_getD]
  | x :: xs, [], k, h => by
    have hk : k < (x :: xs).length := by simpa using h
    simp only [addP]
    rw [List.getElem?_eq_getElem hk, List.getD_eq_getElem?_getD, List.getElem?_eq_getElem hk] <;> simp
  | x :: xs, y :: ys, 0, h => by simp [addP]
  | x :: xs, y :: ys, k + 1, h => by
    have ih := addP_get xs ys k (by simp at h; omega)
    simpa [addP] using ih
/-- zeros behind, up to n -/
def pad (n : Nat) (a : List Int) : List Int := a ++ List.replicate (n - a.length) 0
theorem pad_len {n : Nat} {a : List Int} (h : a.length ≤ n) : (pad n a).length = n := by
  unfold pad
  rw [List.length_append, List.length_replicate]
  omega
theorem pad_get {n k : Nat} {a : List Int} (h : a.length ≤ n) (hk : k < n) : (pad n a)[k]? = some (a.getD k 0) := by
  unfold pad
  rw [List.getD_eq_getElem?_getD]
  by_cases h1 : k < a.length
  · rw [List.getElem?_append_left h1, List.getElem?_eq_getElem h1]
    rfl
  · rw [List.getElem?_append_right (by omega), List.getElem?_replicate, if_pos (by omega), List.getElem?_eq_none (by omega)]
    rfl
theorem flat_one {β : Type} (x : β) : ∀ n : Nat, (List.replicate n [x]).flatten = List.replicate n x
  | 0 => rfl
  | n + 1 => by
    rw [List.replicate_succ, List.flatten_cons, flat_one x n]
    rfl
theorem Li_rep {n : Nat} {x : Int} : List.replicate n (PyData.int x) = Li (List.replicate n x) := by
  unfold Li
  rw [List.map_replicate]
theorem t_pad1 {μ : Mu} {l n : Nat} (h : l ≤ n) (hn : n ≤ 1000) : gTimesT (.d (.tuple [.int 0])) (.d (.int ((n : Int) - (l : Int)))) μ = .ok (.d (.tuple (Li (List.replicate (n - l) 0)))) μ := by
  show (if -1000 ≤ (n : Int) - (l : Int) ∧ (n : Int) - (l : Int) ≤ 1000 ∧ [PyData.int 0].length ≤ 1000 then Out.ok _ μ else Out.bad) = _
  rw [if_pos ⟨by omega, by omega, by simp⟩, flat_one, Li_rep]
  congr 5
  omega
theorem t_pad2 {μ : Mu} {a : List Int} {n : Nat} (h : a.length ≤ n) (hn : n ≤ 1000) : gPlus (.d (Rw' a)) (.d (.tuple (Li (List.replicate (n - a.length) 0)))) μ = .ok (.d (Rw' (pad n a))) μ := by
  show gPlus (.d (.tuple (Li a))) (.d (.tuple (Li (List.replicate (n - a.length) 0)))) μ = _
  rw [v_plusT, if_pos (by rw [Li_len, Li_len, List.length_replicate]; omega), ← Li_app]
  rfl
theorem t_sum_by {μ : Mu} {a b : List Int} (ha : a.length ≤ 1000) (hb : b.length ≤ 1000) : f_sum_by [.d (Rw' a), .d (Rw' b)] μ = .ok (.d (Rw' (trim (addP a b)))) μ := by
  obtain ⟨n, hn, h1, h2, h3⟩ : ∃ n : Nat, max a.length b.length = n ∧ a.length ≤ n ∧ b.length ≤ n ∧ n ≤ 1000 := ⟨_, rfl, by omega, by omega, by omega⟩
  have em : gMax [.d (.int a.length), .d (.int b.length)] μ = .ok (.d (.int (n : Int))) μ := by
    show Out.ok (wI (if (b.length : Int) > (a.length : Int) then (b.length : Int) else (a.length : Int))) μ = _
    have : (if (b.length : Int) > (a.length : Int) then (b.length : Int) else (a.length : Int)) = (n : Int) := by split <;> omega
    rw [this] <;> rfl
  have ea1 := t_pad1 (μ := μ) h1 h3
  have eb1 := t_pad1 (μ := μ) h2 h3
  have ea2 := t_pad2 (μ := μ) h1 h3
  have eb2 := t_pad2 (μ := μ) h2 h3
  have lc : lLc (iZipS (aCons (eVar 3) (aCons (eVar 4) aNil))) (gTp [gNm 5, gNm 6]) bYes (e2 gPlus (eVar 5) (eVar 6)) [5, 6] [some (.d (Rw' a)), some (.d (Rw' b)), some (.d (.int (n : Int))), some (.d (Rw' (pad n a))), some (.d (Rw' (pad n b))), none, none] μ = .ok (Li (addP a b)) μ := by
    refine lcT_eq (xs := zipL (Li (pad n a)) (Li (pad n b))) rfl ?_ ?_ fun k x z hx hz => ?_
    · rw [zipL_len, Li_len, Li_len, pad_len h1, pad_len h2]
      omega
    · rw [zipL_len, Li_len, Li_len, Li_len, pad_len h1, pad_len h2, addP_len]
      omega
    · have hk : k < n := by
        have := (List.getElem?_eq_some_iff.mp hz).1
        rw [Li_len, addP_len] at this
        omega
      unfold zipL at hx
      rw [List.getElem?_zipWith, Li_get, Li_get, pad_get h1 hk, pad_get h2 hk] at hx
      rw [Li_get, addP_get a b k (by omega)] at hz
      cases hx
      cases hz
      exact ⟨_, rfl, rfl⟩
  have tr : f_trimmed [.d (.list (Li (addP a b)))] μ = .ok (.d (Rw' (trim (addP a b)))) μ := t_trimmed (.inl rfl)
  simp [-v_plusT, f_sum_by, b_sum_by, runD, initR, em, ea1, ea2, eb1, eb2, sPar, lc, tr]
end LW
namespace LW
open PySem PySem.Spec TL
open L2 (atI ixN)
theorem t_rep {μ : Mu} {ρ : Rho} {a b : Ev} {l n : Nat} (ha : a ρ μ = .ok (.d (.list [.int 0])) μ) (hb : b ρ μ = .ok (.d (.int ((n : Int) - (l : Int)))) μ) (h : l ≤ n) (hn : n ≤ 1000) : lRep a b ρ μ = .ok (Li (List.replicate (n - l) 0)) μ := by
  show (a ρ μ).bind _ = _
  rw [ha]
  show (b ρ μ).bind _ = _
  rw [hb]
  show (if repOk [PyData.int 0].length ((n : Int) - (l : Int)) = true then Out.ok _ μ else Out.bad) = _
  rw [if_pos (repOk_is ⟨by omega, by omega, by simp; omega⟩), flat_one, Li_rep]
  congr 3
  omega
theorem intL_at {lo : Int} {n k : Nat} (h : k < n) : (intL lo n 1)[k]? = some (.int (lo + k)) := by
  unfold intL
  rw [List.getElem?_map, List.getElem?_range h]
  simp
theorem t_padL {μ : Mu} {a : List Int} {n : Nat} (h : a.length ≤ n) (hn : n ≤ 1000) : gPlus (.d (.list (Li a))) (.d (.list (Li (List.replicate (n - a.length) 0)))) μ = .ok (.d (.list (Li (pad n a)))) μ := by
  rw [v_plusL, if_pos (by rw [Li_len, Li_len, List.length_replicate]; omega), ← Li_app] <;> rfl
theorem t_law_sum {μ : Mu} {a b : List Int} (ha : a.length ≤ 1000) (hb : b.length ≤ 1000) : f_law_sum [.d (Rw' a), .d (Rw' b)] μ = .ok (.d (Rw' (trim (addP a b)))) μ := by
  obtain ⟨n, hn, h1, h2, h3⟩ : ∃ n : Nat, max a.length b.length = n ∧ a.length ≤ n ∧ b.length ≤ n ∧ n ≤ 1000 := ⟨_, rfl, by omega, by omega, by omega⟩
  have em : gMax [.d (.int a.length), .d (.int b.length)] μ = .ok (.d (.int (n : Int))) μ := by
    show Out.ok (wI (if (b.length : Int) > (a.length : Int) then (b.length : Int) else (a.length : Int))) μ = _
    have : (if (b.length : Int) > (a.length : Int) then (b.length : Int) else (a.length : Int)) = (n : Int) := by split <;> omega
    rw [this] <;> rfl
  have r1 : ∀ (ρ : Rho), ρ[0]? = some (some (.d (Rw' a))) → ρ[2]? = some (some (.d (.int (n : Int)))) → lRep (eFrz (lDisp (aCons (eK (.int 0)) aNil))) (e2 gSub (eVar 2) (en gLen (aCons (eVar 0) aNil))) ρ μ = .ok (Li (List.replicate (n - a.length) 0)) μ := fun ρ q0 q2 =>
    t_rep (by simp) (by simp [x_var q0, x_var q2]) h1 h3
  have r2 : ∀ (ρ : Rho), ρ[1]? = some (some (.d (Rw' b))) → ρ[2]? = some (some (.d (.int (n : Int)))) → lRep (eFrz (lDisp (aCons (eK (.int 0)) aNil))) (e2 gSub (eVar 2) (en gLen (aCons (eVar 1) aNil))) ρ μ = .ok (Li (List.replicate (n - b.length) 0)) μ := fun ρ q0 q2 =>
    t_rep (by simp) (by simp [x_var q0, x_var q2]) h2 h3
  have ea := t_padL (μ := μ) h1 h3
  have eb := t_padL (μ := μ) h2 h3
  have lc : lLc (iR1 (aCons (eVar 2) aNil)) (gNm 5) bYes (e2 gPlus (e2 gIx (eVar 3) (eVar 5)) (e2 gIx (eVar 4) (eVar 5))) [5] [some (.d (Rw' a)), some (.d (Rw' b)), some (.d (.int (n : Int))), some (.d (.list (Li (pad n a)))), some (.d (.list (Li (pad n b)))), none] μ = .ok (Li (addP a b)) μ := by
    refine lcT_eq (xs := intL 0 n 1) (it_r1 (j := (n : Int)) rfl (by omega) (by omega)) (by rw [intL_len]; omega) (by rw [Li_len, intL_len, addP_len]; exact hn) fun k x z hx hz => ?_
    have hk : k < n := by
      have := (List.getElem?_eq_some_iff.mp hx).1
      rwa [intL_len] at this
    rw [intL_at hk] at hx
    rw [Li_get, addP_get a b k (by omega)] at hz
    cases hx
    cases hz
    have i1 : atI (Li (pad n a)) ((0 : Int) + (k : Int)) = some (.int (a.getD k 0)) := by
      rw [Int.zero_add]
      exact at_n (by rw [Li_get, pad_get h1 hk]; rfl)
    have i2 : atI (Li (pad n b)) ((0 : Int) + (k : Int)) = some (.int (b.getD k 0)) := by
      rw [Int.zero_add]
      exact at_n (by rw [Li_get, pad_get h2 hk]; rfl)
    refine ⟨_, rfl, ?_⟩
    show e2 gPlus (e2 gIx (eVar 3) (eVar 5)) (e2 gIx (eVar 4) (eVar 5)) [some (.d (Rw' a)), some (.d (Rw' b)), some (.d (.int (n : Int))), some (.d (.list (Li (pad n a)))), some (.d (.list (Li (pad n b)))), some (.d (.int ((0 : Int) + (k : Int))))] μ = _
    simp only [x_e2, x_v0, x_vs, Out.bind_ok, v_ixl, i1, i2, x_calm, v_plus]
  have tr : f_law_trim [.d (.list (Li (addP a b)))] μ = .ok (.d (Rw' (trim (addP a b)))) μ := t_law_trim (.inl rfl)
  simp [-v_plusL, f_law_sum, b_law_sum, runD, initR, em, r1, r2, ea, eb, lc, tr]
end LW
namespace LW
open PySem PySem.Spec TL
open L2 (atI ixN)
theorem bits_le {i : Int} {n : Nat} (h : i.natAbs < 2 ^ n) : Builtin.Int.intBits i ≤ n + 1 := by
  unfold Builtin.Int.intBits
  split
  · omega
  · by_cases h0 : i.natAbs = 0
    · rw [h0]
      simp
    · have := (Nat.log2_lt h0).mpr h
      omega
def Sml (x : Int) : Prop := x.natAbs < 2 ^ 4000
theorem w_times {μ : Mu} {i j : Int} (h1 : Sml i) (h2 : Sml j) : gTimes (.d (.int i)) (.d (.int j)) μ = .ok (.d (.int (i * j))) μ := by
  show (if mulOk i j = true then Out.ok (wI (i * j)) μ else Out.bad) = _
  rw [if_pos]
  unfold mulOk
  have a := bits_le h1
  have b := bits_le h2
  exact @decide_eq_true _ (Classical.propDecidable _) (by omega)
/-- items with their places, from i on -/
def enumF : Nat → List Int → Cell
  | _, [] => []
  | i, x :: xs => .tuple [.int (i : Int), .int x] :: enumF (i + 1) xs
theorem enumF_eq : ∀ (xs : List Int) (i : Nat), (Li xs).mapIdx (fun n x => PyData.tuple [.int ((n + i : Nat) : Int), x]) = enumF i xs
  | [], i => rfl
  | x :: xs, i => by
    show List.mapIdx _ (PyData.int x :: Li xs) = _
    rw [List.mapIdx_cons]
    have := enumF_eq xs (i + 1)
    simp only [enumF, Nat.zero_add]
    rw [← this]
    congr 2
    funext n y
    rw [show n + 1 + i = n + (i + 1) by omega]
theorem enumL_eq (xs : List Int) : enumL (Li xs) = enumF 0 xs := enumF_eq xs 0
def addAt (c : List Int) (k : Nat) (v : Int) : List Int := c.set k (c.getD k 0 + v)
def inner (i : Nat) (x : Int) : Nat → List Int → List Int → List Int
  | _, [], c => c
  | j, y :: ys, c => inner i x (j + 1) ys (addAt c (i + j) (x * y))
def outer (b : List Int) : Nat → List Int → List Int → List Int
  | _, [], c => c
  | i, x :: xs, c => outer b (i + 1) xs (inner i x 0 b c)
theorem addAt_len {c : List Int} {k : Nat} {v : Int} : (addAt c k v).length = c.length := List.length_set ..
theorem inner_len {i : Nat} {x : Int} : ∀ (ys : List Int) (j : Nat) (c : List Int), (inner i x j ys c).length = c.length
  | [], j, c => rfl
  | y :: ys, j, c => by
    unfold inner
    rw [inner_len ys, addAt_len]
theorem outer_len {b : List Int} : ∀ (xs : List Int) (i : Nat) (c : List Int), (outer b i xs c).length = c.length
  | [], i, c => rfl
  | x :: xs, i, c => by
    unfold outer
    rw [outer_len xs, inner_len]
theorem addAt_app {c d : List Int} {k : Nat} {v : Int} (h : k < c.length) : addAt (c ++ d) k v = addAt c k v ++ d := by
  unfold addAt
  rw [List.getD_eq_getElem?_getD, List.getD_eq_getElem?_getD, List.getElem?_append_left h, List.set_append_left _ _ h]
theorem inner_app {i : Nat} {x : Int} {d : List Int} : ∀ (ys : List Int) (j : Nat) (c : List Int), i + j + ys.length ≤ c.length → inner i x j ys (c ++ d) = inner i x j ys c ++ d
  | [], j, c, h => rfl
  | y :: ys, j, c, h => by
    rw [List.length_cons] at h
    unfold inner
    rw [addAt_app (by omega), inner_app ys (j + 1) _ (by rw [addAt_len]; omega)]
theorem outer_app {b d : List Int} : ∀ (xs : List Int) (i : Nat) (c : List Int), (xs = [] ∨ i + xs.length + b.length ≤ c.length + 1) → outer b i xs (c ++ d) = outer b i xs c ++ d
  | [], i, c, h => rfl
  | x :: xs, i, c, h => by
    have h : i + (xs.length + 1) + b.length ≤ c.length + 1 := by
      rcases h with h | h
      · cases h
      · simpa using h
    unfold outer
    rw [inner_app b 0 c (by omega)]
    refine outer_app xs (i + 1) _ ?_
    right
    rw [inner_len]
    omega
/-- the product of two rows -/
def mulP (a b : List Int) : List Int := trim (outer b 0 a (List.replicate (a.length + b.length - 1) 0))
theorem mulP_more {a b : List Int} (ha : a ≠ []) (hb : b ≠ []) : trim (outer b 0 a (List.replicate (a.length + b.length) 0)) = mulP a b := by
  have la : 0 < a.length := List.length_pos_iff.mpr ha
  have lb : 0 < b.length := List.length_pos_iff.mpr hb
  have e : List.replicate (a.length + b.length) (0 : Int) = List.replicate (a.length + b.length - 1) 0 ++ [0] := by
    rw [← List.replicate_succ']
    congr 1
    omega
  rw [e, outer_app a 0 _ (.inr (by rw [List.length_replicate]; omega)), trim_app0]
  rfl
def Sm (xs : List Int) : Prop := ∀ x ∈ xs, Sml x
theorem cell_ix {μ : Mu} {k : Nat} {c : List Int} {n : Nat} (h : μ[k]? = some (some (Li c))) (hn : n < c.length) : gIx (.r k) (.d (.int (n : Int))) μ = .ok (.d (.int (c.getD n 0))) μ := by
  have : atI (Li c) (n : Int) = some (.int (c.getD n 0)) := at_n (by rw [Li_get, List.getElem?_eq_getElem hn, List.getD_eq_getElem?_getD, List.getElem?_eq_getElem hn]; rfl)
  rw [v_ixr h, this]
theorem cell_set {μ : Mu} {k : Nat} {c : List Int} {n : Nat} {v : Int} (h : μ[k]? = some (some (Li c))) (hn : n < c.length) : setC (.r k) (.d (.int (n : Int))) (.d (.int v)) μ = .ok () (μ.set k (some (Li (c.set n v)))) := by
  have e : ixN (Li c).length (n : Int) = some n := by
    unfold ixN
    rw [if_pos (by omega), if_pos (by rw [Li_len]; omega)]
    rfl
  rw [v_setc h, e]
  show Out.ok () (μ.set k (some ((Li c).set n (.int v)))) = _
  unfold Li
  rw [List.map_set]
end LW
namespace LW
open PySem PySem.Spec TL
open L2 (atI ixN)
noncomputable abbrev IB : Sv := sAsg (e2 gPlus (e2 gIx (eVar 2) (e2 gPlus (eVar 3) (eVar 5))) (e2 gTimes (eVar 4) (eVar 6))) (gSb (eVar 2) (e2 gPlus (eVar 3) (eVar 5)))
noncomputable abbrev OB : Sv := sFor (iEnumT (aCons (eVar 1) aNil)) (gTp [gNm 5, gNm 6]) IB
theorem t_ib {μ : Mu} {k i j : Nat} {x y : Int} {c : List Int} {wa wb : Option Wv} (h : μ[k]? = some (some (Li c))) (hl : i + j < c.length) (hx : Sml x) (hy : Sml y) :
    IB [wa, wb, some (.r k), some (.d (.int i)), some (.d (.int x)), some (.d (.int j)), some (.d (.int y))] μ =
      .ok (.nx [wa, wb, some (.r k), some (.d (.int i)), some (.d (.int x)), some (.d (.int j)), some (.d (.int y))]) (μ.set k (some (Li (addAt c (i + j) (x * y))))) := by
  have ei : ((i : Int) + (j : Int)) = ((i + j : Nat) : Int) := by omega
  have e1 := cell_ix h hl
  have e2 := w_times (μ := μ) hx hy
  have e3 := cell_set (v := c.getD (i + j) 0 + x * y) h hl
  simp only [IB, x_asg, x_e2, x_v0, x_vs, Out.bind_ok, v_plus, x_calm, ei, e1, e2, liftO_ok, x_sb, e3]
  rfl
theorem inner_loop {k i : Nat} {x : Int} {wa wb : Option Wv} {xs0 : Cell} (hx : Sml x) : ∀ (ys : List Int) (j : Nat) (c : List Int) (μ : Mu) (o5 o6 : Option Wv), μ[k]? = some (some (Li c)) → i + j + ys.length ≤ c.length → Sm ys →
    ∃ o5' o6', loopF ⟨xs0, []⟩ (gTp [gNm 5, gNm 6]) IB (enumF j ys) [wa, wb, some (.r k), some (.d (.int i)), some (.d (.int x)), o5, o6] μ =
      .ok (.nx [wa, wb, some (.r k), some (.d (.int i)), some (.d (.int x)), o5', o6']) (μ.set k (some (Li (inner i x j ys c))))
  | [], j, c, μ, o5, o6, h, _, _ => by
    refine ⟨o5, o6, ?_⟩
    unfold enumF loopF
    rw [if_pos tied_nil]
    show Out.ok _ μ = Out.ok _ (μ.set k (some (Li c)))
    congr 1
    apply List.ext_getElem?
    intro n
    by_cases hn : k = n
    · subst hn
      rw [get_set h, h]
    · rw [List.getElem?_set_ne hn]
  | y :: ys, j, c, μ, o5, o6, h, hl, hs => by
    rw [List.length_cons] at hl
    have e1 := t_ib (wa := wa) (wb := wb) h (show i + j < c.length by omega) hx (hs y List.mem_cons_self)
    obtain ⟨o5', o6', e2⟩ := inner_loop (k := k) (i := i) (wa := wa) (wb := wb) (xs0 := xs0) hx ys (j + 1) (addAt c (i + j) (x * y)) (μ.set k (some (Li (addAt c (i + j) (x * y))))) (some (.d (.int j))) (some (.d (.int y))) (get_set h) (by rw [addAt_len]; omega) fun z hz => hs z (List.mem_cons_of_mem _ hz)
    refine ⟨o5', o6', ?_⟩
    unfold enumF loopF
    rw [if_pos tied_nil]
    have t : gTp [gNm 5, gNm 6] (.d (.tuple [.int (j : Int), .int y])) [wa, wb, some (.r k), some (.d (.int i)), some (.d (.int x)), o5, o6] μ = .ok [wa, wb, some (.r k), some (.d (.int i)), some (.d (.int x)), some (.d (.int j)), some (.d (.int y))] μ := rfl
    rw [t]
    simp only [x_calm, Out.bind_ok, e1]
    rw [e2, List.set_set]
    rfl
theorem t_ob {μ : Mu} {k i : Nat} {x : Int} {b c : List Int} {wa o5 o6 : Option Wv} (h : μ[k]? = some (some (Li c))) (hl : i + b.length ≤ c.length) (hx : Sml x) (hb : Sm b) :
    ∃ o5' o6', OB [wa, some (.d (Rw' b)), some (.r k), some (.d (.int i)), some (.d (.int x)), o5, o6] μ =
      .ok (.nx [wa, some (.d (Rw' b)), some (.r k), some (.d (.int i)), some (.d (.int x)), o5', o6']) (μ.set k (some (Li (inner i x 0 b c)))) := by
  obtain ⟨o5', o6', e⟩ := inner_loop (wa := wa) (wb := some (.d (Rw' b))) (xs0 := enumF 0 b) (i := i) hx b 0 c μ o5 o6 h (by omega) hb
  refine ⟨o5', o6', ?_⟩
  have it : iEnumT (aCons (eVar 1) aNil) [wa, some (.d (Rw' b)), some (.r k), some (.d (.int i)), some (.d (.int x)), o5, o6] μ = .ok ⟨enumF 0 b, []⟩ μ := by
    rw [← enumL_eq]
    rfl
  show liftO _ (iEnumT (aCons (eVar 1) aNil) _ μ) _ = _
  rw [it]
  exact e
theorem outer_loop {k : Nat} {b : List Int} {wa : Option Wv} {xs0 : Cell} (hb : Sm b) : ∀ (xs : List Int) (i : Nat) (c : List Int) (μ : Mu) (o3 o4 o5 o6 : Option Wv), μ[k]? = some (some (Li c)) → (xs = [] ∨ i + xs.length + b.length ≤ c.length + 1) → Sm xs →
    ∃ ρ', loopF ⟨xs0, []⟩ (gTp [gNm 3, gNm 4]) OB (enumF i xs) [wa, some (.d (Rw' b)), some (.r k), o3, o4, o5, o6] μ = .ok (.nx ([wa, some (.d (Rw' b)), some (.r k)] ++ ρ')) (μ.set k (some (Li (outer b i xs c))))
  | [], i, c, μ, o3, o4, o5, o6, h, _, _ => by
    refine ⟨[o3, o4, o5, o6], ?_⟩
    unfold enumF loopF
    rw [if_pos tied_nil]
    show Out.ok _ μ = Out.ok _ (μ.set k (some (Li c)))
    congr 1
    apply List.ext_getElem?
    intro n
    by_cases hn : k = n
    · subst hn
      rw [get_set h, h]
    · rw [List.getElem?_set_ne hn]
  | x :: xs, i, c, μ, o3, o4, o5, o6, h, hl, hs => by
    have hl : i + (xs.length + 1) + b.length ≤ c.length + 1 := by
      rcases hl with hl | hl
      · cases hl
      · simpa using hl
    obtain ⟨o5', o6', e1⟩ := t_ob (wa := wa) (o5 := o5) (o6 := o6) (i := i) h (by omega) (hs x List.mem_cons_self) hb
    obtain ⟨ρ', e2⟩ := outer_loop (k := k) (wa := wa) (xs0 := xs0) hb xs (i + 1) (inner i x 0 b c) (μ.set k (some (Li (inner i x 0 b c)))) (some (.d (.int i))) (some (.d (.int x))) o5' o6' (get_set h) (.inr (by rw [inner_len]; omega)) fun z hz => hs z (List.mem_cons_of_mem _ hz)
    refine ⟨ρ', ?_⟩
    unfold enumF loopF
    rw [if_pos tied_nil]
    have t : gTp [gNm 3, gNm 4] (.d (.tuple [.int (i : Int), .int x])) [wa, some (.d (Rw' b)), some (.r k), o3, o4, o5, o6] μ = .ok [wa, some (.d (Rw' b)), some (.r k), some (.d (.int i)), some (.d (.int x)), o5, o6] μ := rfl
    rw [t]
    simp only [x_calm, Out.bind_ok, e1]
    rw [e2, List.set_set]
    rfl
/-- both products' loop -/
theorem t_loop {μ : Mu} {a b : List Int} {N : Nat} (ha : Sm a) (hb : Sm b) (hN : a = [] ∨ a.length + b.length ≤ N + 1) :
    ∃ ρ', sFor (iEnumT (aCons (eVar 0) aNil)) (gTp [gNm 3, gNm 4]) OB [some (.d (Rw' a)), some (.d (Rw' b)), some (.r μ.length), none, none, none, none] (μ ++ [some (Li (List.replicate N 0))]) =
      .ok (.nx ([some (.d (Rw' a)), some (.d (Rw' b)), some (.r μ.length)] ++ ρ')) (μ ++ [some (Li (outer b 0 a (List.replicate N 0)))]) := by
  obtain ⟨ρ', e⟩ := outer_loop (k := μ.length) (wa := some (.d (Rw' a))) (xs0 := enumF 0 a) hb a 0 (List.replicate N 0) (μ ++ [some (Li (List.replicate N 0))]) none none none none (by simp) (by rw [List.length_replicate]; rcases hN with h | h; exact .inl h; exact .inr (by omega)) ha
  refine ⟨ρ', ?_⟩
  have it : iEnumT (aCons (eVar 0) aNil) [some (.d (Rw' a)), some (.d (Rw' b)), some (.r μ.length), none, none, none, none] (μ ++ [some (Li (List.replicate N 0))]) = .ok ⟨enumF 0 a, []⟩ (μ ++ [some (Li (List.replicate N 0))]) := by
    rw [← enumL_eq]
    rfl
  show liftO _ (iEnumT (aCons (eVar 0) aNil) _ _) _ = _
  rw [it]
  show loopF _ _ _ _ _ _ = _
  rw [e]
  simp
end LW
namespace LW
open PySem PySem.Spec TL
open L2 (atI ixN)
theorem trim_zero : ∀ n : Nat, trim (List.replicate n 0) = []
  | 0 => rfl
  | n + 1 => by
    rw [List.replicate_succ]
    unfold trim
    rw [trim_zero n]
    simp
theorem outer_nil : ∀ (xs : List Int) (i : Nat) (c : List Int), outer [] i xs c = c
  | [], i, c => rfl
  | x :: xs, i, c => by
    unfold outer
    exact outer_nil xs (i + 1) c
theorem mulP_nil {b : List Int} : mulP [] b = [] := trim_zero _
theorem mulP_nil' {a : List Int} : mulP a [] = [] := by
  unfold mulP
  rw [outer_nil, trim_zero]
theorem Li_empty {xs : List Int} : (Li xs).isEmpty = xs.isEmpty := by cases xs <;> rfl
theorem t_product_by {μ : Mu} {a b : List Int} (ha : Sm a) (hb : Sm b) (la : a.length ≤ 500) (lb : b.length ≤ 500) : f_product_by [.d (Rw' a), .d (Rw' b)] μ = .ok (.d (Rw' (mulP a b))) μ := by
  cases hae : a.isEmpty with
  | true =>
    have : a = [] := by simpa using hae
    subst this
    rw [mulP_nil]
    have e0 : (Li ([] : List Int)).isEmpty = true := rfl
    simp [f_product_by, b_product_by, runD, initR, e0]
    rfl
  | false =>
    cases hbe : b.isEmpty with
    | true =>
      have : b = [] := by simpa using hbe
      subst this
      rw [mulP_nil']
      have e0 : (Li ([] : List Int)).isEmpty = true := rfl
      have e1 : (Li a).isEmpty = false := by rw [Li_empty, hae]
      simp [f_product_by, b_product_by, runD, initR, e0, e1]
      rfl
    | false =>
      have ane : a ≠ [] := fun e => by rw [e] at hae; cases hae
      have bne : b ≠ [] := fun e => by rw [e] at hbe; cases hbe
      have pa : 0 < a.length := List.length_pos_iff.mpr ane
      have pb : 0 < b.length := List.length_pos_iff.mpr bne
      have e0 : (Li b).isEmpty = false := by rw [Li_empty, hbe]
      have e1 : (Li a).isEmpty = false := by rw [Li_empty, hae]
      have r1 : lRep (eFrz (lDisp (aCons (eK (.int 0)) aNil))) (e2 gSub (e2 gPlus (en gLen (aCons (eVar 0) aNil)) (en gLen (aCons (eVar 1) aNil))) (eK (.int 1))) [some (.d (Rw' a)), some (.d (Rw' b)), none, none, none, none, none] μ = .ok (Li (List.replicate (a.length + b.length - 1) 0)) μ :=
        t_rep (n := a.length + b.length) (l := 1) (by simp) (by simp) (by omega) (by omega)
      obtain ⟨ρ', e2⟩ := t_loop (μ := μ) (N := a.length + b.length - 1) ha hb (.inr (by omega))
      have tr : f_trimmed [.r μ.length] (μ ++ [some (Li (outer b 0 a (List.replicate (a.length + b.length - 1) 0)))]) = .ok (.d (Rw' (mulP a b))) (μ ++ [some (Li (outer b 0 a (List.replicate (a.length + b.length - 1) 0)))]) := t_trimmed (.inl (x_dr (by simp)))
      simp [f_product_by, b_product_by, runD, initR, e0, e1, r1]
      rw [e2]
      simp [tr]
theorem t_law_product {μ : Mu} {a b : List Int} (ha : Sm a) (hb : Sm b) (la : a.length ≤ 500) (lb : b.length ≤ 500) : f_law_product [.d (Rw' a), .d (Rw' b)] μ = .ok (.d (Rw' (mulP a b))) μ := by
  have key : trim (outer b 0 a (List.replicate (a.length + b.length) 0)) = mulP a b := by
    by_cases h1 : a = []
    · subst h1
      rw [mulP_nil]
      exact trim_zero _
    · by_cases h2 : b = []
      · subst h2
        rw [mulP_nil', outer_nil, trim_zero]
      · exact mulP_more h1 h2
  have r1 : lRep (eFrz (lDisp (aCons (eK (.int 0)) aNil))) (e2 gPlus (en gLen (aCons (eVar 0) aNil)) (en gLen (aCons (eVar 1) aNil))) [some (.d (Rw' a)), some (.d (Rw' b)), none, none, none, none, none] μ = .ok (Li (List.replicate (a.length + b.length) 0)) μ :=
    t_rep (n := a.length + b.length) (l := 0) (by simp) (by simp) (by omega) (by omega)
  obtain ⟨ρ', e2⟩ := t_loop (μ := μ) (N := a.length + b.length) ha hb (.inr (by omega))
  have tr : f_law_trim [.r μ.length] (μ ++ [some (Li (outer b 0 a (List.replicate (a.length + b.length) 0)))]) = .ok (.d (Rw' (mulP a b))) (μ ++ [some (Li (outer b 0 a (List.replicate (a.length + b.length) 0)))]) := by
    rw [← key]
    exact t_law_trim (.inl (x_dr (by simp)))
  simp [f_law_product, b_law_product, runD, initR, r1]
  rw [e2]
  simp [tr]
end LW
namespace LW
open PySem PySem.Spec TL
open L2 (atI ixN)
theorem nat_abs_int (a : Int) : (if a < 0 then -a else a) = (a.natAbs : Int) := by split <;> omega
theorem t_common {μ : Mu} {a b : Int} : f_law_common [.d (.int a), .d (.int b)] μ = .ok (.d (.int (Nat.gcd a.natAbs b.natAbs : Nat))) μ := by
  have main : ∃ ρ' μ', sWhile (tB' (e2 (gEq true) (eVar 3) (eK (.int 0)))) (sPar 2 3 (aCons (eVar 3) (aCons (e2 gMod (en gInt (aCons (eVar 2) aNil)) (eVar 3)) aNil))) [some (.d (.int a)), some (.d (.int b)), some (.d (.int (a.natAbs : Int))), some (.d (.int (b.natAbs : Int)))] μ = .ok (.nx ρ') μ' ∧
      μ' = μ ∧ ρ' = [some (.d (.int a)), some (.d (.int b)), some (.d (.int (Nat.gcd a.natAbs b.natAbs : Nat))), some (.d (.int 0))] := by
    refine wh_run (fun n ρ' μ' => μ' = μ ∧ ∃ x y : Nat, ρ' = [some (.d (.int a)), some (.d (.int b)), some (.d (.int x)), some (.d (.int y))] ∧ n = y ∧ Nat.gcd x y = Nat.gcd a.natAbs b.natAbs) _ b.natAbs ⟨rfl, _, _, rfl, rfl, rfl⟩ ?_
    rintro n ρ' μ' ⟨rfl, x, y, rfl, rfl, hg⟩
    by_cases hy : n = 0
    · subst hy
      refine ⟨false, μ', by simp, .inl ⟨rfl, rfl, ?_⟩⟩
      rw [← hg]
      simp
    · have hp : 0 < n := Nat.pos_of_ne_zero hy
      have hm := TL.v_mod (μ := μ') (i := (x : Int)) (j := (n : Int)) (by omega)
      have em : ((x : Int) % (n : Int)) = ((x % n : Nat) : Int) := (Int.natCast_emod x n).symm
      rw [em] at hm
      refine ⟨true, μ', by simp [hy], .inr ⟨rfl, [some (.d (.int a)), some (.d (.int b)), some (.d (.int n)), some (.d (.int (x % n : Nat)))], μ', x % n, Nat.mod_lt _ hp, ?_, rfl, n, x % n, rfl, rfl, ?_⟩⟩
      · unfold sPar
        simp only [x_cons, x_v0, x_vs, Out.bind_ok, x_e2, x_en, x_nil, v_int, x_calm, hm, liftO_ok]
        rfl
      · rw [← hg, Nat.gcd_comm x n]
        exact (Nat.gcd_comm _ _).trans (Nat.gcd_rec n x).symm
  obtain ⟨ρ', μ', e, rfl, rfl⟩ := main
  simp [f_law_common, b_law_common, runD, initR, sPar, nat_abs_int]
  rw [e]
  simp
theorem t_gcd {μ : Mu} {a b : Int} : gGcd [.d (.int a), .d (.int b)] μ = .ok (.d (.int (Nat.gcd a.natAbs b.natAbs : Nat))) μ := rfl
/-- a fraction in least terms, below above 0 -/
def lean (a b : Int) : PyData := .tuple [.int (a / (if 0 < b then (Nat.gcd a.natAbs b.natAbs : Int) else -(Nat.gcd a.natAbs b.natAbs : Int))), .int (b / (if 0 < b then (Nat.gcd a.natAbs b.natAbs : Int) else -(Nat.gcd a.natAbs b.natAbs : Int)))]
theorem t_ratio {μ : Mu} {a b : Int} (hb : 0 < b) (hs : b < 1000000000000000000) : f_ratio [.d (.int a), .d (.int b)] μ = .ok (.d (lean a b)) μ := by
  have hg : 0 < (Nat.gcd a.natAbs b.natAbs : Int) := by
    have : 0 < Nat.gcd a.natAbs b.natAbs := Nat.gcd_pos_of_pos_right _ (by omega)
    omega
  have hg2 : (Nat.gcd a.natAbs b.natAbs : Int) < 1000000000000000000 := by
    have : Nat.gcd a.natAbs b.natAbs ≤ b.natAbs := Nat.le_of_dvd (by omega) (Nat.gcd_dvd_right _ _)
    omega
  have d1 := TL.v_div (μ := μ) (i := a) hg hg2
  have d2 := TL.v_div (μ := μ) (i := b) hg hg2
  simp [f_ratio, b_ratio, runD, initR, hb, t_gcd, d1, d2, lean]
theorem t_lean {μ : Mu} {a b : Int} (hb : 0 < b) (hs : b < 1000000000000000000) : f_law_lean [.d (.int a), .d (.int b)] μ = .ok (.d (lean a b)) μ := by
  have hg : 0 < (Nat.gcd a.natAbs b.natAbs : Int) := by
    have : 0 < Nat.gcd a.natAbs b.natAbs := Nat.gcd_pos_of_pos_right _ (by omega)
    omega
  have hg2 : (Nat.gcd a.natAbs b.natAbs : Int) < 1000000000000000000 := by
    have : Nat.gcd a.natAbs b.natAbs ≤ b.natAbs := Nat.le_of_dvd (by omega) (Nat.gcd_dvd_right _ _)
    omega
  have d1 := TL.v_div (μ := μ) (i := a) hg hg2
  have d2 := TL.v_div (μ := μ) (i := b) hg hg2
  simp [f_law_lean, b_law_lean, runD, initR, hb, t_common, d1, d2, lean]
end LW
namespace LW
open PySem PySem.Spec TL
open L2 (atI ixN)
/-- all at most B, by size -/
def Bn (B : Nat) (xs : List Int) : Prop := ∀ x ∈ xs, x.natAbs ≤ B
theorem Bn.trim {B : Nat} {xs : List Int} (h : Bn B xs) : Bn B (trim xs) := fun x hx => h x (trim_mem hx)
theorem Bn.up {B C : Nat} {xs : List Int} (h : Bn B xs) (hc : B ≤ C) : Bn C xs := fun x hx => Nat.le_trans (h x hx) hc
theorem Bn.getD {B : Nat} {xs : List Int} (h : Bn B xs) (k : Nat) : (xs.getD k 0).natAbs ≤ B := by
  rw [List.getD_eq_getElem?_getD]
  cases e : xs[k]? with
  | none => simp
  | some x => exact h x (List.mem_of_getElem? e)
theorem Bn.addP {B C : Nat} : ∀ {a b : List Int}, Bn B a → Bn C b → Bn (B + C) (addP a b)
  | [], b, _, hb => fun x hx => Nat.le_trans (hb x hx) (Nat.le_add_left _ _)
  | x :: xs, [], ha, _ => fun y hy => Nat.le_trans (ha y hy) (Nat.le_add_right _ _)
  | x :: xs, y :: ys, ha, hb => by
    intro z hz
    rcases List.mem_cons.mp hz with rfl | hz
    · have h1 := ha x List.mem_cons_self
      have h2 := hb y List.mem_cons_self
      omega
    · exact Bn.addP (fun w hw => ha w (List.mem_cons_of_mem _ hw)) (fun w hw => hb w (List.mem_cons_of_mem _ hw)) z hz
theorem Bn.addAt {M W : Nat} {c : List Int} {k : Nat} {v : Int} (h : Bn M c) (hv : v.natAbs ≤ W) : Bn (M + W) (addAt c k v) := by
  intro x hx
  unfold LW.addAt at hx
  rcases List.mem_or_eq_of_mem_set hx with hx | rfl
  · exact Nat.le_trans (h x hx) (Nat.le_add_right _ _)
  · have := h.getD k
    omega
theorem mul_le {x y : Int} {A B : Nat} (h1 : x.natAbs ≤ A) (h2 : y.natAbs ≤ B) : (x * y).natAbs ≤ A * B := by
  rw [Int.natAbs_mul]
  exact Nat.mul_le_mul h1 h2
theorem Bn.inner {M A B i : Nat} {x : Int} (hx : x.natAbs ≤ A) : ∀ {ys : List Int} {j : Nat} {c : List Int}, Bn B ys → Bn M c → Bn (M + ys.length * (A * B)) (inner i x j ys c)
  | [], j, c, _, h => h.up (Nat.le_add_right _ _)
  | y :: ys, j, c, hy, h => by
    have h1 : Bn (M + A * B) (LW.addAt c (i + j) (x * y)) := h.addAt (mul_le hx (hy y List.mem_cons_self))
    have h2 := Bn.inner (i := i) (j := j + 1) hx (fun w hw => hy w (List.mem_cons_of_mem _ hw)) h1
    rw [List.length_cons, Nat.succ_mul]
    exact h2.up (by omega)
theorem Bn.outer {M A B : Nat} {b : List Int} (hb : Bn B b) : ∀ {xs : List Int} {i : Nat} {c : List Int}, Bn A xs → Bn M c → Bn (M + xs.length * (b.length * (A * B))) (outer b i xs c)
  | [], i, c, _, h => h.up (Nat.le_add_right _ _)
  | x :: xs, i, c, hx, h => by
    have h1 := Bn.inner (i := i) (j := 0) (hx x List.mem_cons_self) hb h
    have h2 := Bn.outer (i := i + 1) hb (fun w hw => hx w (List.mem_cons_of_mem _ hw)) h1
    rw [List.length_cons, Nat.succ_mul]
    exact h2.up (by omega)
theorem Bn.mulP {A B : Nat} {a b : List Int} (ha : Bn A a) (hb : Bn B b) : Bn (a.length * (b.length * (A * B))) (mulP a b) := by
  have h0 : Bn 0 (List.replicate (a.length + b.length - 1) 0) := fun x hx => by
    rw [(List.mem_replicate.mp hx).2]
    exact Nat.le_refl _
  have := (Bn.outer (i := 0) hb ha h0).trim
  rw [Nat.zero_add] at this
  exact this
theorem mulP_len {a b : List Int} : (mulP a b).length ≤ a.length + b.length := by
  unfold mulP
  refine Nat.le_trans (trim_len _) ?_
  rw [outer_len, List.length_replicate]
  omega
theorem Bn.sm {B : Nat} {xs : List Int} (h : Bn B xs) (hB : B < 2 ^ 4000) : Sm xs := fun x hx => Nat.lt_of_le_of_lt (h x hx) hB
/-- one step of putting a row in -/
def putS (b : List Int) (f : List Int) (c : Int) : List Int := trim (addP (mulP f b) (trim [c]))
theorem putS_len {b f : List Int} {c : Int} : (putS b f c).length ≤ f.length + b.length + 1 := by
  unfold putS
  refine Nat.le_trans (trim_len _) ?_
  rw [addP_len]
  have h1 := mulP_len (a := f) (b := b)
  have h2 := trim_len [c]
  simp at h2
  omega
theorem putS_bn {b f : List Int} {c : Int} {D : Nat} (hb : Bn 10000000 b) (hf : Bn D f) (hc : c.natAbs ≤ 10000000) (lb : b.length ≤ 100) (lf : f.length ≤ 1000) (hD : 1 ≤ D) : Bn (10000000000000 * D) (putS b f c) := by
  have h1 := hf.mulP hb
  have h2 : Bn 10000000 (trim [c]) := Bn.trim fun x hx => by
    simp at hx
    subst hx
    exact hc
  refine (Bn.addP h1 h2).trim.up ?_
  have q1 : b.length * (D * 10000000) ≤ 100 * (D * 10000000) := Nat.mul_le_mul_right _ lb
  have q2 : f.length * (b.length * (D * 10000000)) ≤ 1000 * (100 * (D * 10000000)) := Nat.mul_le_mul lf q1
  omega
def putL (b : List Int) (cs : List Int) : List Int := cs.foldl (putS b) []
theorem put_run {fs fp ft : GF} (hs : ∀ μ (a b : List Int), a.length ≤ 1000 → b.length ≤ 1000 → fs [.d (Rw' a), .d (Rw' b)] μ = .ok (.d (Rw' (trim (addP a b)))) μ)
    (hp : ∀ μ (a b : List Int), Sm a → Sm b → a.length ≤ 500 → b.length ≤ 500 → fp [.d (Rw' a), .d (Rw' b)] μ = .ok (.d (Rw' (mulP a b))) μ) (ht : ∀ μ (c : Int), ft [.d (.tuple [.int c])] μ = .ok (.d (Rw' (trim [c]))) μ)
    {μ : Mu} {a b : List Int} (ha : Bn 10000000 a) (hb : Bn 10000000 b) (la : a.length ≤ 20) (lb : b.length ≤ 10) :
    ∃ o, sFor (iAny (e1 gRev (eVar 0))) (gNm 3) (sAsg (cF 2 fs (aCons (cF 2 fp (aCons (eVar 2) (aCons (eVar 1) aNil))) (aCons (cF 1 ft (aCons (eTup (aCons (eVar 3) aNil)) aNil)) aNil))) (gNm 2))
      [some (.d (Rw' a)), some (.d (Rw' b)), some (.d (Rw' [])), none] μ = .ok (.nx [some (.d (Rw' a)), some (.d (Rw' b)), some (.d (Rw' (putL b a.reverse))), o]) μ := by
  have hit : iAny (e1 gRev (eVar 0)) [some (.d (Rw' a)), some (.d (Rw' b)), some (.d (Rw' [])), none] μ = .ok ⟨Li a.reverse, []⟩ μ := by
    have : Li a.reverse = (Li a).reverse := List.map_reverse
    rw [this]
    rfl
  have main := for_run (t := gNm 3) (b := sAsg (cF 2 fs (aCons (cF 2 fp (aCons (eVar 2) (aCons (eVar 1) aNil))) (aCons (cF 1 ft (aCons (eTup (aCons (eVar 3) aNil)) aNil)) aNil))) (gNm 2))
    (fun n ρ' μ' => μ' = μ ∧ ∃ o f, ρ' = [some (.d (Rw' a)), some (.d (Rw' b)), some (.d (Rw' f)), o] ∧ f = putL b (a.reverse.take n) ∧ f.length ≤ 11 * n ∧ Bn (10000000000000 ^ n) f ∧ n ≤ 20) hit
    ⟨rfl, none, [], rfl, rfl, Nat.zero_le _, (fun x hx => by cases hx), Nat.zero_le _⟩ (fun n x ρ' μ' hx ⟨e0, o, f, e1, ef, lf, bf, ln⟩ => ?_)
  · obtain ⟨ρ', μ', e, rfl, o, f, rfl, rfl, _⟩ := main
    rw [Li_len, List.take_length] at e
    exact ⟨o, e⟩
  · subst e0 e1
    have hn : n < a.reverse.length := by
      have := (List.getElem?_eq_some_iff.mp hx).1
      rwa [Li_len] at this
    rw [Li_get, List.getElem?_eq_getElem hn] at hx
    cases hx
    have hc : (a.reverse[n]).natAbs ≤ 10000000 := ha _ (List.mem_reverse.mp (List.getElem_mem hn))
    have hn20 : n < 20 := by
      rw [List.length_reverse] at hn
      omega
    have hpow : 10000000000000 ^ n ≤ 10000000000000 ^ 20 := Nat.pow_le_pow_right (by omega) (by omega)
    have big : 10000000000000 ^ 20 < 2 ^ 4000 := by decide +kernel
    have sf : Sm f := bf.sm (Nat.lt_of_le_of_lt hpow big)
    have sb : Sm b := hb.sm (by decide +kernel)
    have e1 := hp μ' f b sf sb (by omega) (by omega)
    have e2 := ht μ' a.reverse[n]
    have e3 := hs μ' (mulP f b) (trim [a.reverse[n]]) (Nat.le_trans mulP_len (by omega)) (Nat.le_trans (trim_len _) (by simp))
    have st : putS b f a.reverse[n] = putL b (a.reverse.take (n + 1)) := by
      rw [ef]
      unfold putL
      rw [take_succ0 hn, List.foldl_append]
      rfl
    refine ⟨[some (.d (Rw' a)), some (.d (Rw' b)), some (.d (Rw' f)), some (.d (.int a.reverse[n]))], μ', [some (.d (Rw' a)), some (.d (Rw' b)), some (.d (Rw' (putS b f a.reverse[n]))), some (.d (.int a.reverse[n]))], μ', rfl, ?_, rfl, _, _, rfl, st, ?_, ?_, hn20⟩
    · simp [-List.getElem_reverse, e1, e2, e3]
      rfl
    · have := putS_len (b := b) (f := f) (c := a.reverse[n])
      omega
    · have := putS_bn hb bf hc (by omega) (by omega) (Nat.pow_pos (by omega))
      rw [Nat.pow_succ, Nat.mul_comm]
      exact this
theorem t_put_by {μ : Mu} {a b : List Int} (ha : Bn 10000000 a) (hb : Bn 10000000 b) (la : a.length ≤ 20) (lb : b.length ≤ 10) : f_put_by [.d (Rw' a), .d (Rw' b)] μ = .ok (.d (Rw' (putL b a.reverse))) μ := by
  obtain ⟨o, e⟩ := put_run (fs := f_sum_by) (fp := f_product_by) (ft := f_trimmed) (fun μ a b h1 h2 => t_sum_by h1 h2) (fun μ a b h1 h2 h3 h4 => t_product_by h1 h2 h3 h4) (fun μ c => t_trimmed (xs := [c]) (.inr rfl)) (μ := μ) ha hb la lb
  have e0 : (Rw' [] : PyData) = .tuple [] := rfl
  rw [e0] at e
  simp [f_put_by, b_put_by, runD, initR]
  rw [e]
  simp
theorem t_law_put_in {μ : Mu} {a b : List Int} (ha : Bn 10000000 a) (hb : Bn 10000000 b) (la : a.length ≤ 20) (lb : b.length ≤ 10) : f_law_put_in [.d (Rw' a), .d (Rw' b)] μ = .ok (.d (Rw' (putL b a.reverse))) μ := by
  obtain ⟨o, e⟩ := put_run (fs := f_law_sum) (fp := f_law_product) (ft := f_law_trim) (fun μ a b h1 h2 => t_law_sum h1 h2) (fun μ a b h1 h2 h3 h4 => t_law_product h1 h2 h3 h4) (fun μ c => t_law_trim (xs := [c]) (.inr rfl)) (μ := μ) ha hb la lb
  have e0 : (Rw' [] : PyData) = .tuple [] := rfl
  rw [e0] at e
  simp [f_law_put_in, b_law_put_in, runD, initR]
  rw [e]
  simp
end LW
namespace LW
open PySem PySem.Spec TL
open L2 (atI ixN)
/-- each times its place -/
def dr : Nat → List Int → List Int
  | _, [] => []
  | i, x :: xs => ((i : Int) * x) :: dr (i + 1) xs
theorem dr_len : ∀ (xs : List Int) (i : Nat), (dr i xs).length = xs.length
  | [], _ => rfl
  | x :: xs, i => by
    unfold dr
    rw [List.length_cons, List.length_cons, dr_len xs]
theorem trim_cons {x : Int} {xs : List Int} (h : trim (x :: xs) = x :: xs) : (xs = [] ∧ x ≠ 0) ∨ (xs ≠ [] ∧ trim xs = xs) := by
  unfold trim at h
  split at h
  · rename_i e
    split at h
    · cases h
    · rename_i hx
      have : xs = [] := (List.cons.inj h).2.symm
      exact .inl ⟨this, hx⟩
  · rename_i y ys e
    have : y :: ys = xs := (List.cons.inj h).2
    exact .inr ⟨(fun z => by rw [z] at this; cases this), by rw [e, this]⟩
theorem trim_dr : ∀ (xs : List Int) (i : Nat), 1 ≤ i → trim xs = xs → trim (dr i xs) = dr i xs
  | [], i, _, _ => rfl
  | x :: xs, i, hi, h => by
    rcases trim_cons h with ⟨rfl, hx⟩ | ⟨hne, ht⟩
    · unfold dr dr trim trim
      rw [if_neg]
      intro z
      rcases Int.mul_eq_zero.mp z with z | z
      · omega
      · exact hx z
    · have ih := trim_dr xs (i + 1) (by omega) ht
      unfold dr trim
      rw [ih]
      cases hd : dr (i + 1) xs with
      | nil =>
        have := dr_len xs (i + 1)
        rw [hd] at this
        exact absurd (List.eq_nil_of_length_eq_zero this.symm) hne
      | cons y ys => rfl
theorem enumF_get : ∀ (xs : List Int) (i k : Nat), (enumF i xs)[k]? = xs[k]?.map fun x => PyData.tuple [.int ((i + k : Nat) : Int), .int x]
  | [], i, k => by simp [enumF]
  | x :: xs, i, 0 => by simp [enumF]
  | x :: xs, i, k + 1 => by
    have := enumF_get xs (i + 1) k
    simp only [enumF, List.getElem?_cons_succ, this]
    rw [show i + 1 + k = i + (k + 1) by omega]
theorem enumF_len : ∀ (xs : List Int) (i : Nat), (enumF i xs).length = xs.length
  | [], _ => rfl
  | x :: xs, i => by
    unfold enumF
    rw [List.length_cons, List.length_cons, enumF_len xs]
theorem dr_get : ∀ (xs : List Int) (i k : Nat), (dr i xs)[k]? = xs[k]?.map fun x => ((i + k : Nat) : Int) * x
  | [], i, k => by simp [dr]
  | x :: xs, i, 0 => by simp [dr]
  | x :: xs, i, k + 1 => by
    have := dr_get xs (i + 1) k
    simp only [dr, List.getElem?_cons_succ, this]
    rw [show i + 1 + k = i + (k + 1) by omega]
theorem cut_one {β : Type} {xs : List β} : cutL xs (some 1) none = xs.drop 1 := by
  unfold cutL
  rw [show HT.sIx xs.length xs.length none = xs.length from rfl, show HT.sIx xs.length 0 (some (1 : Int)) = min 1 xs.length from HT.sIx_nat xs.length 0 1]
  cases xs with
  | nil => rfl
  | cons x r =>
    rw [show min 1 (x :: r).length = 1 by simp]
    exact List.take_of_length_le (by simp)
/-- the derivative -/
def slope (a : List Int) : List Int := dr 1 (a.drop 1)
theorem dr_drop (a : List Int) : (dr 0 a).drop 1 = slope a := by cases a <;> rfl
theorem slope_trim {a : List Int} (h : trim a = a) : trim (slope a) = slope a := by
  cases a with
  | nil => rfl
  | cons x xs =>
    rcases trim_cons h with ⟨rfl, _⟩ | ⟨_, ht⟩
    · rfl
    · exact trim_dr xs 1 (by omega) ht
theorem sml_nat {n : Nat} (h : n ≤ 1000) : Sml (n : Int) := by
  show ((n : Int)).natAbs < 2 ^ 4000
  have : (1000 : Nat) < 2 ^ 4000 := by decide +kernel
  rw [Int.natAbs_natCast]
  exact Nat.lt_of_le_of_lt h this
theorem t_slope_of {μ : Mu} {a : List Int} (ha : Sm a) (la : a.length ≤ 500) (ht : trim a = a) : f_slope_of [.d (Rw' a)] μ = .ok (.d (Rw' (slope a))) μ := by
  have lc : lLc (iEnumT (aCons (eVar 0) aNil)) (gTp [gNm 1, gNm 2]) bYes (e2 gTimes (eVar 1) (eVar 2)) [1, 2] [some (.d (Rw' a)), none, none] μ = .ok (Li (dr 0 a)) μ := by
    refine lcT_eq (xs := enumF 0 a) (by rw [← enumL_eq]; rfl) (by rw [enumF_len]; omega) (by rw [Li_len, dr_len, enumF_len]) fun k x z hx hz => ?_
    rw [enumF_get] at hx
    rw [Li_get, dr_get] at hz
    cases e : a[k]? with
    | none =>
      rw [e] at hx
      cases hx
    | some v =>
      rw [e] at hx hz
      cases hx
      cases hz
      have hk : k < a.length := (List.getElem?_eq_some_iff.mp e).1
      refine ⟨_, rfl, ?_⟩
      have := w_times (μ := μ) (i := ((0 + k : Nat) : Int)) (j := v) (sml_nat (by omega)) (ha v (List.mem_of_getElem? e))
      show e2 gTimes (eVar 1) (eVar 2) [some (.d (Rw' a)), some (.d (.int ((0 + k : Nat) : Int))), some (.d (.int v))] μ = _
      simp only [x_e2, x_v0, x_vs, Out.bind_ok, this, x_calm]
  have tr : f_trimmed [.d (.list (Li (slope a)))] μ = .ok (.d (Rw' (slope a))) μ := by
    have := t_trimmed (μ := μ) (w := .d (.list (Li (slope a)))) (xs := slope a) (.inl rfl)
    rw [slope_trim ht] at this
    exact this
  have cu : cutL (Li (dr 0 a)) (some 1) none = Li (slope a) := by
    rw [cut_one, ← dr_drop]
    exact (List.map_drop ..).symm
  simp [f_slope_of, b_slope_of, runD, initR, lc, cu, tr]
theorem filt_run {c : Bv} {e : Ev} {ρ : Rho} {μ : Mu} {xs0 : Cell} : ∀ (xs : List Int) (i : Nat) (acc : List Int), acc.length + xs.length ≤ 16777216 →
    (∀ (k : Nat) x, xs[k]? = some x → c ((ρ.set 1 (some (.d (.int ((i + k : Nat) : Int))))).set 2 (some (.d (.int x)))) μ = .ok true μ ∧ e ((ρ.set 1 (some (.d (.int ((i + k : Nat) : Int))))).set 2 (some (.d (.int x)))) μ = .ok (.d (.int (((i + k : Nat) : Int) * x))) μ) →
    loopC ⟨xs0, []⟩ (gTp [gNm 1, gNm 2]) c e ρ (enumF i xs) (Li acc) μ = .ok (Li (acc ++ dr i xs)) μ
  | [], i, acc, _, _ => by
    unfold enumF loopC dr
    rw [if_pos tied_nil, List.append_nil]
  | x :: xs, i, acc, hl, h => by
    rw [List.length_cons] at hl
    obtain ⟨h1, h2⟩ := h 0 x rfl
    have ih := filt_run (c := c) (e := e) (ρ := ρ) (μ := μ) (xs0 := xs0) xs (i + 1) (acc ++ [(i : Int) * x]) (by rw [List.length_append, List.length_singleton]; omega) fun k y hk => by
      have := h (k + 1) y (by simpa using hk)
      rw [show i + (k + 1) = i + 1 + k by omega] at this
      exact this
    rw [Nat.add_zero] at h1 h2
    unfold enumF loopC dr
    rw [if_pos tied_nil]
    have t : gTp [gNm 1, gNm 2] (.d (.tuple [.int (i : Int), .int x])) ρ μ = .ok ((ρ.set 1 (some (.d (.int (i : Int))))).set 2 (some (.d (.int x)))) μ := rfl
    rw [t]
    simp only [x_calm, Out.bind_ok, h1, h2, if_true]
    unfold lcPut
    simp only [Out.bind_ok]
    rw [if_pos (by rw [Li_len]; omega)]
    simp only [Out.bind_ok]
    rw [show Li acc ++ [PyData.int ((i : Int) * x)] = Li (acc ++ [(i : Int) * x]) from (Li_app (a := acc) (b := [(i : Int) * x])).symm, ih, List.append_assoc]
    rfl
theorem t_law_slope {μ : Mu} {a : List Int} (ha : Sm a) (la : a.length ≤ 500) : f_law_slope [.d (Rw' a)] μ = .ok (.d (Rw' (slope a))) μ := by
  have lc : lLc (iEnumT (aCons (eVar 0) aNil)) (gTp [gNm 1, gNm 2]) (tB' (e2 (gCmp fun i j => decide (j < i)) (eVar 1) (eK (.int 0)))) (e2 gTimes (eVar 1) (eVar 2)) [1, 2] [some (.d (Rw' a)), none, none] μ = .ok (Li (slope a)) μ := by
    show (iEnumT (aCons (eVar 0) aNil) [some (.d (Rw' a)), none, none] μ).bind _ = _
    rw [show iEnumT (aCons (eVar 0) aNil) [some (.d (Rw' a)), none, none] μ = .ok ⟨enumF 0 a, []⟩ μ by rw [← enumL_eq]; rfl]
    show loopC ⟨enumF 0 a, []⟩ _ _ _ [some (.d (Rw' a)), none, none] (enumF 0 a) [] μ = _
    cases a with
    | nil =>
      unfold enumF loopC
      rw [if_pos tied_nil]
      rfl
    | cons x xs =>
      have rest := filt_run (c := tB' (e2 (gCmp fun i j => decide (j < i)) (eVar 1) (eK (.int 0)))) (e := e2 gTimes (eVar 1) (eVar 2)) (ρ := [some (.d (Rw' (x :: xs))), none, none]) (μ := μ) (xs0 := enumF 0 (x :: xs)) xs 1 [] (by simp at la ⊢; omega) fun k y hk => by
        have hkl : k < xs.length := (List.getElem?_eq_some_iff.mp hk).1
        have hm : y ∈ x :: xs := List.mem_cons_of_mem _ (List.mem_of_getElem? hk)
        have w := w_times (μ := μ) (i := ((1 + k : Nat) : Int)) (j := y) (sml_nat (by simp at la; omega)) (ha y hm)
        have hp : (0 : Int) < ((1 + k : Nat) : Int) := by omega
        constructor
        · show tB' (e2 (gCmp fun i j => decide (j < i)) (eVar 1) (eK (.int 0))) [some (.d (Rw' (x :: xs))), some (.d (.int ((1 + k : Nat) : Int))), some (.d (.int y))] μ = _
          simp only [x_tB, x_e2, x_v0, x_vs, x_k, Out.bind_ok, v_cmp, x_calm, x_wB, decide_eq_true hp]
        · show e2 gTimes (eVar 1) (eVar 2) [some (.d (Rw' (x :: xs))), some (.d (.int ((1 + k : Nat) : Int))), some (.d (.int y))] μ = _
          simp only [x_e2, x_v0, x_vs, Out.bind_ok, w, x_calm]
      have first : tB' (e2 (gCmp fun i j => decide (j < i)) (eVar 1) (eK (.int 0))) [some (.d (Rw' (x :: xs))), some (.d (.int ((0 : Nat) : Int))), some (.d (.int x))] μ = .ok false μ := by simp
      unfold enumF loopC
      rw [if_pos tied_nil]
      have t : gTp [gNm 1, gNm 2] (.d (.tuple [.int ((0 : Nat) : Int), .int x])) [some (.d (Rw' (x :: xs))), none, none] μ = .ok [some (.d (Rw' (x :: xs))), some (.d (.int ((0 : Nat) : Int))), some (.d (.int x))] μ := rfl
      rw [t]
      simp only [x_calm, Out.bind_ok, first]
      exact rest
  simp [f_law_slope, b_law_slope, runD, initR, lc]
end LW
namespace LW
open PySem PySem.Spec TL
open L2 (atI ixN)
def gg (a : List Int) : Nat := a.foldl (fun g x => Nat.gcd g x.natAbs) 0
theorem gg_run {μ : Mu} {a : List Int} {s : Sv} (hs : ∀ (g : Nat) (x : Int), s [some (.d (Rw' a)), some (.d (.int g)), some (.d (.int x))] μ = .ok (.nx [some (.d (Rw' a)), some (.d (.int (Nat.gcd g x.natAbs : Nat))), some (.d (.int x))]) μ) :
    ∃ o, sFor (iAny (eVar 0)) (gNm 2) s [some (.d (Rw' a)), some (.d (.int 0)), none] μ = .ok (.nx [some (.d (Rw' a)), some (.d (.int (gg a))), o]) μ := by
  have main := for_run (it := iAny (eVar 0)) (xs := Li a) (t := gNm 2) (b := s) (ρ := [some (.d (Rw' a)), some (.d (.int 0)), none]) (μ := μ) (μ1 := μ)
    (fun n ρ' μ' => μ' = μ ∧ ∃ o, ρ' = [some (.d (Rw' a)), some (.d (.int (gg (a.take n)))), o]) rfl ⟨rfl, none, rfl⟩ (fun n x ρ' μ' hx ⟨e0, o, e1⟩ => ?_)
  · obtain ⟨ρ', μ', e, rfl, o, rfl⟩ := main
    rw [Li_len, List.take_length] at e
    exact ⟨o, e⟩
  · subst e0 e1
    have hn : n < a.length := by
      have := (List.getElem?_eq_some_iff.mp hx).1
      rwa [Li_len] at this
    rw [Li_get, List.getElem?_eq_getElem hn] at hx
    cases hx
    refine ⟨_, _, _, _, rfl, hs (gg (a.take n)) a[n], rfl, some (.d (.int a[n])), ?_⟩
    unfold gg
    rw [take_succ0 hn, List.foldl_append]
    rfl
theorem t_divisor {μ : Mu} {a : List Int} : f_divisor_of [.d (Rw' a)] μ = .ok (.d (.int (gg a))) μ := by
  obtain ⟨o, e⟩ := gg_run (μ := μ) (a := a) (s := sAsg (en gGcd (aCons (eVar 1) (aCons (eVar 2) aNil))) (gNm 1)) fun g x => by
    simp [t_gcd]
  simp [f_divisor_of, b_divisor_of, runD, initR]
  rw [e]
  simp
theorem gg_dvd : ∀ (a : List Int) (g : Nat) (x : Int), x ∈ a → (a.foldl (fun g x => Nat.gcd g x.natAbs) g) ∣ x.natAbs ∧ (a.foldl (fun g x => Nat.gcd g x.natAbs) g) ∣ g := by
  intro a
  induction a with
  | nil => intro g x h; cases h
  | cons y ys ih =>
    intro g x h
    have key : ∀ (zs : List Int) (g : Nat), (zs.foldl (fun g x => Nat.gcd g x.natAbs) g) ∣ g := by
      intro zs
      induction zs with
      | nil => intro g; exact Nat.dvd_refl _
      | cons z zs ih => intro g; exact Nat.dvd_trans (ih (Nat.gcd g z.natAbs)) (Nat.gcd_dvd_left _ _)
    refine ⟨?_, key (y :: ys) g⟩
    rcases List.mem_cons.mp h with rfl | h
    · exact Nat.dvd_trans (key ys _) (Nat.gcd_dvd_right _ _)
    · exact (ih (Nat.gcd g y.natAbs) x h).1
theorem gg_pos {a : List Int} {x : Int} (h : x ∈ a) (hx : x ≠ 0) : 0 < gg a ∧ gg a ≤ x.natAbs := by
  have := (gg_dvd a 0 x h).1
  have hp : 0 < x.natAbs := by omega
  exact ⟨Nat.pos_of_dvd_of_pos this hp, Nat.le_of_dvd hp this⟩
def thin (a : List Int) : List Int := a.map fun x => x / (gg a : Int)
theorem thin_one {a : List Int} (h : gg a = 1) : thin a = a := by
  unfold thin
  rw [h]
  simp
theorem last_of {a : List Int} (h : trim a = a) (hne : a ≠ []) : ∃ z l, a = l ++ [z] ∧ z ≠ 0 := by
  rcases List.eq_nil_or_concat a with rfl | ⟨l, z, rfl⟩
  · exact absurd rfl hne
  · rw [List.concat_eq_append] at *
    refine ⟨z, l, rfl, fun hz => ?_⟩
    subst hz
    rw [trim_app0] at h
    have h1 := trim_len l
    rw [h] at h1
    simp at h1
    omega
theorem t_small {μ : Mu} {a : List Int} (ht : trim a = a) (hb : Bn 10000000 a) (la : a.length ≤ 1000) : f_small [.d (Rw' a)] μ = .ok (.d (Rw' (thin a))) μ := by
  by_cases h1 : 1 < gg a
  · have hg : (1 : Int) < (gg a : Int) := by omega
    have hne : a ≠ [] := fun e => by rw [e] at h1; exact absurd h1 (by decide)
    obtain ⟨z, l, rfl, hz⟩ := last_of ht hne
    have hz2 := (gg_pos (List.mem_append_right l (List.mem_singleton.mpr rfl)) hz).2
    have hz3 := hb z (List.mem_append_right l (List.mem_singleton.mpr rfl))
    generalize l ++ [z] = a at *
    have lc : lLc (iAny (eVar 0)) (gNm 2) bYes (e2 gDiv (eVar 2) (eVar 1)) [2] [some (.d (Rw' a)), some (.d (.int (gg a))), none] μ = .ok (Li (thin a)) μ := lc_ints rfl (by omega) fun x hx => by
      simp [TL.v_div (μ := μ) (i := x) (j := (gg a : Int)) (by omega) (by omega)]
    simp [f_small, b_small, runD, initR, t_divisor, h1, hg, lc]
  · have hg : ¬ (1 : Int) < (gg a : Int) := by omega
    have e : thin a = a := by
      by_cases hne : a = []
      · rw [hne]
        rfl
      · obtain ⟨z, l, rfl, hz⟩ := last_of ht hne
        have := (gg_pos (List.mem_append_right l (List.mem_singleton.mpr rfl)) hz).1
        exact thin_one (by omega)
    rw [e]
    simp [f_small, b_small, runD, initR, t_divisor, h1, hg]
theorem t_thin {μ : Mu} {a : List Int} (ht : trim a = a) (hb : Bn 10000000 a) (la : a.length ≤ 1000) : f_law_thin [.d (Rw' a)] μ = .ok (.d (Rw' (thin a))) μ := by
  obtain ⟨o, e⟩ := gg_run (μ := μ) (a := a) (s := sAsg (cF 2 f_law_common (aCons (eVar 1) (aCons (eVar 2) aNil))) (gNm 1)) fun g x => by
    simp [t_common]
  have lc : lLc (iAny (eVar 0)) (gNm 2) bYes (e2 gDiv (eVar 2) (eVar 1)) [2] [some (.d (Rw' a)), some (.d (.int (gg a))), o] μ = .ok (Li (thin a)) μ := lc_ints rfl (by omega) fun x hx => by
    have hne : a ≠ [] := fun e => by rw [e] at hx; cases hx
    obtain ⟨z, l, rfl, hz⟩ := last_of ht hne
    have hz2 := gg_pos (List.mem_append_right l (List.mem_singleton.mpr rfl)) hz
    have hz3 := hb z (List.mem_append_right l (List.mem_singleton.mpr rfl))
    generalize l ++ [z] = a at *
    simp [TL.v_div (μ := μ) (i := x) (j := (gg a : Int)) (by omega) (by omega)]
  simp [f_law_thin, b_law_thin, runD, initR]
  rw [e]
  simp [lc]
end LW
namespace LW
open PySem PySem.Spec TL
open L2 (atI ixN)
/-- the prime part -/
def prm (a : List Int) : List Int := match a.getLast? with
  | some z => if z < 0 then (thin a).map (fun x => 0 - x) else thin a
  | none => []
theorem prm_nil : prm [] = [] := rfl
theorem prm_snoc {l : List Int} {z : Int} : prm (l ++ [z]) = if z < 0 then (thin (l ++ [z])).map (fun x => 0 - x) else thin (l ++ [z]) := by
  simp [prm]
theorem thin_snoc {l : List Int} {z : Int} : ∃ m, thin (l ++ [z]) = m ++ [z / (gg (l ++ [z]) : Int)] := ⟨_, by unfold thin; rw [List.map_append]; rfl⟩
theorem at_snoc {m : List Int} {z : Int} : atI (Li (m ++ [z])) (-1) = some (.int z) := by
  rw [Li_app]
  exact L2.atI_last _ _
theorem Bn.thin {B : Nat} {a : List Int} (h : Bn B a) : Bn B (thin a) := by
  intro x hx
  unfold LW.thin at hx
  obtain ⟨y, hy, rfl⟩ := List.mem_map.mp hx
  have h1 := h y hy
  have h2 : (y / (gg a : Int)).natAbs ≤ y.natAbs := by
    rcases Nat.eq_zero_or_pos (gg a) with e | e
    · rw [e]
      simp
    · exact Int.natAbs_ediv_le_natAbs y (gg a : Int)
  omega
theorem t_prime_by {μ : Mu} {a : List Int} (ht : trim a = a) (hb : Bn 10000000 a) (la : a.length ≤ 1000) : f_prime_by [.d (Rw' a)] μ = .ok (.d (Rw' (prm a))) μ := by
  have sm := t_small (μ := μ) ht hb la
  by_cases hne : a = []
  · subst hne
    rw [prm_nil]
    have e0 : (Li (thin [])).isEmpty = true := rfl
    simp [f_prime_by, b_prime_by, runD, initR, sm, e0]
    rfl
  · obtain ⟨z, l, rfl, hz⟩ := last_of ht hne
    have hg := (gg_pos (List.mem_append_right l (List.mem_singleton.mpr rfl)) hz).1
    obtain ⟨m, em⟩ := thin_snoc (l := l) (z := z)
    have bt := hb.thin
    have lt : (thin (l ++ [z])).length = (l ++ [z]).length := by
      unfold thin
      rw [List.length_map]
    rw [prm_snoc]
    rw [em] at sm bt lt ⊢
    have e0 : (Li (m ++ [z / (gg (l ++ [z]) : Int)])).isEmpty = false := by
      rw [Li_empty]
      cases m <;> rfl
    have ei := at_snoc (m := m) (z := z / (gg (l ++ [z]) : Int))
    by_cases hz0 : z < 0
    · have hq : z / (gg (l ++ [z]) : Int) < 0 := Int.ediv_neg_of_neg_of_pos hz0 (by omega)
      have sc := t_scaled (μ := μ) (xs := m ++ [z / (gg (l ++ [z]) : Int)]) (k := -1) (by omega) (by omega) (fun x hx => by have := bt x hx; omega)
      have em2 : (m ++ [z / (gg (l ++ [z]) : Int)]).map (fun x => -1 * x) = (m ++ [z / (gg (l ++ [z]) : Int)]).map (fun x => 0 - x) := List.map_congr_left fun x _ => by omega
      have et : trim ((m ++ [z / (gg (l ++ [z]) : Int)]).map (fun x => 0 - x)) = (m ++ [z / (gg (l ++ [z]) : Int)]).map (fun x => 0 - x) := by
        rw [List.map_append]
        exact trim_last _ _ (by show 0 - z / (gg (l ++ [z]) : Int) ≠ 0; omega)
      rw [em2, et] at sc
      rw [if_pos hz0]
      simp only [f_prime_by, b_prime_by, runD, initR]
      simp [-List.map_append, sm, e0, ei, hq, sc]
    · have hq : ¬ z / (gg (l ++ [z]) : Int) < 0 := by
        have := Int.ediv_nonneg (show 0 ≤ z by omega) (show (0 : Int) ≤ (gg (l ++ [z]) : Int) by omega)
        omega
      rw [if_neg hz0]
      simp [f_prime_by, b_prime_by, runD, initR, sm, e0, ei, hq]
theorem t_law_prime {μ : Mu} {a : List Int} (ht : trim a = a) (hb : Bn 10000000 a) (la : a.length ≤ 1000) : f_law_prime [.d (Rw' a)] μ = .ok (.d (Rw' (prm a))) μ := by
  have sm := t_thin (μ := μ) ht hb la
  by_cases hne : a = []
  · subst hne
    rw [prm_nil]
    have e0 : (Li ([] : List Int)).isEmpty = true := rfl
    simp [f_law_prime, b_law_prime, runD, initR, sm, e0]
    rfl
  · obtain ⟨z, l, rfl, hz⟩ := last_of ht hne
    have e0 : (Li (l ++ [z])).isEmpty = false := by
      rw [Li_empty]
      cases l <;> rfl
    have ei := at_snoc (m := l) (z := z)
    have lt : (thin (l ++ [z])).length = (l ++ [z]).length := by
      unfold thin
      rw [List.length_map]
    rw [prm_snoc]
    by_cases hz0 : z < 0
    · have hq : ¬ 0 < z := by omega
      have lc : lLc (iAny (eVar 1)) (gNm 2) bYes (e2 gSub (eK (.int 0)) (eVar 2)) [2] [some (.d (Rw' (l ++ [z]))), some (.d (Rw' (thin (l ++ [z])))), none] μ = .ok (Li ((thin (l ++ [z])).map (fun x => 0 - x))) μ :=
        lc_ints (g := fun x => 0 - x) rfl (by omega) fun x hx => by simp
      rw [if_pos hz0]
      simp [f_law_prime, b_law_prime, runD, initR, sm, e0, ei, hq, lc]
    · have hq : 0 < z := by omega
      rw [if_neg hz0]
      simp [f_law_prime, b_law_prime, runD, initR, sm, e0, ei, hq]
end LW
namespace LW
open PySem PySem.Spec TL
open L2 (atI ixN)
/-- the top of a row's value, and the power below -/
def hrn (n d : Int) (cs : List Int) : Int × Int := cs.foldl (fun f c => (f.1 * n + c * f.2, f.2 * d)) (0, 1)
theorem hrn_snoc {n d : Int} {cs : List Int} {c : Int} : hrn n d (cs ++ [c]) = ((hrn n d cs).1 * n + c * (hrn n d cs).2, (hrn n d cs).2 * d) := by
  unfold hrn
  rw [List.foldl_append]
  rfl
theorem hrn_pow {n d : Int} : ∀ cs : List Int, (hrn n d cs).2 = d ^ cs.length := by
  intro cs
  have gen : ∀ (cs : List Int) (f p : Int), (cs.foldl (fun f c => (f.1 * n + c * f.2, f.2 * d)) (f, p)).2 = p * d ^ cs.length := by
    intro cs
    induction cs with
    | nil => intro f p; simp
    | cons c cs ih =>
      intro f p
      rw [List.foldl_cons, ih, List.length_cons, Int.pow_succ, Int.mul_assoc, Int.mul_comm d]
  have := gen cs 0 1
  rw [Int.one_mul] at this
  exact this
/-- bounds of both -/
def HB (k : Nat) (f : Int × Int) : Prop := f.1.natAbs ≤ 1000000000 ^ k ∧ f.2.natAbs ≤ 10 ^ k
theorem hb0 : HB 0 (0, 1) := ⟨by decide, by decide⟩
theorem HB.step {k : Nat} {f : Int × Int} {n d c : Int} (h : HB k f) (hn : n.natAbs ≤ 10000000) (hd : d.natAbs ≤ 10) (hc : c.natAbs ≤ 10000000) : HB (k + 1) (f.1 * n + c * f.2, f.2 * d) := by
  obtain ⟨h1, h2⟩ := h
  constructor
  · have a := mul_le h1 hn
    have b := mul_le hc h2
    have e : (10 : Nat) ^ k ≤ 1000000000 ^ k := Nat.pow_le_pow_left (by omega) k
    show (f.1 * n + c * f.2).natAbs ≤ _
    rw [Nat.pow_succ]
    omega
  · have a := mul_le h2 hd
    show (f.2 * d).natAbs ≤ _
    rw [Nat.pow_succ]
    exact a
theorem hrn_hb {n d : Int} (hn : n.natAbs ≤ 10000000) (hd : d.natAbs ≤ 10) : ∀ {cs : List Int}, Bn 10000000 cs → HB cs.length (hrn n d cs) := by
  intro cs
  have gen : ∀ (k : Nat), Bn 10000000 cs → k ≤ cs.length → HB k (hrn n d (cs.take k)) := by
    intro k hb
    induction k with
    | zero => intro _; exact hb0
    | succ k ih =>
      intro hk
      rw [take_succ0 (show k < cs.length by omega), hrn_snoc]
      exact (ih (by omega)).step hn hd (hb _ (List.getElem_mem _))
  intro hb
  have := gen cs.length hb (Nat.le_refl _)
  rwa [List.take_length] at this
theorem HB.sml {k : Nat} {f : Int × Int} (h : HB k f) (hk : k ≤ 20) : Sml f.1 ∧ Sml f.2 := by
  have e1 : 1000000000 ^ k ≤ 1000000000 ^ 20 := Nat.pow_le_pow_right (by omega) hk
  have e2 : 10 ^ k ≤ 10 ^ 20 := Nat.pow_le_pow_right (by omega) hk
  have b1 : 1000000000 ^ 20 < 2 ^ 4000 := by decide +kernel
  have b2 : 10 ^ 20 < 2 ^ 4000 := by decide +kernel
  exact ⟨Nat.lt_of_le_of_lt (Nat.le_trans h.1 e1) b1, Nat.lt_of_le_of_lt (Nat.le_trans h.2 e2) b2⟩
theorem sml_le {x : Int} (h : x.natAbs ≤ 10000000) : Sml x := Nat.lt_of_le_of_lt h (by decide +kernel)
theorem rev_hit {a : List Int} {ρ : Rho} {μ : Mu} (h : ρ[0]? = some (some (.d (Rw' a)))) : iAny (e1 gRev (eVar 0)) ρ μ = .ok ⟨Li a.reverse, []⟩ μ := by
  have : Li a.reverse = (Li a).reverse := List.map_reverse
  rw [this, x_iany, x_e1, x_var h]
  rfl
theorem t_top {μ : Mu} {a : List Int} {n d : Int} (hb : Bn 10000000 a) (la : a.length ≤ 20) (hn : n.natAbs ≤ 10000000) (hd : d.natAbs ≤ 10) : f_top_at [.d (Rw' a), .d (.tuple [.int n, .int d])] μ = .ok (.d (.int (hrn n d a.reverse).1)) μ := by
  have main := for_run (it := iAny (e1 gRev (eVar 0))) (t := gNm 2) (b := sSeq (sAsg (e2 gPlus (e2 gTimes (eVar 5) (eVar 3)) (e2 gTimes (eVar 2) (eVar 6))) (gNm 5)) (sAsg (e2 gTimes (eVar 6) (eVar 4)) (gNm 6)))
    (ρ := [some (.d (Rw' a)), some (.d (.tuple [.int n, .int d])), none, some (.d (.int n)), some (.d (.int d)), some (.d (.int 0)), some (.d (.int 1))]) (μ := μ)
    (fun k ρ' μ' => μ' = μ ∧ k ≤ 20 ∧ HB k (hrn n d (a.reverse.take k)) ∧ ∃ o, ρ' = [some (.d (Rw' a)), some (.d (.tuple [.int n, .int d])), o, some (.d (.int n)), some (.d (.int d)), some (.d (.int (hrn n d (a.reverse.take k)).1)), some (.d (.int (hrn n d (a.reverse.take k)).2))])
    (rev_hit rfl) ⟨rfl, Nat.zero_le _, hb0, none, rfl⟩ (fun k x ρ' μ' hx ⟨e0, hk, hB, o, e1⟩ => ?_)
  · obtain ⟨ρ', μ', e, rfl, _, _, o, rfl⟩ := main
    rw [Li_len, List.take_length] at e
    simp [f_top_at, b_top_at, runD, initR]
    rw [e]
    simp
  · subst e0 e1
    have hkl : k < a.reverse.length := by
      have := (List.getElem?_eq_some_iff.mp hx).1
      rwa [Li_len] at this
    rw [Li_get, List.getElem?_eq_getElem hkl] at hx
    cases hx
    have hc : (a.reverse[k]).natAbs ≤ 10000000 := hb _ (List.mem_reverse.mp (List.getElem_mem hkl))
    have hk20 : k < 20 := by
      rw [List.length_reverse] at hkl
      omega
    obtain ⟨s1, s2⟩ := hB.sml hk
    have st := hB.step hn hd hc
    have es : hrn n d (a.reverse.take (k + 1)) = ((hrn n d (a.reverse.take k)).1 * n + a.reverse[k] * (hrn n d (a.reverse.take k)).2, (hrn n d (a.reverse.take k)).2 * d) := by
      rw [take_succ0 hkl, hrn_snoc]
    rw [← es] at st
    generalize a.reverse[k] = c at *
    generalize hrn n d (a.reverse.take k) = f at *
    have w1 := w_times (μ := μ') s1 (sml_le hn)
    have w2 := w_times (μ := μ') (sml_le hc) s2
    have w3 := w_times (μ := μ') s2 (sml_le (Nat.le_trans hd (by omega)))
    refine ⟨_, _, [some (.d (Rw' a)), some (.d (.tuple [.int n, .int d])), some (.d (.int c)), some (.d (.int n)), some (.d (.int d)), some (.d (.int (f.1 * n + c * f.2))), some (.d (.int (f.2 * d)))], μ', rfl, ?_, rfl, hk20, st, some (.d (.int c)), by rw [es]⟩
    simp [w1, w2, w3]
theorem t_law_value {μ : Mu} {a : List Int} {n d : Int} (hb : Bn 10000000 a) (la : a.length ≤ 20) (hn : n.natAbs ≤ 10000000) (hd : d.natAbs ≤ 10) : f_law_value [.d (Rw' a), .d (.tuple [.int n, .int d])] μ = .ok (.d (.int (hrn n d a.reverse).1)) μ := by
  have main := for_run (it := iAny (e1 gRev (eVar 0))) (t := gNm 2) (b := sPar 3 4 (aCons (e2 gPlus (e2 gTimes (eVar 3) (e2 gIx (eVar 1) (eK (.int 0)))) (e2 gTimes (eVar 2) (eVar 4))) (aCons (e2 gTimes (eVar 4) (e2 gIx (eVar 1) (eK (.int 1)))) aNil)))
    (ρ := [some (.d (Rw' a)), some (.d (.tuple [.int n, .int d])), none, some (.d (.int 0)), some (.d (.int 1))]) (μ := μ)
    (fun k ρ' μ' => μ' = μ ∧ k ≤ 20 ∧ HB k (hrn n d (a.reverse.take k)) ∧ ∃ o, ρ' = [some (.d (Rw' a)), some (.d (.tuple [.int n, .int d])), o, some (.d (.int (hrn n d (a.reverse.take k)).1)), some (.d (.int (hrn n d (a.reverse.take k)).2))])
    (rev_hit rfl) ⟨rfl, Nat.zero_le _, hb0, none, rfl⟩ (fun k x ρ' μ' hx ⟨e0, hk, hB, o, e1⟩ => ?_)
  · obtain ⟨ρ', μ', e, rfl, _, _, o, rfl⟩ := main
    rw [Li_len, List.take_length] at e
    simp [f_law_value, b_law_value, runD, initR]
    rw [e]
    simp
  · subst e0 e1
    have hkl : k < a.reverse.length := by
      have := (List.getElem?_eq_some_iff.mp hx).1
      rwa [Li_len] at this
    rw [Li_get, List.getElem?_eq_getElem hkl] at hx
    cases hx
    have hc : (a.reverse[k]).natAbs ≤ 10000000 := hb _ (List.mem_reverse.mp (List.getElem_mem hkl))
    have hk20 : k < 20 := by
      rw [List.length_reverse] at hkl
      omega
    obtain ⟨s1, s2⟩ := hB.sml hk
    have st := hB.step hn hd hc
    have es : hrn n d (a.reverse.take (k + 1)) = ((hrn n d (a.reverse.take k)).1 * n + a.reverse[k] * (hrn n d (a.reverse.take k)).2, (hrn n d (a.reverse.take k)).2 * d) := by
      rw [take_succ0 hkl, hrn_snoc]
    rw [← es] at st
    generalize a.reverse[k] = c at *
    generalize hrn n d (a.reverse.take k) = f at *
    have w1 := w_times (μ := μ') s1 (sml_le hn)
    have w2 := w_times (μ := μ') (sml_le hc) s2
    have w3 := w_times (μ := μ') s2 (sml_le (Nat.le_trans hd (by omega)))
    refine ⟨_, _, [some (.d (Rw' a)), some (.d (.tuple [.int n, .int d])), some (.d (.int c)), some (.d (.int (f.1 * n + c * f.2))), some (.d (.int (f.2 * d)))], μ', rfl, ?_, rfl, hk20, st, some (.d (.int c)), by rw [es]⟩
    simp [sPar, w1, w2, w3]
end LW
namespace LW
open PySem PySem.Spec TL
open L2 (atI ixN)
theorem pw_le {d : Int} (hd : d.natAbs ≤ 10) : ∀ k : Nat, (d ^ k).natAbs ≤ 10 ^ k
  | 0 => by simp
  | k + 1 => by
    rw [Int.pow_succ, Nat.pow_succ]
    exact mul_le (pw_le hd k) hd
theorem pw_sml {d : Int} (hd : d.natAbs ≤ 10) {k : Nat} (hk : k ≤ 20) : Sml (d ^ k) := by
  have e2 : 10 ^ k ≤ 10 ^ 20 := Nat.pow_le_pow_right (by omega) hk
  have b2 : 10 ^ 20 < 2 ^ 4000 := by decide +kernel
  exact Nat.lt_of_le_of_lt (Nat.le_trans (pw_le hd k) e2) b2
theorem t_power {μ : Mu} {d : Int} {m : Nat} (hd : d.natAbs ≤ 10) (hm : m ≤ 20) : f_power_of [.d (.int d), .d (.int m)] μ = .ok (.d (.int (d ^ m))) μ := by
  have main := for_run (it := iR1 (aCons (eVar 1) aNil)) (xs := intL 0 m 1) (t := gNm 3) (b := sAsg (e2 gTimes (eVar 2) (eVar 0)) (gNm 2)) (ρ := [some (.d (.int d)), some (.d (.int m)), some (.d (.int 1)), none]) (μ := μ)
    (fun k ρ' μ' => μ' = μ ∧ k ≤ m ∧ ∃ o, ρ' = [some (.d (.int d)), some (.d (.int m)), some (.d (.int (d ^ k))), o]) (it_r1 (j := (m : Int)) rfl (by omega) (by omega)) ⟨rfl, Nat.zero_le _, none, by rw [Int.pow_zero]⟩ (fun k x ρ' μ' hx ⟨e0, hk, o, e1⟩ => ?_)
  · obtain ⟨ρ', μ', e, rfl, _, o, rfl⟩ := main
    rw [intL_len] at e
    simp [f_power_of, b_power_of, runD, initR]
    rw [e]
    simp
  · subst e0 e1
    have hkl : k < m := by
      have := (List.getElem?_eq_some_iff.mp hx).1
      rwa [intL_len] at this
    have w := w_times (μ := μ') (pw_sml hd (show k ≤ 20 by omega)) (sml_le (Nat.le_trans hd (by omega)))
    exact ⟨_, _, [some (.d (.int d)), some (.d (.int m)), some (.d (.int (d ^ k * d))), some (.d x)], μ', rfl, by simp [w], rfl, hkl, _, by rw [Int.pow_succ]⟩
/-- a row's value -/
def val (n d : Int) (a : List Int) : PyData := lean (hrn n d a.reverse).1 (d ^ (a.length - 1))
theorem pw_ok {d : Int} (h0 : 0 < d) (hd : d ≤ 10) {k : Nat} (hk : k ≤ 9) : 0 < d ^ k ∧ d ^ k < 1000000000000000000 := by
  have h1 : 0 < d ^ k := Int.pow_pos h0
  have h2 := pw_le (d := d) (by omega) k
  have e2 : 10 ^ k ≤ 10 ^ 9 := Nat.pow_le_pow_right (by omega) hk
  have b2 : (10 : Nat) ^ 9 = 1000000000 := by decide
  rw [b2] at e2
  exact ⟨h1, by omega⟩
theorem t_value_by {μ : Mu} {a : List Int} {n d : Int} (hb : Bn 10000000 a) (la : a.length ≤ 10) (hne : a ≠ []) (hn : n.natAbs ≤ 10000000) (h0 : 0 < d) (hd : d ≤ 10) : f_value_by [.d (Rw' a), .d (.tuple [.int n, .int d])] μ = .ok (.d (val n d a)) μ := by
  have lp : 0 < a.length := List.length_pos_iff.mpr hne
  have e1 := t_top (μ := μ) hb (by omega) hn (show d.natAbs ≤ 10 by omega)
  have e2 := t_power (μ := μ) (d := d) (m := a.length - 1) (by omega) (by omega)
  have ec : ((a.length - 1 : Nat) : Int) = (a.length : Int) - 1 := by omega
  rw [ec] at e2
  obtain ⟨p1, p2⟩ := pw_ok h0 hd (show a.length - 1 ≤ 9 by omega)
  have e3 := t_ratio (μ := μ) (a := (hrn n d a.reverse).1) p1 p2
  simp [f_value_by, b_value_by, runD, initR, e1, e2, e3, val]
theorem t_law_worth {μ : Mu} {a : List Int} {n d : Int} (hb : Bn 10000000 a) (la : a.length ≤ 10) (hn : n.natAbs ≤ 10000000) (h0 : 0 < d) (hd : d ≤ 10) : f_law_worth [.d (Rw' a), .d (.tuple [.int n, .int d])] μ = .ok (.d (val n d a)) μ := by
  have cu : cutL (Li a) (some 1) none = Li (a.drop 1) := by
    rw [cut_one]
    exact (List.map_drop ..).symm
  have main := for_run (it := iAny (eSl (eVar 0) (some (eK (.int 1))) none)) (xs := Li (a.drop 1)) (t := gNm 3) (b := sAsg (e2 gTimes (eVar 2) (e2 gIx (eVar 1) (eK (.int 1)))) (gNm 2)) (ρ := [some (.d (Rw' a)), some (.d (.tuple [.int n, .int d])), some (.d (.int 1)), none]) (μ := μ)
    (fun k ρ' μ' => μ' = μ ∧ k ≤ a.length ∧ ∃ o, ρ' = [some (.d (Rw' a)), some (.d (.tuple [.int n, .int d])), some (.d (.int (d ^ k))), o]) (by rw [← cu]; rfl) ⟨rfl, Nat.zero_le _, none, by rw [Int.pow_zero]⟩ (fun k x ρ' μ' hx ⟨e0, hk, o, e1⟩ => ?_)
  · obtain ⟨ρ', μ', e, rfl, _, o, rfl⟩ := main
    rw [Li_len, List.length_drop] at e
    have e1 := t_law_value (μ := μ') hb (by omega) hn (show d.natAbs ≤ 10 by omega)
    obtain ⟨p1, p2⟩ := pw_ok h0 hd (show a.length - 1 ≤ 9 by omega)
    have e3 := t_lean (μ := μ') (a := (hrn n d a.reverse).1) p1 p2
    simp [f_law_worth, b_law_worth, runD, initR]
    rw [e]
    simp [e1, e3, val]
  · subst e0 e1
    have hkl : k < a.length := by
      have := (List.getElem?_eq_some_iff.mp hx).1
      rw [Li_len, List.length_drop] at this
      omega
    have w := w_times (μ := μ') (pw_sml (show d.natAbs ≤ 10 by omega) (show k ≤ 20 by omega)) (sml_le (show d.natAbs ≤ 10000000 by omega))
    exact ⟨_, _, [some (.d (Rw' a)), some (.d (.tuple [.int n, .int d])), some (.d (.int (d ^ k * d))), some (.d x)], μ', rfl, by simp [w], rfl, hkl, _, by rw [Int.pow_succ]⟩
end LW
namespace LW
open PySem PySem.Spec TL
open L2 (atI ixN)
/-- not too long, not too deep -/
def okb (n : Nat) : Nat → PyData → Bool
  | 0, .tuple _ => false
  | 0, _ => true
  | d + 1, .tuple xs => decide (xs.length ≤ n) && xs.all (okb n d)
  | _ + 1, _ => true
theorem okb_tup {n d : Nat} {xs : List PyData} : okb n (d + 1) (.tuple xs) = true ↔ xs.length ≤ n ∧ ∀ y ∈ xs, okb n d y = true := by
  show (decide (xs.length ≤ n) && xs.all (okb n d)) = true ↔ _
  rw [Bool.and_eq_true, decide_eq_true_eq, List.all_eq_true]
theorem okb_other {n d : Nat} {x : PyData} (h : ∀ xs, x ≠ .tuple xs) : okb n d x = true := by
  cases d <;> cases x <;> first | rfl | exact (h _ rfl).elim
theorem okb_up {n n' : Nat} (hn : n ≤ n') : ∀ {d d' : Nat} {x : PyData}, d ≤ d' → okb n d x = true → okb n' d' x = true
  | 0, d', x, _, h => by
    cases x with
    | tuple xs => cases h
    | _ => exact okb_other fun _ h => by cases h
  | d + 1, 0, x, hd, _ => absurd hd (by omega)
  | d + 1, d' + 1, x, hd, h => by
    cases x with
    | tuple xs =>
      obtain ⟨h1, h2⟩ := okb_tup.mp h
      exact okb_tup.mpr ⟨by omega, fun y hy => okb_up hn (by omega) (h2 y hy)⟩
    | _ => exact okb_other fun _ h => by cases h
theorem t_whole {x : PyData} {μ : Mu} : f_is_whole [.d x] μ = .ok (.d (.bool (match x with | .int _ => true | _ => false))) μ := by
  cases x <;> simp [f_is_whole, b_is_whole, runD, initR, kinds, subTy, tyName]
def intB : PyData → Bool
  | .int _ => true
  | _ => false
def rowB : PyData → Bool
  | .tuple xs => xs.all intB && (match xs.getLast? with
    | some (.int i) => !(i == 0)
    | _ => true)
  | _ => false
theorem t_lwhole {x : PyData} {μ : Mu} : f_law_is_whole [.d x] μ = .ok (.d (.bool (intB x))) μ := by
  cases x <;> simp [f_law_is_whole, b_law_is_whole, runD, initR, kinds, subTy, tyName, intB]
theorem t_whole' {x : PyData} {μ : Mu} : f_is_whole [.d x] μ = .ok (.d (.bool (intB x))) μ := by
  rw [t_whole]
  cases x <;> rfl
theorem last_mem {xs : List PyData} {x : PyData} {r : List PyData} (e : xs = x :: r) : ∃ y, atI xs (-1) = some y ∧ y ∈ xs ∧ xs.getLast? = some y := by
  subst e
  exact ⟨_, at_last, List.getLast_mem _, List.getLast?_eq_getLast _⟩
theorem hit1 {μ : Mu} {xs : List PyData} {o : Option Wv} : iAny (eVar 0) [some (.d (.tuple xs)), o] μ = .ok ⟨xs, []⟩ μ := rfl
theorem t_mapall {μ : Mu} {xs : List PyData} {e : Ev} {p : PyData → Bool} (hl : xs.length ≤ 1000) (he : ∀ x ∈ xs, e [some (.d (.tuple xs)), some (.d x)] μ = .ok (.d (.bool (p x))) μ) :
    ∃ ms, lLc (iAny (eVar 0)) (gNm 1) bYes e [1] [some (.d (.tuple xs)), none] μ = .ok ms μ ∧ gAll [.d (.list ms)] μ = .ok (.d (.bool (xs.all p))) μ :=
  ⟨_, lc_map (g := fun x => .bool (p x)) hit1 (by omega) he, v_allm⟩
theorem len_ok {d : Nat} {xs : List PyData} (h : okb 1000 d (.tuple xs) = true) : xs.length ≤ 1000 := by
  cases d with
  | zero => cases h
  | succ d => exact (okb_tup.mp h).1
theorem t_rowed {x : PyData} {μ : Mu} {d : Nat} (h : okb 1000 d x = true) : f_is_rowed [.d x] μ = .ok (.d (.bool (rowB x))) μ := by
  by_cases hx : ∃ xs, x = .tuple xs
  · obtain ⟨xs, rfl⟩ := hx
    obtain ⟨ms, e1, e2⟩ := t_mapall (μ := μ) (p := intB) (e := cF 1 f_is_whole (aCons (eVar 1) aNil)) (len_ok h) fun x hx => by simp [t_whole']
    by_cases ha : xs.all intB = true
    · rw [ha] at e2
      cases hxs : xs with
      | nil =>
        subst hxs
        simp [f_is_rowed, b_is_rowed, runD, initR, kinds, subTy, tyName, e1, e2, rowB]
      | cons y r =>
        obtain ⟨z, e3, hz, e4⟩ := last_mem hxs
        have hi := List.all_eq_true.mp ha z hz
        rw [← hxs]
        have hne : xs.isEmpty = false := by rw [hxs]; rfl
        cases z with
        | int i => simp [f_is_rowed, b_is_rowed, runD, initR, kinds, subTy, tyName, e1, e2, rowB, ha, e3, e4, hne]
        | _ => cases hi
    · rw [Bool.not_eq_true] at ha
      rw [ha] at e2
      simp [f_is_rowed, b_is_rowed, runD, initR, kinds, subTy, tyName, e1, e2, rowB, ha]
  · have hr : rowB x = false := by
      cases x <;> first | rfl | exact (hx ⟨_, rfl⟩).elim
    rw [hr]
    cases x <;> first | exact (hx ⟨_, rfl⟩).elim | simp [f_is_rowed, b_is_rowed, runD, initR, kinds, subTy, tyName]
theorem t_law_row {x : PyData} {μ : Mu} {d : Nat} (h : okb 1000 d x = true) : f_law_is_row [.d x] μ = .ok (.d (.bool (rowB x))) μ := by
  by_cases hx : ∃ xs, x = .tuple xs
  · obtain ⟨xs, rfl⟩ := hx
    obtain ⟨ms, e1, e2⟩ := t_mapall (μ := μ) (p := intB) (e := cF 1 f_law_is_whole (aCons (eVar 1) aNil)) (len_ok h) fun x hx => by simp [t_lwhole]
    by_cases ha : xs.all intB = true
    · rw [ha] at e2
      cases hxs : xs with
      | nil =>
        subst hxs
        simp [f_law_is_row, b_law_is_row, runD, initR, kinds, subTy, tyName, e1, e2, rowB]
      | cons y r =>
        obtain ⟨z, e3, hz, e4⟩ := last_mem hxs
        have hi := List.all_eq_true.mp ha z hz
        rw [← hxs]
        have hne : xs.isEmpty = false := by rw [hxs]; rfl
        cases z with
        | int i => simp [f_law_is_row, b_law_is_row, runD, initR, kinds, subTy, tyName, e1, e2, rowB, ha, e3, e4, hne]
        | _ => cases hi
    · rw [Bool.not_eq_true] at ha
      rw [ha] at e2
      simp [f_law_is_row, b_law_is_row, runD, initR, kinds, subTy, tyName, e1, e2, rowB, ha]
  · have hr : rowB x = false := by
      cases x <;> first | rfl | exact (hx ⟨_, rfl⟩).elim
    rw [hr]
    cases x <;> first | exact (hx ⟨_, rfl⟩).elim | simp [f_law_is_row, b_law_is_row, runD, initR, kinds, subTy, tyName]
theorem okb_row {a : List Int} (h : a.length ≤ 1000) : okb 1000 1 (Rw' a) = true := okb_tup.mpr ⟨by rw [Li_len]; exact h, fun y hy => by
  obtain ⟨x, _, rfl⟩ := Li_mem hy
  rfl⟩
theorem rowB_row {a : List Int} (h : trim a = a) : rowB (Rw' a) = true := by
  have h1 : (Li a).all intB = true := List.all_eq_true.mpr fun y hy => by
    obtain ⟨x, _, rfl⟩ := Li_mem hy
    rfl
  show ((Li a).all intB && _) = true
  rw [h1]
  by_cases hne : a = []
  · rw [hne]
    rfl
  · obtain ⟨z, l, rfl, hz⟩ := last_of h hne
    rw [Li_app]
    simp [hz]
theorem t_is_row {x : PyData} {μ : Mu} {d : Nat} (h : okb 1000 d x = true) : f_is_row [.d x] μ = .ok (.d (.bool (rowB x))) μ := by
  simp [f_is_row, b_is_row, runD, initR, t_rowed h]
theorem t_check_row {μ : Mu} {a : List Int} (h : trim a = a) (hl : a.length ≤ 1000) : f_check_row [.d (Rw' a)] μ = .ok (.d .none) μ := by
  have e := t_rowed (μ := μ) (okb_row hl)
  rw [rowB_row h] at e
  simp [f_check_row, b_check_row, runD, initR, e]
theorem t_check_both {μ : Mu} {a b : List Int} (h : trim a = a) (hl : a.length ≤ 1000) (h2 : trim b = b) (hl2 : b.length ≤ 1000) : f_check_both [.d (Rw' a), .d (Rw' b)] μ = .ok (.d .none) μ := by
  simp [f_check_both, b_check_both, runD, initR, t_check_row h hl, t_check_row h2 hl2]
theorem t_plus {μ : Mu} {a b : List Int} (h : trim a = a) (hl : a.length ≤ 500) (h2 : trim b = b) (hl2 : b.length ≤ 500) : f_plus [.d (Rw' a), .d (Rw' b)] μ = .ok (.d (Rw' (trim (addP a b)))) μ := by
  simp [f_plus, b_plus, runD, initR, t_check_both h (show a.length ≤ 1000 by omega) h2 (show b.length ≤ 1000 by omega), t_sum_by (show a.length ≤ 1000 by omega) (show b.length ≤ 1000 by omega)]
theorem t_times {μ : Mu} {a b : List Int} (h : trim a = a) (hl : a.length ≤ 500) (h2 : trim b = b) (hl2 : b.length ≤ 500) (ha : Sm a) (hb : Sm b) : f_times [.d (Rw' a), .d (Rw' b)] μ = .ok (.d (Rw' (mulP a b))) μ := by
  simp [f_times, b_times, runD, initR, t_check_both h (show a.length ≤ 1000 by omega) h2 (show b.length ≤ 1000 by omega), t_product_by ha hb hl hl2]
theorem t_less {μ : Mu} {a b : List Int} (h : trim a = a) (hl : a.length ≤ 500) (h2 : trim b = b) (hl2 : b.length ≤ 500) (hb : Bd 100000000000000000 b) : f_less [.d (Rw' a), .d (Rw' b)] μ = .ok (.d (Rw' (trim (addP a (trim (b.map (-1 * ·))))))) μ := by
  have e1 := t_scaled (μ := μ) (k := -1) (show b.length ≤ 1000 by omega) (by omega) hb
  have e2 := t_sum_by (μ := μ) (a := a) (b := trim (b.map (-1 * ·))) (by omega) (Nat.le_trans (trim_len _) (by rw [List.length_map]; omega))
  generalize trim (b.map (-1 * ·)) = c at e1 e2 ⊢
  simp [f_less, b_less, f_gap_by, b_gap_by, runD, initR, t_check_both h (show a.length ≤ 1000 by omega) h2 (show b.length ≤ 1000 by omega), e1, e2]
theorem t_derivative {μ : Mu} {a : List Int} (h : trim a = a) (hl : a.length ≤ 500) (ha : Sm a) : f_derivative [.d (Rw' a)] μ = .ok (.d (Rw' (slope a))) μ := by
  simp [f_derivative, b_derivative, runD, initR, t_check_row h (show a.length ≤ 1000 by omega), t_slope_of ha hl h]
theorem t_prime_part {μ : Mu} {a : List Int} (h : trim a = a) (hl : a.length ≤ 500) (hb : Bn 10000000 a) : f_prime_part [.d (Rw' a)] μ = .ok (.d (Rw' (prm a))) μ := by
  simp [f_prime_part, b_prime_part, runD, initR, t_check_row h (show a.length ≤ 1000 by omega), t_prime_by h hb (show a.length ≤ 1000 by omega)]
theorem t_put_in {μ : Mu} {a b : List Int} (h : trim a = a) (hl : a.length ≤ 20) (h2 : trim b = b) (hl2 : b.length ≤ 10) (ha : Bn 10000000 a) (hb : Bn 10000000 b) : f_put_in [.d (Rw' a), .d (Rw' b)] μ = .ok (.d (Rw' (putL b a.reverse))) μ := by
  simp [f_put_in, b_put_in, runD, initR, t_check_both h (show a.length ≤ 1000 by omega) h2 (show b.length ≤ 1000 by omega), t_put_by ha hb hl hl2]
end LW
namespace LW
open PySem PySem.Spec TL
open L2 (atI ixN)
/-- a fraction as the law draws them -/
def Fr (x : PyData) : Prop := ∃ n d : Int, x = .tuple [.int n, .int d] ∧ n.natAbs ≤ 10000000 ∧ 0 < d ∧ d ≤ 10 ∧ Nat.gcd n.natAbs d.natAbs = 1
theorem lean_fr {a b : Int} (ha : a.natAbs ≤ 10000000) (h0 : 0 < b) (hb : b ≤ 10) : Fr (lean a b) := by
  have hg : 0 < Nat.gcd a.natAbs b.natAbs := Nat.gcd_pos_of_pos_right _ (by omega)
  obtain ⟨q, hq⟩ : ((Nat.gcd a.natAbs b.natAbs : Nat) : Int) ∣ a := Int.ofNat_dvd_left.mpr (Nat.gcd_dvd_left _ _)
  obtain ⟨r, hr⟩ : ((Nat.gcd a.natAbs b.natAbs : Nat) : Int) ∣ b := Int.ofNat_dvd_left.mpr (Nat.gcd_dvd_right _ _)
  have key : Nat.gcd a.natAbs b.natAbs = Nat.gcd a.natAbs b.natAbs * Nat.gcd q.natAbs r.natAbs := by
    have e1 : a.natAbs = Nat.gcd a.natAbs b.natAbs * q.natAbs := by
      have := congrArg Int.natAbs hq
      rwa [Int.natAbs_mul, Int.natAbs_natCast] at this
    have e2 : b.natAbs = Nat.gcd a.natAbs b.natAbs * r.natAbs := by
      have := congrArg Int.natAbs hr
      rwa [Int.natAbs_mul, Int.natAbs_natCast] at this
    have := Nat.gcd_mul_left (Nat.gcd a.natAbs b.natAbs) q.natAbs r.natAbs
    rw [← e1, ← e2] at this
    exact this
  unfold lean
  rw [if_pos h0]
  generalize Nat.gcd a.natAbs b.natAbs = g at *
  have hg' : (g : Int) ≠ 0 := by omega
  have d1 : a / (g : Int) = q := by rw [hq]; exact Int.mul_ediv_cancel_left q hg'
  have d2 : b / (g : Int) = r := by rw [hr]; exact Int.mul_ediv_cancel_left r hg'
  rw [d1, d2]
  have g1 : Nat.gcd q.natAbs r.natAbs = 1 := by
    have : g * 1 = g * Nat.gcd q.natAbs r.natAbs := by rw [Nat.mul_one]; exact key
    exact (Nat.eq_of_mul_eq_mul_left hg this).symm
  have hr0 : 0 < r := by
    rcases Int.lt_trichotomy r 0 with h | h | h
    · have : (g : Int) * r < 0 := Int.mul_neg_of_pos_of_neg (by omega) h
      omega
    · rw [h] at hr
      simp at hr
      omega
    · exact h
  have hrb : r ≤ b := by
    have : (1 : Int) * r ≤ (g : Int) * r := Int.mul_le_mul_of_nonneg_right (by omega) (by omega)
    omega
  have hqb : q.natAbs ≤ a.natAbs := by
    have := congrArg Int.natAbs hq
    rw [Int.natAbs_mul, Int.natAbs_natCast] at this
    rw [this]
    exact Nat.le_mul_of_pos_left _ hg
  exact ⟨q, r, rfl, by omega, hr0, by omega, g1⟩
theorem t_check_fraction {μ : Mu} {x : PyData} (h : Fr x) : f_check_fraction [.d x] μ = .ok (.d .none) μ := by
  obtain ⟨n, d, rfl, _, h0, _, hg⟩ := h
  have lc : lLc (iAny (eVar 0)) (gNm 2) bYes (cF 1 f_is_whole (aCons (eVar 2) aNil)) [2] [some (.d (.tuple [.int n, .int d])), some (.d (.int 2)), none] μ = .ok [.bool true, .bool true] μ := by
    have := lc_map (g := fun x => .bool (intB x)) (i := 2) (e := cF 1 f_is_whole (aCons (eVar 2) aNil)) (ρ := [some (.d (.tuple [.int n, .int d])), some (.d (.int 2)), none]) (it := iAny (eVar 0)) (xs := [.int n, .int d]) (μ := μ) (μ1 := μ) rfl (by simp) fun x hx => by simp [t_whole']
    rw [this]
    rfl
  have ga : gAll [.d (.list [.bool true, .bool true])] μ = .ok (.d (.bool true)) μ := rfl
  have aw : f_are_wholes [.d (.tuple [.int n, .int d]), .d (.int 2)] μ = .ok (.d (.bool true)) μ := by
    simp [f_are_wholes, b_are_wholes, runD, initR, kinds, subTy, tyName, lc, ga]
  have g2 : gGcd [.d (.int n), .d (.int d)] μ = .ok (.d (.int 1)) μ := by
    rw [t_gcd, hg]
    rfl
  have ir : f_is_ratio [.d (.tuple [.int n, .int d])] μ = .ok (.d (.bool true)) μ := by
    simp [f_is_ratio, b_is_ratio, runD, initR, aw, h0, g2]
  simp [f_check_fraction, b_check_fraction, runD, initR, ir]
theorem t_value_at {μ : Mu} {a : List Int} {n d : Int} (ht : trim a = a) (hb : Bn 10000000 a) (la : a.length ≤ 10) (hf : Fr (.tuple [.int n, .int d])) : f_value_at [.d (Rw' a), .d (.tuple [.int n, .int d])] μ = .ok (.d (val n d a)) μ := by
  have c1 := t_check_row (μ := μ) ht (show a.length ≤ 1000 by omega)
  have c2 := t_check_fraction (μ := μ) hf
  obtain ⟨n', d', e, hn, h0, hd, _⟩ := hf
  cases e
  by_cases hne : a = []
  · subst hne
    have e0 : (Li ([] : List Int)).isEmpty = true := rfl
    simp [f_value_at, b_value_at, runD, initR, c1, c2, e0]
    show _ = lean 0 (d ^ 0)
    rw [Int.pow_zero]
    rfl
  · have e0 : (Li a).isEmpty = false := by
      rw [Li_empty]
      cases a with
      | nil => exact absurd rfl hne
      | cons x xs => rfl
    have v := t_value_by (μ := μ) hb la hne hn h0 hd
    simp [f_value_at, b_value_at, runD, initR, c1, c2, e0, v]
theorem t_small_draw {μ : Mu} {k m : Nat} {c : Cell} (h : μ[k]? = some (some c)) (w : Wl m c) (hm : m < 900000000) :
    ∃ r c', f_law_small [.r k] μ = .ok (.d (.int r)) (μ.set k (some c')) ∧ Wl (m + 2) c' ∧ r.natAbs ≤ 1000000 := by
  obtain ⟨r, c1, e1, r0, r1, w1⟩ := t_draw (many := 12) h w (by omega) (by omega) (by omega)
  have h1 : (μ.set k (some c1))[k]? = some (some c1) := get_set h
  by_cases hr : r < 9
  · obtain ⟨r2, c2, e2, a0, a1, w2⟩ := t_draw (many := 9) h1 w1 (by omega) (by omega) (by omega)
    exact ⟨r2 - 4, c2, by simp [f_law_small, b_law_small, runD, initR, e1, e2, hr], w2, by omega⟩
  · by_cases hr2 : r < 11
    · obtain ⟨r2, c2, e2, a0, a1, w2⟩ := t_draw (many := 61) h1 w1 (by omega) (by omega) (by omega)
      exact ⟨r2 - 30, c2, by simp [f_law_small, b_law_small, runD, initR, e1, e2, hr, hr2], w2, by omega⟩
    · obtain ⟨r2, c2, e2, a0, a1, w2⟩ := t_draw (many := 2000001) h1 w1 (by omega) (by omega) (by omega)
      exact ⟨r2 - 1000000, c2, by simp [f_law_small, b_law_small, runD, initR, e1, e2, hr, hr2], w2, by omega⟩
theorem t_part {μ : Mu} {k m : Nat} {c : Cell} (h : μ[k]? = some (some c)) (w : Wl m c) (hm : m < 800000000) :
    ∃ x c', f_law_part [.r k] μ = .ok (.d x) (μ.set k (some c')) ∧ Wl (m + 3) c' ∧ Fr x := by
  obtain ⟨r, c1, e1, w1, hr⟩ := t_small_draw h w (by omega)
  have h1 : (μ.set k (some c1))[k]? = some (some c1) := get_set h
  obtain ⟨x, c2, e2, w2, hx⟩ := t_pick (xs := [.int 1, .int 1, .int 1, .int 2, .int 3, .int 1, .int 4, .int 7]) h1 w1 (by omega) (by simp) (by simp)
  have hd : ∃ d : Int, x = .int d ∧ 0 < d ∧ d ≤ 7 := by
    simp only [List.mem_cons, List.not_mem_nil, or_false] at hx
    rcases hx with rfl | rfl | rfl | rfl | rfl | rfl | rfl | rfl <;> exact ⟨_, rfl, by omega, by omega⟩
  obtain ⟨d, rfl, d0, d7⟩ := hd
  rw [List.set_set] at e2
  have e3 := t_lean (μ := μ.set k (some c2)) (a := r) (b := d) d0 (by omega)
  exact ⟨lean r d, c2, by simp [f_law_part, b_law_part, runD, initR, e1, e2, e3], w2, lean_fr (by omega) d0 (by omega)⟩
end LW
namespace LW
open PySem PySem.Spec TL
open L2 (atI ixN)
/-- a list filled from the well -/
theorem fillG {μ : Mu} {k d m j : Nat} {mk : Option Wv → Rho} {it : TL.Iv} {t : Gv} {b : Sv} {R : PyData → Prop} {c : Cell} {μ1 : Mu} {o0 : Option Wv} (hj : j ≤ 1000) (hit : it (mk o0) μ1 = .ok ⟨intL 0 j 1, []⟩ (μ.set k (some c) ++ [some []])) (w : Wl m c)
    (ht : ∀ w o μ, t w (mk o) μ = .ok (mk (some w)) μ)
    (hb : ∀ o c n l, n ≤ 1000 → Wl (m + n * d) c → l.length = n → ∃ y c', b (mk o) (μ.set k (some c) ++ [some l]) = .ok (.nx (mk o)) (μ.set k (some c') ++ [some (l ++ [y])]) ∧ Wl (m + n * d + d) c' ∧ R y) :
    ∃ o c' l, sFor it t b (mk o0) μ1 = .ok (.nx (mk o)) (μ.set k (some c') ++ [some l]) ∧ Wl (m + j * d) c' ∧ l.length = j ∧ ∀ y ∈ l, R y := by
  have main := for_run (t := t) (b := b) (fun n ρ' μ' => n ≤ j ∧ ∃ o c' l, ρ' = mk o ∧ μ' = μ.set k (some c') ++ [some l] ∧ Wl (m + n * d) c' ∧ l.length = n ∧ ∀ y ∈ l, R y) hit
    ⟨Nat.zero_le _, o0, c, [], rfl, rfl, by simpa using w, rfl, fun y hy => by cases hy⟩ (fun n x ρ' μ' hx ⟨hn, o, c', l, e1, e2, w', hl, hr⟩ => ?_)
  · obtain ⟨ρ', μ', e, hn, o, c', l, rfl, rfl, w', hl, hr⟩ := main
    rw [intL_len] at hl w'
    exact ⟨o, c', l, e, w', hl, hr⟩
  · subst e1 e2
    have hn2 : n < j := by
      have := (List.getElem?_eq_some_iff.mp hx).1
      rwa [intL_len] at this
    obtain ⟨y, c2, eb, w2, r2⟩ := hb (some (.d x)) c' n l (by omega) w' hl
    refine ⟨_, _, _, _, ht (.d x) o _, eb, hn2, some (.d x), c2, l ++ [y], rfl, rfl, ?_, by rw [List.length_append, hl]; rfl, fun z hz => ?_⟩
    · rw [Nat.succ_mul, ← Nat.add_assoc]
      exact w2
    · rcases List.mem_append.mp hz with hz | hz
      · exact hr z hz
      · simp at hz
        rw [hz]
        exact r2
def Sd (x : PyData) : Prop := ∃ i : Int, x = .int i ∧ i.natAbs ≤ 1000000
theorem sd_list : ∀ {l : Cell}, (∀ y ∈ l, Sd y) → ∃ xs, l = Li xs ∧ Bn 1000000 xs
  | [], _ => ⟨[], rfl, fun x hx => by cases hx⟩
  | y :: l, h => by
    obtain ⟨i, rfl, hi⟩ := h y List.mem_cons_self
    obtain ⟨xs, rfl, hx⟩ := sd_list (l := l) fun z hz => h z (List.mem_cons_of_mem _ hz)
    exact ⟨i :: xs, rfl, fun x hm => by
      rcases List.mem_cons.mp hm with rfl | hm
      · exact hi
      · exact hx x hm⟩
theorem trim_idem : ∀ xs : List Int, trim (trim xs) = trim xs := by
  intro xs
  rcases List.eq_nil_or_concat (trim xs) with h | ⟨l, z, h⟩
  · rw [h]
    rfl
  · rw [List.concat_eq_append] at h
    rw [h]
    by_cases hz : z = 0
    · exfalso
      subst hz
      have gen : ∀ (xs l : List Int), trim xs ≠ l ++ [0] := by
        intro xs
        induction xs with
        | nil =>
          intro l e
          have := congrArg List.length e
          simp [trim] at this
        | cons x xs ih =>
          intro l e
          unfold trim at e
          split at e
          · split at e
            · have := congrArg List.length e
              simp at this
            · rename_i hx
              cases l with
              | nil => exact hx (List.cons.inj e).1
              | cons a l =>
                have := congrArg List.length e
                simp at this
          · rename_i y ys ey
            cases l with
            | nil =>
              have := congrArg List.length e
              simp at this
            | cons a l => exact ih l (by rw [ey]; exact (List.cons.inj e).2)
      exact gen xs l h
    · exact trim_last _ _ hz
/-- a row as the law draws them -/
def Rd' (n B : Nat) (x : PyData) : Prop := ∃ a : List Int, x = Rw' a ∧ trim a = a ∧ a.length ≤ n ∧ Bn B a
theorem t_line {μ : Mu} {k m : Nat} {few : Int} {c : Cell} (h : μ[k]? = some (some c)) (w : Wl m c) (h0 : 0 ≤ few) (h9 : few ≤ 9) (hm : m < 800000000) :
    ∃ x c', f_law_line [.r k, .d (.int few)] μ = .ok (.d x) (μ.set k (some c')) ∧ Wl (m + 3000) c' ∧ Rd' few.toNat 1000000 x := by
  have hk := lt_of_get h
  have h' : (μ ++ [some []])[k]? = some (some c) := app_get h
  obtain ⟨j, c1, e1, j0, j1, w1⟩ := t_draw (many := few + 1) h' w (by omega) (by omega) (by omega)
  rw [app_set hk] at e1
  have main := fillG (μ := μ) (k := k) (d := 2) (m := m + 1) (j := j.toNat) (mk := fun o => [some (.r k), some (.d (.int few)), some (.r μ.length), o]) (t := gNm 3) (b := sExpr (eMeth1 gApp (eVar 2) (aCons (cF 1 f_law_small (aCons (eVar 0) aNil)) aNil))) (R := Sd) (μ1 := μ ++ [some []]) (o0 := none)
    (it := iR1 (aCons (cF 2 f_law_draw (aCons (eVar 0) (aCons (e2 gPlus (eVar 1) (eK (.int 1))) aNil))) aNil)) (by omega) (it_r1 (j := j) (by simp [e1]) (by omega) (by omega)) w1 (fun w o μ => rfl) (fun o c n l hn w hl => ?_)
  · obtain ⟨o, c2, l, e2, w2, hl, hr⟩ := main
    obtain ⟨xs, rfl, hb⟩ := sd_list hr
    have tr := t_law_trim (μ := μ.set k (some c2) ++ [some (Li xs)]) (w := .r μ.length) (xs := xs) (.inl (x_dr get_last))
    refine ⟨Rw' (trim xs), c2, ?_, w2.up (by omega), trim xs, rfl, trim_idem xs, ?_, hb.trim⟩
    · simp [f_law_line, b_law_line, runD, initR]
      rw [e2]
      simp [tr]
    · have := trim_len xs
      rw [Li_len] at hl
      omega
  · have g1 : (μ.set k (some c) ++ [some l])[k]? = some (some c) := app_get (get_set h)
    have hd : n * 2 ≤ 2000 := by omega
    obtain ⟨y, c3, e3, w3, r3⟩ := t_small_draw g1 w (by omega)
    rw [app_set (by rw [List.length_set]; exact hk), List.set_set] at e3
    have lv : live (.r μ.length) (μ.set k (some c) ++ [some l]) = true := live_r get_last
    refine ⟨.int y, c3, ?_, w3, y, rfl, r3⟩
    simp [x_meth, lv, e3, v_app (k := μ.length) (μ := μ.set k (some c3) ++ [some l]) get_last (by omega)]
end LW
namespace LW
open PySem PySem.Spec TL
open L2 (atI ixN)
def menu : List PyData := [.none, .bool true, .bool false, .int 0, .int 1, .int (-1), .int 3, .int 10000000000000000000000000, .str "", .str "x", .str "below", .tuple [], .tuple [.int 0], .tuple [.int 1], .tuple [.int 0, .int 1], .tuple [.int 1, .int 1], .tuple [.int 2, .int 2], .tuple [.int 0, .int 3], .tuple [.int 1, .int 0], .tuple [.int 3, .int (-2)], .tuple [.bool true, .int 1], .tuple [.int 0, .bool true], .tuple [.int 1, .int 1, .int 1], .tuple [.int 0, .int 0, .int 1], .tuple [.tuple []], .tuple [.tuple [.int 0, .int 1]], .tuple [.tuple [.int 0, .int 1], .tuple [.int 0, .int 1]], .tuple [.tuple [.int 1], .tuple [.int 0, .int 1]], .list [], .list [.int 0, .int 1], .list [.tuple [.int 0, .int 1]], .dict [], .tuple [.none, .int 1], .tuple [.str "0", .int 1], .tuple [.tuple [.int (-2), .int 0, .int 1], .int 1], .tuple [.tuple [.int (-2), .int 0, .int 1], .int 2], .tuple [.tuple [.int (-2), .int 0, .int 1], .bool true], .tuple [.tuple [.int (-2), .int 0, .int 1], .int (-1)], .tuple [.tuple [.int 2, .int 0, .int (-1)], .int 0], .tuple [.tuple [.int (-4), .int 0, .int 2], .int 1], .tuple [.tuple [.int (-1), .int 0, .int 1], .int 0], .tuple [.tuple [.int 4, .int 0, .int (-4), .int 0, .int 1], .int 1], .tuple [.tuple [], .tuple [.bool true]], .tuple [.tuple [], .tuple [.int 1]], .tuple [.tuple [.tuple [.int 0, .int 1]], .tuple [.bool true, .bool true, .bool true]], .tuple [.str "true"], .str "not at", .tuple [.int 1, .int 2], .tuple [.tuple [.tuple [.int 0, .int 1]], .tuple [.bool false, .bool true, .bool true]], .tuple [.str "below", .tuple [.tuple [.int 0, .int 1]]], .tuple [.list [.int 0, .int 1], .int 1], .tuple [.tuple [.int 0, .int 1], .tuple []]]
theorem t_odd {μ : Mu} {k m : Nat} {c : Cell} (h : μ[k]? = some (some c)) (w : Wl m c) (hm : m < 900000000) :
    ∃ x c', f_law_odd [.r k] μ = .ok (.d x) (μ.set k (some c')) ∧ Wl (m + 1) c' ∧ okb 1000 4 x = true := by
  obtain ⟨x, c', e, w', hx⟩ := t_pick (xs := menu) h w hm (by decide) (by decide)
  refine ⟨x, c', ?_, w', ?_⟩
  · unfold menu at e
    simp [f_law_odd, b_law_odd, runD, initR, e]
  · have : menu.all (okb 1000 4) = true := by decide
    exact List.all_eq_true.mp this x hx
noncomputable def R_bent : Sv :=
  (sSeq (sAsg (cF 2 f_law_draw (aCons (eVar 0) (aCons (eK (.int 9)) aNil))) (gNm 2))
    (sSeq (sIf (bAnd (tB' (e1 (gIsi "tuple") (eVar 1))) (tB' (e2 (gCmp fun i j => decide (i < j)) (eVar 2) (eK (.int 6))))) (sRet (e2 gIx (eTup (aCons (eFrz (lList (aCons (eVar 1) aNil))) (aCons (eSl (eVar 1) none (some (e1 gNeg (eK (.int 1))))) (aCons (e2 gPlus (eVar 1) (eSl (eVar 1) (some (e1 gNeg (eK (.int 1)))) none)) (aCons (e1 gRev (eVar 1)) (aCons (eSl (eVar 1) (some (eK (.int 1))) none) (aCons (e2 gPlus (eSl (eVar 1) none (some (eK (.int 1)))) (eVar 1)) aNil))))))) (eVar 2))) sNext)
    (sSeq (sIf (bAnd (tB' (e1 (gIsi "int") (eVar 1))) (tB' (e2 (gCmp fun i j => decide (i < j)) (eVar 2) (eK (.int 5))))) (sRet (e2 gIx (eTup (aCons (e2 gPlus (eVar 1) (eK (.int 1))) (aCons (e2 gSub (eK (.int 0)) (eVar 1)) (aCons (e2 gTimes (eK (.int 2)) (eVar 1)) (aCons (e2 gSub (eVar 1) (eK (.int 2))) (aCons (e2 (gEq false) (eVar 1) (eK (.int 1))) aNil)))))) (eVar 2))) sNext)
    (sRet (cF 1 f_law_odd (aCons (eVar 0) aNil))))))
noncomputable def A_bent (rec : GF) : Sv :=
  (sIf (bAnd (tB' (e1 (gIsi "tuple") (eVar 1))) (bAnd (tB' (e2 (gEq true) (eVar 1) (eTup aNil))) (tB' (e2 (gCmp fun i j => decide (j < i)) (cF 2 f_law_draw (aCons (eVar 0) (aCons (eK (.int 4)) aNil))) (eK (.int 0)))))) (sSeq (sAsg (cF 2 f_law_draw (aCons (eVar 0) (aCons (en gLen (aCons (eVar 1) aNil)) aNil))) (gNm 3))
    (sRet (e2 gPlus (e2 gPlus (eSl (eVar 1) none (some (eVar 3))) (eTup (aCons (cF 2 rec (aCons (eVar 0) (aCons (e2 gIx (eVar 1) (eVar 3)) aNil))) aNil))) (eSl (eVar 1) (some (e2 gPlus (eVar 3) (eK (.int 1)))) none)))) sNext)
theorem bent_is (rec : GF) : b_law_bent rec = sSeq (A_bent rec) R_bent := rfl
def L5 (i : Int) : List PyData := [.int (i + 1), .int (0 - i), .int (2 * i), .int (i - 2), .bool (i == 1)]
theorem ok5 {i : Int} : ∀ y ∈ L5 i, okb 1000 4 y = true := by
  intro y hy
  unfold L5 at hy
  simp only [List.mem_cons, List.not_mem_nil, or_false] at hy
  rcases hy with rfl | rfl | rfl | rfl | rfl <;> rfl
theorem t_tail_int {k m : Nat} {μ : Mu} {c : Cell} {i : Int} (h : μ[k]? = some (some c)) (w : Wl m c) (hm : m < 800000000) (hi : Sml i) :
    ∃ y c', R_bent [some (.r k), some (.d (.int i)), none, none] μ = .ok (.rt (.d y)) (μ.set k (some c')) ∧ Wl (m + 2) c' ∧ okb 1000 4 y = true := by
  obtain ⟨r, c1, e1, r0, r1, w1⟩ := t_draw (many := 9) h w (by omega) (by omega) (by omega)
  have h1 : (μ.set k (some c1))[k]? = some (some c1) := get_set h
  obtain ⟨z, c2, e2, w2, hz⟩ := t_odd h1 w1 (by omega)
  have w2t := w_times (μ := μ.set k (some c1)) (i := 2) (j := i) (sml_le (by decide)) hi
  by_cases hr : r < 5
  · obtain ⟨y, e3, hy⟩ := at_nat (xs := L5 i) r0 (by unfold L5; simpa using hr)
    refine ⟨y, c1, ?_, w1.up (by omega), ok5 y hy⟩
    unfold L5 at e3
    simp at e3
    simp [R_bent, e1, kinds, subTy, tyName, hr, w2t, e3]
  · exact ⟨z, c2, by simp [R_bent, e1, e2, kinds, subTy, tyName, hr], w2, hz⟩
theorem t_bent_int {k m f : Nat} {μ : Mu} {c : Cell} {i : Int} (h : μ[k]? = some (some c)) (w : Wl m c) (hm : m < 800000000) (hi : Sml i) :
    ∃ y c', f_law_bent (f + 1) [.r k, .d (.int i)] μ = .ok (.d y) (μ.set k (some c')) ∧ Wl (m + 2) c' ∧ okb 1000 4 y = true := by
  obtain ⟨y, c2, e2, w2, hy⟩ := t_tail_int h w hm hi
  exact ⟨y, c2, by simp [f_law_bent, bent_is, A_bent, runD, initR, kinds, subTy, tyName, e2], w2, hy⟩
def L6 (xs : List PyData) : List PyData := [.list xs, .tuple (cutL xs none (some (-1))), .tuple (xs ++ cutL xs (some (-1)) none), .tuple xs.reverse, .tuple (cutL xs (some 1) none), .tuple (cutL xs none (some 1) ++ xs)]
theorem ok6 {xs : List PyData} (hl : xs.length ≤ 400) (h : ∀ y ∈ xs, okb 1000 4 y = true) : ∀ y ∈ L6 xs, okb 1000 5 y = true := by
  intro y hy
  unfold L6 at hy
  simp only [List.mem_cons, List.not_mem_nil, or_false] at hy
  rcases hy with rfl | rfl | rfl | rfl | rfl | rfl
  · rfl
  · exact okb_tup.mpr ⟨by have := (cut_in (xs := xs) (lo := none) (hi := some (-1))).1; omega, fun z hz => h z (cut_in.2 z hz)⟩
  · refine okb_tup.mpr ⟨by have := (cut_in (xs := xs) (lo := some (-1)) (hi := none)).1; rw [List.length_append]; omega, fun z hz => ?_⟩
    rcases List.mem_append.mp hz with hz | hz
    · exact h z hz
    · exact h z (cut_in.2 z hz)
  · exact okb_tup.mpr ⟨by rw [List.length_reverse]; omega, fun z hz => h z (List.mem_reverse.mp hz)⟩
  · exact okb_tup.mpr ⟨by have := (cut_in (xs := xs) (lo := some 1) (hi := none)).1; omega, fun z hz => h z (cut_in.2 z hz)⟩
  · refine okb_tup.mpr ⟨by have := (cut_in (xs := xs) (lo := none) (hi := some 1)).1; rw [List.length_append]; omega, fun z hz => ?_⟩
    rcases List.mem_append.mp hz with hz | hz
    · exact h z (cut_in.2 z hz)
    · exact h z hz
theorem ints_ok {a : List Int} : ∀ y ∈ Li a, okb 1000 4 y = true := fun y hy => by
  obtain ⟨x, _, rfl⟩ := Li_mem hy
  rfl
theorem t_tail_row {k m : Nat} {μ : Mu} {c : Cell} {a : List Int} (h : μ[k]? = some (some c)) (w : Wl m c) (hm : m < 800000000) (la : a.length ≤ 400) :
    ∃ y c', R_bent [some (.r k), some (.d (Rw' a)), none, none] μ = .ok (.rt (.d y)) (μ.set k (some c')) ∧ Wl (m + 2) c' ∧ okb 1000 5 y = true := by
  obtain ⟨r, c1, e1, r0, r1, w1⟩ := t_draw (many := 9) h w (by omega) (by omega) (by omega)
  have h1 : (μ.set k (some c1))[k]? = some (some c1) := get_set h
  obtain ⟨z, c2, e2, w2, hz⟩ := t_odd h1 w1 (by omega)
  by_cases hr : r < 6
  · obtain ⟨y, e3, hy⟩ := at_nat (xs := L6 (Li a)) r0 (by unfold L6; simpa using hr)
    have g1 : a.length + (cutL (Li a) (some (-1)) none).length ≤ 16777216 := by
      have := (cut_in (xs := Li a) (lo := some (-1)) (hi := none)).1
      rw [Li_len] at this
      omega
    have g2 : (cutL (Li a) none (some 1)).length + a.length ≤ 16777216 := by
      have := (cut_in (xs := Li a) (lo := none) (hi := some 1)).1
      rw [Li_len] at this
      omega
    refine ⟨y, c1, ?_, w1.up (by omega), ok6 (by rw [Li_len]; exact la) ints_ok y hy⟩
    unfold L6 at e3
    simp [R_bent, e1, kinds, subTy, tyName, hr, g1, g2, e3]
  · exact ⟨z, c2, by simp [R_bent, e1, e2, kinds, subTy, tyName, hr], w2, okb_up (by omega) (by omega) hz⟩
theorem t_bent_row {k m f : Nat} {μ : Mu} {c : Cell} {a : List Int} (h : μ[k]? = some (some c)) (w : Wl m c) (hm : m < 700000000) (la : a.length ≤ 400) (ha : Sm a) :
    ∃ y c', f_law_bent (f + 2) [.r k, .d (Rw' a)] μ = .ok (.d y) (μ.set k (some c')) ∧ Wl (m + 10) c' ∧ okb 1000 5 y = true := by
  by_cases hne : a = []
  · subst hne
    obtain ⟨y, c2, e2, w2, hy⟩ := t_tail_row h w (by omega) la
    have e0 : (Li ([] : List Int)).isEmpty = true := rfl
    exact ⟨y, c2, by simp [f_law_bent, bent_is, A_bent, runD, initR, kinds, subTy, tyName, e0, e2], w2.up (by omega), hy⟩
  · have e0 : (Li a).isEmpty = false := by
      rw [Li_empty]
      cases a with
      | nil => exact absurd rfl hne
      | cons x xs => rfl
    have lp : 0 < a.length := List.length_pos_iff.mpr hne
    obtain ⟨r, c1, e1, r0, r1, w1⟩ := t_draw (many := 4) h w (by omega) (by omega) (by omega)
    have h1 : (μ.set k (some c1))[k]? = some (some c1) := get_set h
    by_cases hr : 0 < r
    · obtain ⟨j, c2, e2, j0, j1, w2⟩ := t_draw (many := (a.length : Int)) h1 w1 (by omega) (by omega) (by omega)
      rw [List.set_set] at e2
      have h2 : (μ.set k (some c2))[k]? = some (some c2) := get_set h
      obtain ⟨z, e3, hz⟩ := at_nat (xs := Li a) j0 (by rw [Li_len]; exact j1)
      obtain ⟨x, hx, rfl⟩ := Li_mem hz
      obtain ⟨y, c3, e4, w3, hy⟩ := t_bent_int (f := f) h2 w2 (by omega) (ha x hx)
      rw [List.set_set] at e4
      have q1 := cut_in (xs := Li a) (lo := none) (hi := some j)
      have q2 := cut_in (xs := Li a) (lo := some (j + 1)) (hi := none)
      have hs := q1.1
      have ht := q2.1
      rw [Li_len] at hs ht
      refine ⟨.tuple (cutL (Li a) none (some j) ++ (y :: cutL (Li a) (some (j + 1)) none)), c3, ?_, w3.up (by omega), ?_⟩
      · have g1 : (cutL (Li a) none (some j)).length + 1 ≤ 16777216 := by omega
        have g2 : (cutL (Li a) none (some j)).length + 1 + (cutL (Li a) (some (j + 1)) none).length ≤ 16777216 := by omega
        rw [show f_law_bent (f + 2) = runD 4 (b_law_bent (f_law_bent (f + 1))) from rfl]
        simp [bent_is, A_bent, runD, initR, kinds, subTy, tyName, e1, hr, e2, e3, e4, e0, g1, g2]
      · refine okb_tup.mpr ⟨by rw [List.length_append, List.length_cons]; omega, fun v hv => ?_⟩
        rcases List.mem_append.mp hv with hv | hv
        · exact ints_ok v (q1.2 v hv)
        · rcases List.mem_cons.mp hv with rfl | hv
          · exact hy
          · exact ints_ok v (q2.2 v hv)
    · obtain ⟨y, c2, e2, w2, hy⟩ := t_tail_row h1 w1 (by omega) la
      rw [List.set_set] at e2
      exact ⟨y, c2, by simp [f_law_bent, bent_is, A_bent, runD, initR, kinds, subTy, tyName, e0, e1, hr, e2], w2.up (by omega), hy⟩
end LW
namespace LW
open PySem PySem.Spec TL
open L2 (atI ixN)
theorem plus_cell {μ : Mu} {q : Nat} {l ys : List PyData} (h : μ[q]? = some (some l)) (hl : l.length + ys.length ≤ 16777216) : gPlus (.r q) (.d (.list ys)) μ = .ok (.d (.list (l ++ ys))) μ := by
  unfold gPlus
  simp only [x_dr h, x_dd, if_pos hl]
theorem cut_from {β : Type} {xs : List β} {n : Nat} (h : n ≤ xs.length) : cutL xs (some (n : Int)) none = xs.drop n := by
  unfold cutL
  rw [show HT.sIx xs.length xs.length none = xs.length from rfl, show HT.sIx xs.length 0 (some (n : Int)) = min n xs.length from HT.sIx_nat xs.length 0 n, Nat.min_eq_left h]
  exact List.take_of_length_le (by rw [List.length_drop]; exact Nat.le_refl _)
theorem t_turned {μ : Mu} {k m : Nat} {c : Cell} {a : List Int} (h : μ[k]? = some (some c)) (w : Wl m c) (hm : m < 700000000) (la : a.length ≤ 9) (hb : Bn 1000000 a) :
    ∃ x c', f_law_turned [.r k, .d (Rw' a)] μ = .ok (.d x) (μ.set k (some c')) ∧ Wl (m + 3000) c' ∧ Rd' a.length 1000000 x := by
  have hk := lt_of_get h
  obtain ⟨j, c1, e1, j0, j1, w1⟩ := t_draw (many := (a.length : Int) + 1) h w (by omega) (by omega) (by omega)
  obtain ⟨s, rfl⟩ : ∃ s : Nat, j = (s : Int) := ⟨j.toNat, by omega⟩
  have hs : s ≤ a.length := by omega
  have main := fillG (μ := μ) (k := k) (d := 2) (m := m + 1) (j := s) (mk := fun o => [some (.r k), some (.d (Rw' a)), some (.d (.int (s : Int))), some (.r μ.length), o, none]) (t := gNm 4) (b := sExpr (eMeth1 gApp (eVar 3) (aCons (cF 1 f_law_small (aCons (eVar 0) aNil)) aNil))) (R := Sd) (μ1 := μ.set k (some c1) ++ [some []]) (o0 := none)
    (it := iR1 (aCons (eVar 2) aNil)) (by omega) (it_r1 (j := (s : Int)) rfl (by omega) (by omega)) w1 (fun w o μ => rfl) (fun o c n l hn w hl => ?_)
  · obtain ⟨o, c2, l, ee, w2, hl, hr⟩ := main
    obtain ⟨xs, rfl, hx⟩ := sd_list hr
    rw [Li_len] at hl
    have cu : cutL (Li a) (some (s : Int)) none = Li (a.drop s) := by
      rw [cut_from (by rw [Li_len]; exact hs)]
      exact (List.map_drop ..).symm
    have lc : lLc (iAny (eSl (eVar 1) (some (eVar 2)) none)) (gNm 5) bYes (e2 gSub (eK (.int 0)) (eVar 5)) [5] [some (.r k), some (.d (Rw' a)), some (.d (.int (s : Int))), some (.r μ.length), o, none] (μ.set k (some c2) ++ [some (Li xs)]) = .ok (Li ((a.drop s).map (fun x => 0 - x))) (μ.set k (some c2) ++ [some (Li xs)]) :=
      lc_ints (g := fun x => 0 - x) (xs := a.drop s) (by rw [← cu]; rfl) (by rw [List.length_drop]; omega) fun x hx => by simp
    have pl : gPlus (.r μ.length) (.d (.list (Li ((a.drop s).map (fun x => 0 - x))))) (μ.set k (some c2) ++ [some (Li xs)]) = .ok (.d (.list (Li (xs ++ (a.drop s).map (fun x => 0 - x))))) (μ.set k (some c2) ++ [some (Li xs)]) := by
      rw [plus_cell get_last (by rw [Li_len, Li_len, List.length_map, List.length_drop]; omega), Li_app]
    have tr := t_law_trim (μ := μ.set k (some c2) ++ [some (Li xs)]) (w := .d (.list (Li (xs ++ (a.drop s).map (fun x => 0 - x))))) (xs := xs ++ (a.drop s).map (fun x => 0 - x)) (.inl rfl)
    have hbn : Bn 1000000 (xs ++ (a.drop s).map (fun x => 0 - x)) := fun y hy => by
      rcases List.mem_append.mp hy with hy | hy
      · exact hx y hy
      · obtain ⟨z, hz, rfl⟩ := List.mem_map.mp hy
        have := hb z (List.mem_of_mem_drop hz)
        omega
    have hlen : (xs ++ (a.drop s).map (fun x => 0 - x)).length ≤ a.length := by
      rw [List.length_append, List.length_map, List.length_drop]
      omega
    generalize (a.drop s).map (fun x => 0 - x) = ys at *
    refine ⟨Rw' (trim (xs ++ ys)), c2, ?_, w2.up (by omega), trim (xs ++ ys), rfl, trim_idem _, Nat.le_trans (trim_len _) hlen, hbn.trim⟩
    simp [f_law_turned, b_law_turned, runD, initR, e1]
    rw [ee]
    simp [lc, pl, tr]
  · have g1 : (μ.set k (some c) ++ [some l])[k]? = some (some c) := app_get (get_set h)
    have hd : n * 2 ≤ 2000 := by omega
    obtain ⟨y, c3, e3, w3, r3⟩ := t_small_draw g1 w (by omega)
    rw [app_set (by rw [List.length_set]; exact hk), List.set_set] at e3
    have lv : live (.r μ.length) (μ.set k (some c) ++ [some l]) = true := live_r get_last
    refine ⟨.int y, c3, ?_, w3, y, rfl, r3⟩
    simp [x_meth, lv, e3, v_app (k := μ.length) (μ := μ.set k (some c3) ++ [some l]) get_last (by omega)]
end LW
/-! TLR: what repr can show. -/
namespace TL
open PySem PySem.Spec L2
/-- may be shown: W its weight, D its depth -/
structure Shw (W D : Nat) (x : PyData) : Prop where
  sh : x.showable = true
  ls : x.leavesShort 1921 = true
  w : x.weight ≤ W
  d : x.depth ≤ D
  nd : x.hasDict = false
structure ShwAll (W D : Nat) (xs : List PyData) : Prop where
  sh : PyData.showableAll xs = true
  ls : PyData.leavesShortAll 1921 xs = true
  w : PyData.weightAll xs ≤ W
  d : PyData.depthAll xs ≤ D
  nd : PyData.hasDictAll xs = false
theorem Shw.ok {W D : Nat} {x : PyData} (h : Shw W D x) (hW : W ≤ 8000) (hD : D ≤ 60) : reprOk x = true := by
  have h1 := PyData.shown_le 1921 (by omega) x h.ls
  have h2 : (1921 + 2) * x.weight ≤ 1923 * 8000 := Nat.mul_le_mul_left _ (Nat.le_trans h.w hW)
  unfold reprOk
  rw [h.sh, h.nd, decide_eq_true (show x.shown.length ≤ 16777216 by omega), decide_eq_true (show x.depth ≤ 60 from Nat.le_trans h.d hD)]
  rfl
theorem Shw.repr {W D : Nat} {x : PyData} {μ : Mu} (h : Shw W D x) (hW : W ≤ 8000) (hD : D ≤ 60) : gRepr [.d x] μ = .ok (.d (.str x.shown)) μ := by
  show (if reprOk x = true then Out.ok (wS x.shown) μ else Out.bad) = _
  rw [if_pos (h.ok hW hD)]
theorem ShwAll.nil : ShwAll 0 0 [] := ⟨rfl, rfl, Nat.le_refl _, Nat.le_refl _, rfl⟩
theorem ShwAll.cons {W D W2 D2 : Nat} {x : PyData} {xs : List PyData} (h : Shw W D x) (t : ShwAll W2 D2 xs) : ShwAll (W + 1 + W2) (max D D2) (x :: xs) := by
  refine ⟨?_, ?_, ?_, ?_, ?_⟩
  · simp [PyData.showableAll, h.sh, t.sh]
  · simp [PyData.leavesShortAll, h.ls, t.ls]
  · have := h.w
    have := t.w
    simp only [PyData.weightAll]
    omega
  · have := h.d
    have := t.d
    simp only [PyData.depthAll]
    omega
  · simp [PyData.hasDictAll, h.nd, t.nd]
theorem Shw.list {W D : Nat} {xs : List PyData} (t : ShwAll W D xs) : Shw W (D + 1) (.list xs) := by
  refine ⟨t.sh, t.ls, ?_, ?_, t.nd⟩
  · simp only [PyData.weight]
    exact t.w
  · have := t.d
    simp only [PyData.depth]
    omega
theorem Shw.tuple {W D : Nat} {xs : List PyData} (t : ShwAll W D xs) : Shw W (D + 1) (.tuple xs) := by
  refine ⟨t.sh, t.ls, ?_, ?_, t.nd⟩
  · simp only [PyData.weight]
    exact t.w
  · have := t.d
    simp only [PyData.depth]
    omega
theorem Shw.up {W D W2 D2 : Nat} {x : PyData} (h : Shw W D x) (hW : W ≤ W2) (hD : D ≤ D2) : Shw W2 D2 x := ⟨h.sh, h.ls, Nat.le_trans h.w hW, Nat.le_trans h.d hD, h.nd⟩
theorem Shw.bool {b : Bool} : Shw 0 0 (.bool b) := ⟨rfl, rfl, Nat.le_refl _, Nat.le_refl _, rfl⟩
theorem Shw.int {i : Int} {n : Nat} (h0 : 0 < n) (hn : n ≤ 1920) (h : i.natAbs < 2 ^ n) : Shw n 0 (.int i) := by
  have hl : i.natAbs.log2 < n := by
    by_cases hz : i.natAbs = 0
    · rw [hz]
      exact h0
    · exact (Nat.log2_lt hz).mpr h
  have hl2 : i.natAbs.log2 < 1920 := Nat.lt_of_lt_of_le hl hn
  refine ⟨by simp [PyData.showable, hl2], ?_, ?_, Nat.le_refl _, rfl⟩
  · simp only [PyData.leavesShort, decide_eq_true_eq]
    exact PyProof.Rows.int_text_len_1921 hl2
  · simp only [PyData.weight]
    split <;> omega
end TL
namespace LW
open PySem PySem.Spec TL
open L2 (atI ixN)
theorem t_law_scaled {μ : Mu} {xs : List Int} {k : Int} (hl : xs.length ≤ 1000) (hk : -1000000000000 < k ∧ k < 1000000000000) (hb : Bd 100000000000000000 xs) : f_law_scaled [.d (Rw' xs), .d (.int k)] μ = .ok (.d (Rw' (trim (xs.map (k * ·))))) μ := by
  have e1 : lLc (iAny (eVar 0)) (gNm 2) bYes (e2 gTimes (eVar 1) (eVar 2)) [2] [some (.d (Rw' xs)), some (.d (.int k)), none] μ = .ok (Li (xs.map (k * ·))) μ := lc_ints rfl (by omega) fun x hx => by
    have := hb x hx
    simp [TL.v_times (μ := μ) (i := k) (j := x) (by omega) (by omega) (by omega) (by omega)]
  have tr : f_law_trim [.d (.list (Li (xs.map (k * ·))))] μ = .ok (.d (Rw' (trim (xs.map (k * ·))))) μ := t_law_trim (.inl rfl)
  simp [f_law_scaled, b_law_scaled, runD, initR, e1, tr]
/-- a row of numbers below 2^n may be shown -/
theorem shw_ints {n : Nat} (h0 : 0 < n) (hn : n ≤ 1920) : ∀ {xs : List Int}, (∀ x ∈ xs, x.natAbs < 2 ^ n) → ShwAll (xs.length * (n + 1)) 0 (Li xs)
  | [], _ => by
    show ShwAll (0 * (n + 1)) 0 []
    rw [Nat.zero_mul]
    exact ShwAll.nil
  | x :: xs, h => by
    have t := shw_ints h0 hn (xs := xs) fun y hy => h y (List.mem_cons_of_mem _ hy)
    have c := ShwAll.cons (Shw.int h0 hn (h x List.mem_cons_self)) t
    refine ⟨c.sh, c.ls, Nat.le_trans c.w ?_, c.d, c.nd⟩
    simp only [List.length_cons, Nat.succ_mul]
    omega
theorem shw_row {n : Nat} {xs : List Int} (h0 : 0 < n) (hn : n ≤ 1920) (h : ∀ x ∈ xs, x.natAbs < 2 ^ n) : Shw (xs.length * (n + 1)) 1 (Rw' xs) := Shw.tuple (shw_ints h0 hn h)
end LW
namespace LW
open PySem PySem.Spec TL
open L2 (atI ixN)
theorem mulP_len1 {a b : List Int} : (mulP a b).length ≤ a.length + b.length - 1 := by
  unfold mulP
  refine Nat.le_trans (trim_len _) ?_
  rw [outer_len, List.length_replicate]
  exact Nat.le_refl _
theorem putS_len1 {b f : List Int} {c : Int} (lb : b.length ≤ 5) : (putS b f c).length ≤ f.length + 4 := by
  unfold putS
  refine Nat.le_trans (trim_len _) ?_
  rw [addP_len]
  have h1 := mulP_len1 (a := f) (b := b)
  have h2 := trim_len [c]
  simp at h2
  omega
theorem putS_bn1 {b f : List Int} {c : Int} {D : Nat} (hb : Bn 1000000 b) (hf : Bn D f) (hc : c.natAbs ≤ 1000000) (lb : b.length ≤ 5) (lf : f.length ≤ 20) (hD : 1 ≤ D) : Bn (2 ^ 27 * D) (putS b f c) := by
  have h1 := hf.mulP hb
  have h2 : Bn 1000000 (trim [c]) := Bn.trim fun x hx => by
    simp at hx
    subst hx
    exact hc
  refine (Bn.addP h1 h2).trim.up ?_
  have q1 : b.length * (D * 1000000) ≤ 5 * (D * 1000000) := Nat.mul_le_mul_right _ lb
  have q2 : f.length * (b.length * (D * 1000000)) ≤ 20 * (5 * (D * 1000000)) := Nat.mul_le_mul lf q1
  omega
theorem putL_bn {b : List Int} (hb : Bn 1000000 b) (lb : b.length ≤ 5) {cs : List Int} (hc : Bn 1000000 cs) (lc : cs.length ≤ 5) : (putL b cs).length ≤ 20 ∧ Bn (2 ^ 135) (putL b cs) := by
  have gen : ∀ (cs f : List Int) (k : Nat), k + cs.length ≤ 5 → Bn 1000000 cs → f.length ≤ 4 * k → Bn (2 ^ (27 * k)) f → (cs.foldl (putS b) f).length ≤ 20 ∧ Bn (2 ^ 135) (cs.foldl (putS b) f) := by
    intro cs
    induction cs with
    | nil =>
      intro f k hk _ lf hf
      exact ⟨by show f.length ≤ 20; omega, hf.up (Nat.pow_le_pow_right (by omega) (by simp at hk; omega))⟩
    | cons c cs ih =>
      intro f k hk h lf hf
      simp only [List.length_cons] at hk
      refine ih (putS b f c) (k + 1) (by omega) (fun x hx => h x (List.mem_cons_of_mem _ hx)) ?_ ?_
      · have := putS_len1 (b := b) (f := f) (c := c) lb
        omega
      · have := putS_bn1 hb hf (h c List.mem_cons_self) lb (by omega) (Nat.pow_pos (by omega))
        rw [← Nat.pow_add, Nat.add_comm, ← Nat.mul_succ] at this
        exact this
  exact gen cs [] 0 (by omega) hc (Nat.zero_le _) (fun x hx => by cases hx)
theorem shw_bn {n W B : Nat} {xs : List Int} (h : Bn B xs) (h0 : 0 < n) (hn : n ≤ 1920) (hB : B < 2 ^ n) (hW : xs.length * (n + 1) ≤ W) : Shw W 1 (Rw' xs) :=
  (shw_row h0 hn fun x hx => Nat.lt_of_le_of_lt (h x hx) hB).up hW (Nat.le_refl _)
theorem shw_put {a b : List Int} (ha : Bn 1000000 a) (hb : Bn 1000000 b) (la : a.length ≤ 5) (lb : b.length ≤ 5) : Shw 2740 1 (Rw' (putL b a.reverse)) := by
  obtain ⟨h1, h2⟩ := putL_bn hb lb (cs := a.reverse) (fun x hx => ha x (List.mem_reverse.mp hx)) (by rw [List.length_reverse]; exact la)
  exact shw_bn (n := 136) h2 (by omega) (by omega) (by decide +kernel) (by omega)
theorem shw_sum {a b : List Int} (ha : Bn 1000000 a) (hb : Bn 1000000 b) (la : a.length ≤ 5) (lb : b.length ≤ 5) : Shw 120 1 (Rw' (trim (addP a b))) := by
  have h := (ha.addP hb).trim
  have l := trim_len (addP a b)
  rw [addP_len] at l
  exact shw_bn (n := 22) h (by omega) (by omega) (by decide) (by omega)
theorem bn_neg {B : Nat} {b : List Int} (h : Bn B b) : Bn B (trim (b.map (-1 * ·))) := Bn.trim fun x hx => by
  obtain ⟨y, hy, rfl⟩ := List.mem_map.mp hx
  have := h y hy
  omega
theorem len_neg {b : List Int} : (trim (b.map (-1 * ·))).length ≤ b.length := by
  have := trim_len (b.map (-1 * ·))
  rw [List.length_map] at this
  exact this
theorem shw_mul {a b : List Int} (ha : Bn 1000000 a) (hb : Bn 1000000 b) (la : a.length ≤ 5) (lb : b.length ≤ 5) : Shw 470 1 (Rw' (mulP a b)) := by
  have h := ha.mulP hb
  have l := mulP_len (a := a) (b := b)
  have q1 : b.length * (1000000 * 1000000) ≤ 5 * (1000000 * 1000000) := Nat.mul_le_mul_right _ lb
  have q2 : a.length * (b.length * (1000000 * 1000000)) ≤ 5 * (5 * (1000000 * 1000000)) := Nat.mul_le_mul la q1
  exact shw_bn (n := 46) (h.up q2) (by omega) (by omega) (by decide) (by omega)
theorem bn_dr {B : Nat} : ∀ {xs : List Int} {i : Nat}, Bn B xs → i + xs.length ≤ 10 → Bn (10 * B) (dr i xs)
  | [], _, _, _ => fun x hx => by cases hx
  | y :: ys, i, h, hi => by
    simp only [List.length_cons] at hi
    intro x hx
    rcases List.mem_cons.mp hx with rfl | hx
    · rw [Int.natAbs_mul]
      exact Nat.mul_le_mul (by omega) (h y List.mem_cons_self)
    · exact bn_dr (i := i + 1) (fun w hw => h w (List.mem_cons_of_mem _ hw)) (by omega) x hx
theorem shw_slope {a : List Int} (ha : Bn 1000000 a) (la : a.length ≤ 5) : Shw 130 1 (Rw' (slope a)) := by
  have l : (slope a).length ≤ 5 := by
    unfold slope
    rw [dr_len, List.length_drop]
    omega
  have h : Bn (10 * 1000000) (slope a) := bn_dr (fun x hx => ha x (List.mem_of_mem_drop hx)) (by rw [List.length_drop]; omega)
  exact shw_bn (n := 25) h (by omega) (by omega) (by decide) (by omega)
theorem shw_prm {a : List Int} (ha : Bn 1000000 a) (la : a.length ≤ 5) : Shw 120 1 (Rw' (prm a)) := by
  have key : Bn 1000000 (prm a) ∧ (prm a).length ≤ 5 := by
    have ht := ha.thin
    have hl : (thin a).length = a.length := List.length_map ..
    unfold prm
    split
    · split
      · refine ⟨fun x hx => ?_, by rw [List.length_map]; omega⟩
        obtain ⟨y, hy, rfl⟩ := List.mem_map.mp hx
        have := ht y hy
        omega
      · exact ⟨ht, by omega⟩
    · exact ⟨(fun x hx => by cases hx), Nat.zero_le _⟩
  exact shw_bn (n := 20) key.1 (by omega) (by omega) (by decide) (by omega)
end LW
namespace LW
open PySem PySem.Spec TL
open L2 (atI ixN)
theorem div_abs (a g : Int) : (a / g).natAbs ≤ a.natAbs := Int.natAbs_ediv_le_natAbs a g
theorem shw_val {n d : Int} {a : List Int} (ha : Bn 1000000 a) (la : a.length ≤ 5) (hn : n.natAbs ≤ 10000000) (h0 : 0 < d) (hd : d ≤ 10) : Shw 302 1 (val n d a) := by
  have hb := hrn_hb hn (show d.natAbs ≤ 10 by omega) (cs := a.reverse) (Bn.up (fun x hx => ha x (List.mem_reverse.mp hx)) (by omega))
  have h1 := hb.1
  rw [List.length_reverse] at h1
  have hp : 1000000000 ^ a.length ≤ 1000000000 ^ 5 := Nat.pow_le_pow_right (by omega) la
  have big : 1000000000 ^ 5 < 2 ^ 150 := by decide +kernel
  have p2 := (pw_ok h0 hd (show a.length - 1 ≤ 9 by omega))
  have big2 : (1000000000000000000 : Nat) < 2 ^ 150 := by decide +kernel
  unfold val lean
  have hd2 : (d ^ (a.length - 1)).natAbs < 1000000000000000000 := by omega
  have i1 := fun g => Nat.lt_of_le_of_lt (Nat.le_trans (div_abs (hrn n d a.reverse).1 g) (Nat.le_trans h1 hp)) big
  have i2 := fun g => Nat.lt_of_le_of_lt (div_abs (d ^ (a.length - 1)) g) (Nat.lt_trans hd2 big2)
  exact Shw.up (W := 150 + 1 + (150 + 1 + 0)) (D := max 0 (max 0 0) + 1) (Shw.tuple (ShwAll.cons (Shw.int (n := 150) (by omega) (by omega) (i1 _)) (ShwAll.cons (Shw.int (n := 150) (by omega) (by omega) (i2 _)) ShwAll.nil))) (by omega) (by omega)
end LW
namespace LW
open PySem PySem.Spec TL
/-- the eight answers -/
def Due7 (a b : List Int) (n d : Int) : List PyData := [Rw' (trim (addP a b)), Rw' (trim (addP a (trim (b.map (-1 * ·))))), Rw' (mulP a b), Rw' (slope a), val n d a, Rw' (prm a), Rw' (putL b a.reverse)]
def Due8 (a b : List Int) (n d : Int) : List PyData := [Rw' (trim (addP a b)), Rw' (trim (addP a (trim (b.map (-1 * ·))))), Rw' (mulP a b), Rw' (slope a), val n d a, Rw' (prm a), Rw' (putL b a.reverse), Rw' (putL a b.reverse)]
theorem shw_due8 {a b : List Int} {n d : Int} (ha : Bn 1000000 a) (hb : Bn 1000000 b) (la : a.length ≤ 5) (lb : b.length ≤ 5) (hn : n.natAbs ≤ 10000000) (h0 : 0 < d) (hd : d ≤ 10) : Shw 8000 2 (.list (Due8 a b n d)) :=
  Shw.up (Shw.list (ShwAll.cons (shw_sum ha hb la lb) (ShwAll.cons (shw_sum ha (bn_neg hb) la (Nat.le_trans len_neg lb)) (ShwAll.cons (shw_mul ha hb la lb) (ShwAll.cons (shw_slope ha la) (ShwAll.cons (shw_val ha la hn h0 hd) (ShwAll.cons (shw_prm ha la) (ShwAll.cons (shw_put ha hb la lb) (ShwAll.cons (shw_put hb ha lb la) ShwAll.nil))))))))) (by decide) (by decide)
theorem shw_due7 {a b : List Int} {n d : Int} (ha : Bn 1000000 a) (hb : Bn 1000000 b) (la : a.length ≤ 5) (lb : b.length ≤ 5) (hn : n.natAbs ≤ 10000000) (h0 : 0 < d) (hd : d ≤ 10) : Shw 8000 2 (.list (Due7 a b n d)) :=
  Shw.up (Shw.list (ShwAll.cons (shw_sum ha hb la lb) (ShwAll.cons (shw_sum ha (bn_neg hb) la (Nat.le_trans len_neg lb)) (ShwAll.cons (shw_mul ha hb la lb) (ShwAll.cons (shw_slope ha la) (ShwAll.cons (shw_val ha la hn h0 hd) (ShwAll.cons (shw_prm ha la) (ShwAll.cons (shw_put ha hb la lb) ShwAll.nil)))))))) (by decide) (by decide)
end LW
namespace LW
open PySem PySem.Spec TL
open L2 (atI ixN)
theorem t_two {μ : Mu} {k m : Nat} {c : Cell} {a : List Int} {w6 : Wv} (h : μ[k]? = some (some c)) (w : Wl m c) (hm : m < 600000000) (la : a.length ≤ 5) (hb : Bn 1000000 a) :
    ∃ b c', eIf (tB' (e2 (gEq false) (cF 2 f_law_draw (aCons (eVar 0) (aCons (eK (.int 3)) aNil))) (eK (.int 0)))) (cF 2 f_law_turned (aCons (eVar 0) (aCons (eVar 5) aNil))) (cF 2 f_law_line (aCons (eVar 0) (aCons (eK (.int 4)) aNil))) [some (.r k), none, none, none, none, some (.d (Rw' a)), some w6, none] μ = .ok (.d (Rw' b)) (μ.set k (some c')) ∧ Wl (m + 3001) c' ∧ trim b = b ∧ b.length ≤ 5 ∧ Bn 1000000 b := by
  obtain ⟨r, c1, e1, r0, r1, w1⟩ := t_draw (many := 3) h w (by omega) (by omega) (by omega)
  have h1 : (μ.set k (some c1))[k]? = some (some c1) := get_set h
  by_cases hr : r = 0
  · subst hr
    obtain ⟨x, c2, e2, w2, b, rfl, tb, lb, bb⟩ := t_turned h1 w1 (by omega) (show a.length ≤ 9 by omega) hb
    exact ⟨b, c2, by simp [e1, e2, List.set_set], w2.up (by omega), tb, by omega, bb⟩
  · obtain ⟨x, c2, e2, w2, b, rfl, tb, lb, bb⟩ := t_line (few := 4) h1 w1 (by omega) (by omega) (by omega)
    exact ⟨b, c2, by simp [e1, e2, hr, List.set_set], w2.up (by omega), tb, Nat.le_trans lb (by decide), bb⟩
theorem t_same {μ : Mu} {xs : List PyData} {a1 a2 a3 a4 a5 a6 a0 : Option Wv} (hl : xs.length ≤ 100) (h : ∀ x ∈ xs, ∃ d, okb 1000 d x = true) :
    lLc (iAny (eVar 4)) (gNm 7) bYes (e2 (gEq false) (en gRepr (aCons (cF 1 f_is_row (aCons (eVar 7) aNil)) aNil)) (en gRepr (aCons (cF 1 f_law_is_row (aCons (eVar 7) aNil)) aNil))) [7] [a0, a1, a2, a3, some (.d (.list xs)), a5, a6, none] μ = .ok (xs.map fun _ => .bool true) μ :=
  lc_map (g := fun _ => .bool true) (xs := xs) rfl (by omega) fun x hx => by
    obtain ⟨d, hd⟩ := h x hx
    have e1 := t_is_row (μ := μ) hd
    have e2 := t_law_row (μ := μ) hd
    have e3 : gRepr [.d (.bool (rowB x))] μ = .ok (.d (.str (PyData.bool (rowB x)).shown)) μ := Shw.repr Shw.bool (by decide) (by decide)
    simp [e1, e2, e3]
end LW
namespace LW
open PySem PySem.Spec TL
open L2 (atI ixN)
noncomputable def RT1 : Sv :=
  (sPar 5 6 (aCons (cF 2 f_law_line (aCons (eVar 0) (aCons (eK (.int 5)) aNil))) (aCons (cF 1 f_law_part (aCons (eVar 0) aNil)) aNil)))
noncomputable def RT2 : Sv :=
  (sAsg (eIf (tB' (e2 (gEq false) (cF 2 f_law_draw (aCons (eVar 0) (aCons (eK (.int 3)) aNil))) (eK (.int 0)))) (cF 2 f_law_turned (aCons (eVar 0) (aCons (eVar 5) aNil))) (cF 2 f_law_line (aCons (eVar 0) (aCons (eK (.int 4)) aNil)))) (gNm 1))
noncomputable def RT3 : Sv :=
  (sAsg (eFrz (lDisp (aCons (cF 2 f_law_sum (aCons (eVar 5) (aCons (eVar 1) aNil))) (aCons (cF 2 f_law_sum (aCons (eVar 5) (aCons (cF 2 f_law_scaled (aCons (eVar 1) (aCons (e2 gSub (eK (.int 0)) (eK (.int 1))) aNil))) aNil))) (aCons (cF 2 f_law_product (aCons (eVar 5) (aCons (eVar 1) aNil))) (aCons (cF 1 f_law_slope (aCons (eVar 5) aNil)) aNil)))))) (gNm 2))
noncomputable def RT4 : Sv :=
  (sAsg (e2 gPlus (eVar 2) (eFrz (lDisp (aCons (cF 2 f_law_worth (aCons (eVar 5) (aCons (eVar 6) aNil))) (aCons (cF 1 f_law_prime (aCons (eVar 5) aNil)) (aCons (cF 2 f_law_put_in (aCons (eVar 5) (aCons (eVar 1) aNil))) (aCons (cF 2 f_law_put_in (aCons (eVar 1) (aCons (eVar 5) aNil))) aNil))))))) (gNm 2))
noncomputable def RT5 : Sv :=
  (sAsg (eFrz (lDisp (aCons (cF 2 f_plus (aCons (eVar 5) (aCons (eVar 1) aNil))) (aCons (cF 2 f_less (aCons (eVar 5) (aCons (eVar 1) aNil))) (aCons (cF 2 f_times (aCons (eVar 5) (aCons (eVar 1) aNil))) (aCons (cF 1 f_derivative (aCons (eVar 5) aNil)) aNil)))))) (gNm 3))
noncomputable def RT6 : Sv :=
  (sAsg (e2 gPlus (eVar 3) (eFrz (lDisp (aCons (cF 2 f_value_at (aCons (eVar 5) (aCons (eVar 6) aNil))) (aCons (cF 1 f_prime_part (aCons (eVar 5) aNil)) (aCons (cF 2 f_put_in (aCons (eVar 5) (aCons (eVar 1) aNil))) (aCons (cF 2 f_put_in (aCons (eVar 1) (aCons (eVar 5) aNil))) aNil))))))) (gNm 3))
noncomputable def RT7 : Sv :=
  (sIf (tB' (e2 (gEq true) (en gRepr (aCons (eVar 3) aNil)) (en gRepr (aCons (eVar 2) aNil)))) (sRet (eK (.bool false))) sNext)
noncomputable def RT8 : Sv :=
  (sAsg (eFrz (lDisp (aCons (cFK [1, 0] 2 f_plus (aCons (eVar 1) (aCons (eVar 5) aNil))) (aCons (cFK [1, 0] 2 f_less (aCons (eVar 1) (aCons (eVar 5) aNil))) (aCons (cFK [1, 0] 2 f_times (aCons (eVar 1) (aCons (eVar 5) aNil))) (aCons (cFK [0] 1 f_derivative (aCons (eVar 5) aNil)) aNil)))))) (gNm 3))
noncomputable def RT9 : Sv :=
  (sAsg (e2 gPlus (eVar 3) (eFrz (lDisp (aCons (cFK [1, 0] 2 f_value_at (aCons (eVar 6) (aCons (eVar 5) aNil))) (aCons (cFK [0] 1 f_prime_part (aCons (eVar 5) aNil)) (aCons (cFK [1, 0] 2 f_put_in (aCons (eVar 1) (aCons (eVar 5) aNil))) aNil)))))) (gNm 3))
noncomputable def RT10 : Sv :=
  (sIf (tB' (e2 (gEq true) (en gRepr (aCons (eVar 3) aNil)) (en gRepr (aCons (eSl (eVar 2) none (some (eK (.int 7)))) aNil)))) (sRet (eK (.bool false))) sNext)
noncomputable def RT11 : Sv :=
  (sAsg (eFrz (lDisp (aCons (eVar 5) (aCons (eVar 6) (aCons (eFrz (lList (aCons (eVar 1) aNil))) (aCons (e2 gPlus (eVar 5) (eTup (aCons (eK (.int 0)) aNil))) (aCons (cF 2 (f_law_bent 12) (aCons (eVar 0) (aCons (eVar 5) aNil))) (aCons (cF 2 (f_law_bent 12) (aCons (eVar 0) (aCons (eVar 1) aNil))) (aCons (cF 1 f_law_odd (aCons (eVar 0) aNil)) aNil))))))))) (gNm 4))
noncomputable def RT12 : Sv :=
  (sRet (en gAll (aCons (eFrz (lLc (iAny (eVar 4)) (gNm 7) bYes (e2 (gEq false) (en gRepr (aCons (cF 1 f_is_row (aCons (eVar 7) aNil)) aNil)) (en gRepr (aCons (cF 1 f_law_is_row (aCons (eVar 7) aNil)) aNil))) [7])) aNil)))
theorem RT_is : b_law_right = sSeq RT1 (sSeq RT2 (sSeq RT3 (sSeq RT4 (sSeq RT5 (sSeq RT6 (sSeq RT7 (sSeq RT8 (sSeq RT9 (sSeq RT10 (sSeq RT11 (RT12))))))))))) := rfl
section
variable {μ ν : Mu} {A B F z1 z2 z3 z4 z5 z6 z7 z8 z9 y1 y2 y3 : PyData} {k : Nat} {o2 o3 o4 : Option Wv}
theorem rt1 {a1 a2 a3 a4 a7 : Option Wv} {μ1 μ2 : Mu} (e1 : f_law_line [.r k, .d (.int 5)] μ = .ok (.d A) μ1) (e2 : f_law_part [.r k] μ1 = .ok (.d F) μ2) :
    RT1 [some (.r k), a1, a2, a3, a4, none, none, a7] μ = .ok (.nx [some (.r k), a1, a2, a3, a4, some (.d A), some (.d F), a7]) μ2 := by
  unfold RT1 sPar
  simp [e1, e2, liftO]
theorem rt3 (d1 : f_law_sum [.d A, .d B] ν = .ok (.d z1) ν) (d2 : f_law_scaled [.d B, .d (.int (-1))] ν = .ok (.d z2) ν) (d3 : f_law_sum [.d A, .d z2] ν = .ok (.d z3) ν)
    (d4 : f_law_product [.d A, .d B] ν = .ok (.d z4) ν) (d5 : f_law_slope [.d A] ν = .ok (.d z5) ν) :
    RT3 [some (.r k), some (.d B), o2, o3, o4, some (.d A), some (.d F), none] ν = .ok (.nx [some (.r k), some (.d B), some (.d (.list [z1, z3, z4, z5])), o3, o4, some (.d A), some (.d F), none]) ν := by
  simp [RT3, d1, d2, d3, d4, d5]
theorem rt4 (d6 : f_law_worth [.d A, .d F] ν = .ok (.d z6) ν) (d7 : f_law_prime [.d A] ν = .ok (.d z7) ν) (d8 : f_law_put_in [.d A, .d B] ν = .ok (.d z8) ν) (d9 : f_law_put_in [.d B, .d A] ν = .ok (.d z9) ν) :
    RT4 [some (.r k), some (.d B), some (.d (.list [z1, z3, z4, z5])), o3, o4, some (.d A), some (.d F), none] ν = .ok (.nx [some (.r k), some (.d B), some (.d (.list [z1, z3, z4, z5, z6, z7, z8, z9])), o3, o4, some (.d A), some (.d F), none]) ν := by
  simp [RT4, d6, d7, d8, d9]
theorem rt5 (d1 : f_plus [.d A, .d B] ν = .ok (.d z1) ν) (d3 : f_less [.d A, .d B] ν = .ok (.d z3) ν)
    (d4 : f_times [.d A, .d B] ν = .ok (.d z4) ν) (d5 : f_derivative [.d A] ν = .ok (.d z5) ν) :
    RT5 [some (.r k), some (.d B), o2, o3, o4, some (.d A), some (.d F), none] ν = .ok (.nx [some (.r k), some (.d B), o2, some (.d (.list [z1, z3, z4, z5])), o4, some (.d A), some (.d F), none]) ν := by
  simp [RT5, d1, d3, d4, d5]
theorem rt6 (d6 : f_value_at [.d A, .d F] ν = .ok (.d z6) ν) (d7 : f_prime_part [.d A] ν = .ok (.d z7) ν) (d8 : f_put_in [.d A, .d B] ν = .ok (.d z8) ν) (d9 : f_put_in [.d B, .d A] ν = .ok (.d z9) ν) :
    RT6 [some (.r k), some (.d B), o2, some (.d (.list [z1, z3, z4, z5])), o4, some (.d A), some (.d F), none] ν = .ok (.nx [some (.r k), some (.d B), o2, some (.d (.list [z1, z3, z4, z5, z6, z7, z8, z9])), o4, some (.d A), some (.d F), none]) ν := by
  simp [RT6, d6, d7, d8, d9]
theorem rt7 {D : PyData} {s : Str} {a0 a1 a5 a6 a7 : Option Wv} (r : gRepr [.d D] ν = .ok (.d (.str s)) ν) :
    RT7 [a0, a1, some (.d D), some (.d D), o4, a5, a6, a7] ν = .ok (.nx [a0, a1, some (.d D), some (.d D), o4, a5, a6, a7]) ν := by
  simp [RT7, r]
theorem rt8 (d1 : f_plus [.d A, .d B] ν = .ok (.d z1) ν) (d3 : f_less [.d A, .d B] ν = .ok (.d z3) ν)
    (d4 : f_times [.d A, .d B] ν = .ok (.d z4) ν) (d5 : f_derivative [.d A] ν = .ok (.d z5) ν) :
    RT8 [some (.r k), some (.d B), o2, o3, o4, some (.d A), some (.d F), none] ν = .ok (.nx [some (.r k), some (.d B), o2, some (.d (.list [z1, z3, z4, z5])), o4, some (.d A), some (.d F), none]) ν := by
  simp [RT8, permL, d1, d3, d4, d5]
theorem rt9 (d6 : f_value_at [.d A, .d F] ν = .ok (.d z6) ν) (d7 : f_prime_part [.d A] ν = .ok (.d z7) ν) (d8 : f_put_in [.d A, .d B] ν = .ok (.d z8) ν) :
    RT9 [some (.r k), some (.d B), o2, some (.d (.list [z1, z3, z4, z5])), o4, some (.d A), some (.d F), none] ν = .ok (.nx [some (.r k), some (.d B), o2, some (.d (.list [z1, z3, z4, z5, z6, z7, z8])), o4, some (.d A), some (.d F), none]) ν := by
  simp [RT9, permL, d6, d7, d8]
theorem rt10 {D E : List PyData} {s : Str} {a0 a1 a5 a6 a7 : Option Wv} (c : cutL D none (some 7) = E) (r : gRepr [.d (.list E)] ν = .ok (.d (.str s)) ν) :
    RT10 [a0, a1, some (.d (.list D)), some (.d (.list E)), o4, a5, a6, a7] ν = .ok (.nx [a0, a1, some (.d (.list D)), some (.d (.list E)), o4, a5, a6, a7]) ν := by
  simp [RT10, r, c]
theorem rt11 {xs : List PyData} {ν4 ν5 ν6 : Mu} (p : gPlus (.d A) (.d (.tuple [.int 0])) ν = .ok (.d z1) ν) (e4 : f_law_bent 12 [.r k, .d A] ν = .ok (.d y1) ν4) (e5 : f_law_bent 12 [.r k, .d (.tuple xs)] ν4 = .ok (.d y2) ν5) (e6 : f_law_odd [.r k] ν5 = .ok (.d y3) ν6) :
    RT11 [some (.r k), some (.d (.tuple xs)), o2, o3, o4, some (.d A), some (.d F), none] ν = .ok (.nx [some (.r k), some (.d (.tuple xs)), o2, o3, some (.d (.list [A, F, .list xs, z1, y1, y2, y3])), some (.d A), some (.d F), none]) ν6 := by
  simp [RT11, p, e4, e5, e6]
theorem rt12 {a0 a1 a5 a6 : Option Wv} {xs ys : List PyData} (same : lLc (iAny (eVar 4)) (gNm 7) bYes (e2 (gEq false) (en gRepr (aCons (cF 1 f_is_row (aCons (eVar 7) aNil)) aNil)) (en gRepr (aCons (cF 1 f_law_is_row (aCons (eVar 7) aNil)) aNil))) [7] [a0, a1, o2, o3, some (.d (.list xs)), a5, a6, none] ν = .ok ys ν)
    (ga : gAll [.d (.list ys)] ν = .ok (.d (.bool true)) ν) : RT12 [a0, a1, o2, o3, some (.d (.list xs)), a5, a6, none] ν = .ok (.rt (.d (.bool true))) ν := by
  simp [RT12, same, ga]
end
theorem rt2 {μ ν : Mu} {k : Nat} {A F b : PyData} (e3 : eIf (tB' (e2 (gEq false) (cF 2 f_law_draw (aCons (eVar 0) (aCons (eK (.int 3)) aNil))) (eK (.int 0)))) (cF 2 f_law_turned (aCons (eVar 0) (aCons (eVar 5) aNil))) (cF 2 f_law_line (aCons (eVar 0) (aCons (eK (.int 4)) aNil))) [some (.r k), none, none, none, none, some (.d A), some (.d F), none] μ = .ok (.d b) ν) :
    RT2 [some (.r k), none, none, none, none, some (.d A), some (.d F), none] μ = .ok (.nx [some (.r k), some (.d b), none, none, none, some (.d A), some (.d F), none]) ν := by
  unfold RT2
  rw [x_asg, e3]
  rfl
end LW
namespace LW
open PySem PySem.Spec TL
open L2 (atI ixN)
/-- the rows' answers, by place -/
theorem t_dues {ν : Mu} {a b : List Int} {n d : Int} {k : Nat} (ta : trim a = a) (tb : trim b = b) (la : a.length ≤ 5) (lb : b.length ≤ 5) (ba : Bn 1000000 a) (bb : Bn 1000000 b) (hn : n.natAbs ≤ 10000000) (h0 : 0 < d) (hd : d ≤ 10) (hf : Fr (.tuple [.int n, .int d])) :
    ∃ z1 z3 z4 z5 z6 z7 z8 z9 s7 s8, (∀ o2 o3 o4, sSeq RT3 (sSeq RT4 (sSeq RT5 (sSeq RT6 RT7))) [some (.r k), some (.d (Rw' b)), o2, o3, o4, some (.d (Rw' a)), some (.d (.tuple [.int n, .int d])), none] ν = .ok (.nx [some (.r k), some (.d (Rw' b)), some (.d (.list [z1, z3, z4, z5, z6, z7, z8, z9])), some (.d (.list [z1, z3, z4, z5, z6, z7, z8, z9])), o4, some (.d (Rw' a)), some (.d (.tuple [.int n, .int d])), none]) ν)
      ∧ (∀ o2 o3 o4, sSeq RT8 RT9 [some (.r k), some (.d (Rw' b)), o2, o3, o4, some (.d (Rw' a)), some (.d (.tuple [.int n, .int d])), none] ν = .ok (.nx [some (.r k), some (.d (Rw' b)), o2, some (.d (.list [z1, z3, z4, z5, z6, z7, z8])), o4, some (.d (Rw' a)), some (.d (.tuple [.int n, .int d])), none]) ν)
      ∧ gRepr [.d (.list [z1, z3, z4, z5, z6, z7, z8])] ν = .ok (.d (.str s7)) ν ∧ gRepr [.d (.list [z1, z3, z4, z5, z6, z7, z8, z9])] ν = .ok (.d (.str s8)) ν := by
  have sa : Sm a := ba.sm (by decide +kernel)
  have sb : Sm b := bb.sm (by decide +kernel)
  have a7 : Bn 10000000 a := ba.up (by omega)
  have b7 : Bn 10000000 b := bb.up (by omega)
  have bdb : Bd 100000000000000000 b := fun x hx => by
    have := bb x hx
    omega
  have lnb := len_neg (b := b)
  have d1 := t_law_sum (μ := ν) (a := a) (b := b) (by omega) (by omega)
  have d2a := t_law_scaled (μ := ν) (xs := b) (k := -1) (by omega) (by omega) bdb
  have d2 := t_law_sum (μ := ν) (a := a) (b := trim (b.map (-1 * ·))) (by omega) (by omega)
  have d3 := t_law_product (μ := ν) sa sb (by omega) (by omega)
  have d4 := t_law_slope (μ := ν) sa (by omega)
  have d5 := t_law_worth (μ := ν) (n := n) (d := d) a7 (by omega) hn h0 hd
  have d6 := t_law_prime (μ := ν) ta a7 (by omega)
  have d7 := t_law_put_in (μ := ν) a7 b7 (by omega) (by omega)
  have d8 := t_law_put_in (μ := ν) b7 a7 (by omega) (by omega)
  have q1 := t_plus (μ := ν) ta (show a.length ≤ 500 by omega) tb (show b.length ≤ 500 by omega)
  have q2 := t_less (μ := ν) ta (show a.length ≤ 500 by omega) tb (show b.length ≤ 500 by omega) bdb
  have q3 := t_times (μ := ν) ta (show a.length ≤ 500 by omega) tb (show b.length ≤ 500 by omega) sa sb
  have q4 := t_derivative (μ := ν) ta (by omega) sa
  have q5 := t_value_at (μ := ν) ta a7 (by omega) hf
  have q6 := t_prime_part (μ := ν) ta (by omega) a7
  have q7 := t_put_in (μ := ν) ta (by omega) tb (by omega) a7 b7
  have q8 := t_put_in (μ := ν) tb (by omega) ta (by omega) b7 a7
  have r8 := Shw.repr (μ := ν) (shw_due8 (n := n) (d := d) ba bb la lb hn h0 hd) (by decide) (by decide)
  have r7 := Shw.repr (μ := ν) (shw_due7 (n := n) (d := d) ba bb la lb hn h0 hd) (by decide) (by decide)
  unfold Due8 at r8
  unfold Due7 at r7
  refine ⟨_, _, _, _, _, _, _, _, _, _, fun o2 o3 o4 => ?_, fun o2 o3 o4 => ?_, r7, r8⟩
  · rw [seq_ok (rt3 d1 d2a d2 d3 d4), seq_ok (rt4 d5 d6 d7 d8), seq_ok (rt5 q1 q2 q3 q4), seq_ok (rt6 q5 q6 q7 q8)]
    exact rt7 r8
  · rw [seq_ok (rt8 q1 q2 q3 q4)]
    exact rt9 q5 q6 q7
end LW
namespace LW
open PySem PySem.Spec TL
open L2 (atI ixN)
theorem seq_assoc {a b c : Sv} {ρ ρ' : Rho} {μ μ' : Mu} (h : sSeq a b ρ μ = .ok (.nx ρ') μ') : sSeq a (sSeq b c) ρ μ = c ρ' μ' := by
  rw [x_seq] at h ⊢
  cases e : a ρ μ with
  | bad => rw [e] at h; cases h
  | err x ws μ1 => rw [e] at h; cases h
  | ok fl μ1 =>
    rw [e] at h
    simp only [Out.bind_ok] at h ⊢
    cases fl with
    | nx ρ1 =>
      have h : b ρ1 μ1 = .ok (.nx ρ') μ' := h
      show sSeq b c ρ1 μ1 = _
      rw [x_seq, h]
      rfl
    | rt w => cases h
    | bk r => cases h
    | ct r => cases h
    | er x ws r => cases h
theorem run_rt {n : Nat} {b : Sv} {ws : List Wv} {μ μ' : Mu} {x : PyData} (h : b (initR n ws) μ = .ok (.rt (.d x)) μ') : runD n b ws μ = .ok (.d x) (μ'.take μ.length) := by
  unfold runD
  rw [h]
  rfl
/-- what follows the drawn rows -/
theorem t_tail {ν : Mu} {a b : List Int} {n d : Int} {k : Nat} {y1 y2 y3 : PyData} {ν4 ν5 ν6 : Mu} (ta : trim a = a) (tb : trim b = b) (la : a.length ≤ 5) (lb : b.length ≤ 5) (ba : Bn 1000000 a) (bb : Bn 1000000 b) (hn : n.natAbs ≤ 10000000) (h0 : 0 < d) (hd : d ≤ 10) (hf : Fr (.tuple [.int n, .int d]))
    (e4 : f_law_bent 12 [.r k, .d (Rw' a)] ν = .ok (.d y1) ν4) (e5 : f_law_bent 12 [.r k, .d (Rw' b)] ν4 = .ok (.d y2) ν5) (e6 : f_law_odd [.r k] ν5 = .ok (.d y3) ν6) (k4 : okb 1000 5 y1 = true) (k5 : okb 1000 5 y2 = true) (k6 : okb 1000 4 y3 = true) :
    sSeq RT3 (sSeq RT4 (sSeq RT5 (sSeq RT6 (sSeq RT7 (sSeq RT8 (sSeq RT9 (sSeq RT10 (sSeq RT11 RT12)))))))) [some (.r k), some (.d (Rw' b)), none, none, none, some (.d (Rw' a)), some (.d (.tuple [.int n, .int d])), none] ν = .ok (.rt (.d (.bool true))) ν6 := by
  obtain ⟨z1, z3, z4, z5, z6, z7, z8, z9, s7, s8, g1, g2, r7, r8⟩ := t_dues (ν := ν) (k := k) ta tb la lb ba bb hn h0 hd hf
  have asc : ∀ (p q r s t u : Sv) (ρ ρ' : Rho), sSeq p (sSeq q (sSeq r (sSeq s t))) ρ ν = .ok (.nx ρ') ν → sSeq p (sSeq q (sSeq r (sSeq s (sSeq t u)))) ρ ν = u ρ' ν := by
    intro p q r s t u ρ ρ' h
    have seq_nx : ∀ (p q : Sv) (ρ ρ' : Rho) (μ μ' : Mu), sSeq p q ρ μ = .ok (.nx ρ') μ' → ∃ ρ1 μ1, p ρ μ = .ok (.nx ρ1) μ1 ∧ q ρ1 μ1 = .ok (.nx ρ') μ' := by
      intro p q ρ ρ' μ μ' h
      rw [x_seq] at h
      cases e : p ρ μ with
      | bad => rw [e] at h; cases h
      | err x ws μ1 => rw [e] at h; cases h
      | ok fl μ1 =>
        rw [e] at h
        cases fl with
        | nx ρ1 => exact ⟨ρ1, μ1, rfl, h⟩
        | rt w => cases h
        | bk r => cases h
        | ct r => cases h
        | er x ws r => cases h
    obtain ⟨ρ1, μ1, h1, h⟩ := seq_nx _ _ _ _ _ _ h
    obtain ⟨ρ2, μ2, h2, h⟩ := seq_nx _ _ _ _ _ _ h
    obtain ⟨ρ3, μ3, h3, h⟩ := seq_nx _ _ _ _ _ _ h
    obtain ⟨ρ4, μ4, h4, h⟩ := seq_nx _ _ _ _ _ _ h
    rw [seq_ok h1, seq_ok h2, seq_ok h3, seq_ok h4, seq_ok h]
  rw [asc _ _ _ _ _ _ _ _ (g1 none none none), seq_assoc (g2 _ _ none)]
  have cu : cutL [z1, z3, z4, z5, z6, z7, z8, z9] none (some (7 : Int)) = [z1, z3, z4, z5, z6, z7, z8] := rfl
  rw [seq_ok (rt10 cu r7)]
  have p0 : gPlus (.d (Rw' a)) (.d (.tuple [.int 0])) ν = .ok (.d (Rw' (a ++ [0]))) ν := by
    show gPlus (.d (.tuple (Li a))) (.d (.tuple (Li [0]))) ν = _
    rw [v_plusT, if_pos (by rw [Li_len, Li_len, List.length_singleton]; omega), ← Li_app]
  have e5' : f_law_bent 12 [.r k, .d (.tuple (Li b))] ν4 = .ok (.d y2) ν5 := e5
  show sSeq RT11 RT12 [some (.r k), some (.d (.tuple (Li b))), _, _, none, some (.d (Rw' a)), some (.d (.tuple [.int n, .int d])), none] ν = _
  rw [seq_ok (rt11 p0 e4 e5' e6)]
  have okl : ∀ x ∈ [Rw' a, .tuple [.int n, .int d], .list (Li b), Rw' (a ++ [0]), y1, y2, y3], ∃ d, okb 1000 d x = true := fun x hx => by
    simp only [List.mem_cons, List.not_mem_nil, or_false] at hx
    rcases hx with rfl | rfl | rfl | rfl | rfl | rfl | rfl
    · exact ⟨1, okb_row (by omega)⟩
    · exact ⟨1, okb_row (a := [n, d]) (show 2 ≤ 1000 by omega)⟩
    · exact ⟨1, rfl⟩
    · exact ⟨1, okb_row (by rw [List.length_append, List.length_singleton]; omega)⟩
    · exact ⟨5, k4⟩
    · exact ⟨5, k5⟩
    · exact ⟨4, k6⟩
  have ga : gAll [.d (.list [.bool true, .bool true, .bool true, .bool true, .bool true, .bool true, .bool true])] ν6 = .ok (.d (.bool true)) ν6 := rfl
  exact rt12 (ys := [.bool true, .bool true, .bool true, .bool true, .bool true, .bool true, .bool true]) (t_same (a4 := none) (by simp) okl) ga
theorem t_right {μ : Mu} {k : Nat} {c : Cell} (h : μ[k]? = some (some c)) (w : Wl 0 c) : ∃ c', f_law_right [.r k] μ = .ok (.d (.bool true)) (μ.set k (some c')) := by
  obtain ⟨x1, c1, e1, w1, a, rfl, ta, la, ba⟩ := t_line (few := 5) h w (by omega) (by omega) (by omega)
  have la : a.length ≤ 5 := Nat.le_trans la (by decide)
  have h1 : (μ.set k (some c1))[k]? = some (some c1) := get_set h
  obtain ⟨x2, c2, e2, w2, hf⟩ := t_part h1 w1 (by omega)
  rw [List.set_set] at e2
  have h2 : (μ.set k (some c2))[k]? = some (some c2) := get_set h
  have hf0 := hf
  obtain ⟨n, d, rfl, hn, h0, hd, _⟩ := hf0
  obtain ⟨b, c3, e3, w3, tb, lb, bb⟩ := t_two (w6 := .d (.tuple [.int n, .int d])) h2 w2 (by omega) la ba
  rw [List.set_set] at e3
  have h3 : (μ.set k (some c3))[k]? = some (some c3) := get_set h
  have sa : Sm a := ba.sm (by decide +kernel)
  have sb : Sm b := bb.sm (by decide +kernel)
  obtain ⟨y1, c4, e4, w4, k4⟩ := t_bent_row (f := 10) h3 w3 (by omega) (show a.length ≤ 400 by omega) sa
  rw [List.set_set] at e4
  have h4 : (μ.set k (some c4))[k]? = some (some c4) := get_set h
  obtain ⟨y2, c5, e5, w5, k5⟩ := t_bent_row (f := 10) h4 w4 (by omega) (show b.length ≤ 400 by omega) sb
  rw [List.set_set] at e5
  have h5 : (μ.set k (some c5))[k]? = some (some c5) := get_set h
  obtain ⟨y3, c6, e6, w6, k6⟩ := t_odd h5 w5 (by omega)
  rw [List.set_set] at e6
  have main : b_law_right (initR 8 [.r k]) μ = .ok (.rt (.d (.bool true))) (μ.set k (some c6)) := by
    rw [RT_is]
    show sSeq RT1 _ [some (.r k), none, none, none, none, none, none, none] μ = _
    rw [seq_ok (rt1 e1 e2), seq_ok (rt2 e3)]
    exact t_tail ta tb la lb ba bb hn h0 hd hf e4 e5 e6 k4 k5 k6
  refine ⟨c6, ?_⟩
  unfold f_law_right
  rw [run_rt main, take_set]
end LW
namespace LW
open PySem PySem.Spec TL
open L2 (atI ixN)
theorem law_told : ∀ ns : List Int, ns.length ≤ 63 → (∀ z ∈ ns, Builtin.Int.intBits z ≤ 1048576) → arity 1 f_law [.d (.list (ns.map PyData.int))] [] = .ok (.d (.bool true)) [] := by
  intro ns hn _
  have hj : ∃ j : Int, en gMax (aCons (eK (.int 2)) (aCons (en gMin (aCons (en gLen (aCons (eVar 0) aNil)) (aCons (eK (.int 4)) aNil))) aNil)) [some (.d (.list (ns.map PyData.int))), none] [] = .ok (.d (.int j)) [] ∧ 0 ≤ j ∧ j ≤ 100 := by
    refine ⟨if (if (4 : Int) < ns.length then 4 else (ns.length : Int)) > 2 then (if (4 : Int) < ns.length then 4 else (ns.length : Int)) else 2, ?_, ?_⟩
    · simp [gMax, gMin]
    · split <;> split <;> omega
  obtain ⟨j, ej, j0, j1⟩ := hj
  obtain ⟨ys, μ', e, _, hl, hr⟩ := lc_run (Iv := fun _ _ => True) (R := fun _ y => y = .bool true) (it := iR1 (aCons (en gMax (aCons (eK (.int 2)) (aCons (en gMin (aCons (en gLen (aCons (eVar 0) aNil)) (aCons (eK (.int 4)) aNil))) aNil))) aNil)) (xs := intL 0 j.toNat 1) (i := 1)
    (e := cF 1 f_law_right (aCons (cF 2 f_law_well (aCons (eVar 0) (aCons (eVar 1) aNil))) aNil)) (ρ := [some (.d (.list (ns.map PyData.int))), none]) (μ := []) (μ1 := [])
    (it_r1 (by rw [x_cons, ej]; rfl) (by omega) (by omega)) trivial (by rw [intL_len]; omega) fun x hx n μ _ => by
      obtain ⟨q, hq, rfl⟩ := List.mem_map.mp hx
      have hq : q < j.toNat := List.mem_range.mp hq
      have eq : (0 : Int) + (q : Int) * 1 = (q : Int) := by omega
      rw [eq]
      obtain ⟨c, e1, w⟩ := t_well (ns := ns) (i := q) (μ := μ) (by omega)
      obtain ⟨c', e2⟩ := t_right (k := μ.length) (μ := μ ++ [some c]) (by simp) w
      exact ⟨.bool true, μ ++ [some c'], by simp [e1, e2], trivial, rfl⟩
  have hb : ys = (List.replicate ys.length true).map PyData.bool := by
    apply List.ext_getElem?
    intro k
    by_cases hk : k < ys.length
    · have hk' : k < (intL 0 j.toNat 1).length := by omega
      rw [List.getElem?_eq_getElem hk, hr k _ _ (List.getElem?_eq_getElem hk') (List.getElem?_eq_getElem hk)]
      simp [hk]
    · rw [List.getElem?_eq_none (by omega), List.getElem?_eq_none (by simp; omega)]
  have ga : gAll [.d (.list ys)] μ' = .ok (.d (.bool true)) μ' := by
    rw [hb]
    show (match boolsOf ((List.replicate ys.length true).map PyData.bool) with
      | some bs => Out.ok (wBl (bs.all id)) μ'
      | none => Out.bad) = _
    rw [boolsOf_bools]
    simp
  show f_law [.d (.list (ns.map PyData.int))] [] = _
  have q : b_law [some (.d (.list (ns.map PyData.int))), none] [] = .ok (.rt (.d (.bool true))) μ' := by
    unfold b_law
    simp [e, ga]
  show (match b_law [some (.d (.list (ns.map PyData.int))), none] [] with
      | .ok (.rt w) μ' => leave 0 w μ'
      | .ok (.nx _) μ' => leave 0 (.d .none) μ'
      | .ok (.er x us _) μ' => match allD us with
        | some c => .err x (c.map Wv.d) (μ'.take 0)
        | none => .bad
      | _ => .bad) = _
  rw [q]
  rfl
end LW
open PySem PySem.W PyProof.Rows
set_option maxHeartbeats 0 in
theorem PySem.Challenge.cw_twoletters_k02_rows_of_anything_and_thei_holds : PySem.Challenge.rw_twoletters_k02_rows_of_anything_and_thei.Holds := by
  w_on; o_law; k_head; (case hw => w_witness2)
  k_fill
  refine TL.walk_G (l := PySem.Challenge.rw_twoletters_k02_rows_of_anything_and_thei) (n := 63) (k := 17) (x := "_law_script") (g := LW.f_law) rfl (by decide) rfl ⟨rfl, by decide, by decide⟩ (fun w h Y => PySem.W.kIn_of Y) ?F LW.law_told
  case F =>
    intro w mg fa h KX G hmg
    refine' LW.all_mk KX G hmg ?a0 ?l0 ?c0 ?k0 ?a1 ?l1 ?c1 ?k1 ?a2 ?l2 ?c2 ?k2 ?a3 ?l3 ?c3 ?k3 ?a4 ?l4 ?c4 ?k4 ?a5 ?l5 ?c5 ?k5 ?a6 ?l6 ?c6 ?k6 ?a7 ?l7 ?c7 ?k7 ?a8 ?l8 ?c8 ?k8 ?a9 ?l9 ?c9 ?k9 ?a10 ?l10 ?c10 ?k10 ?a11 ?l11 ?c11 ?k11 ?a12 ?l12 ?c12 ?k12 ?a13 ?l13 ?c13 ?k13 ?a14 ?l14 ?c14 ?k14 ?a15 ?l15 ?c15 ?k15 ?a16 ?l16 ?c16 ?k16 ?a17 ?l17 ?c17 ?k17 ?a18 ?l18 ?c18 ?k18 ?a19 ?l19 ?c19 ?k19 ?a20 ?l20 ?c20 ?k20 ?a21 ?l21 ?c21 ?k21 ?a22 ?l22 ?c22 ?k22 ?a23 ?l23 ?c23 ?k23 ?a24 ?l24 ?c24 ?k24 ?a25 ?l25 ?c25 ?k25 ?a26 ?l26 ?c26 ?k26 ?a27 ?l27 ?c27 ?k27 ?a28 ?l28 ?c28 ?k28 ?a29 ?l29 ?c29 ?k29 ?a30 ?l30 ?c30 ?k30 ?a31 ?l31 ?c31 ?k31 ?a32 ?l32 ?c32 ?k32 ?a33 ?l33 ?c33 ?k33 ?a34 ?l34 ?c34 ?k34 ?a35 ?l35 ?c35 ?k35 ?a36 ?l36 ?c36 ?k36 ?a37 ?l37 ?c37 ?k37 ?a38 ?l38 ?c38 ?k38 ?a39 ?l39 ?c39 ?k39 ?a40 ?l40 ?c40 ?k40 ?a41 ?l41 ?c41 ?k41 ?a42 ?l42 ?c42 ?k42 ?a43 ?l43 ?c43 ?k43 ?a44 ?l44 ?c44 ?k44 ?a45 ?l45 ?c45 ?k45 ?a46 ?l46 ?c46 ?k46 ?a47 ?l47 ?c47 ?k47 ?a48 ?l48 ?c48 ?k48 ?a49 ?l49 ?c49 ?k49 ?a50 ?l50 ?c50 ?k50 ?a51 ?l51 ?c51 ?k51 ?a52 ?l52 ?c52 ?k52 ?a53 ?l53 ?c53 ?k53 ?z_abs ?z_all ?z_bool ?z_divmod ?z_enumerate ?z_int ?z_isinstance ?z_len ?z_list ?z_max ?z_min ?z_range ?z_repr ?z_tuple ?z_zip ?m_gcd ?g_ZERO ?laZERO_0
    (case a0 => k_is); (case l0 => k_is); (case c0 => k_is); (case k0 => k_is); (case a1 => k_is); (case l1 => k_is); (case c1 => k_is); (case k1 => k_is); (case a2 => k_is); (case l2 => k_is); (case c2 => k_is); (case k2 => k_is); (case a3 => k_is); (case l3 => k_is); (case c3 => k_is); (case k3 => k_is); (case a4 => k_is); (case l4 => k_is); (case c4 => k_is); (case k4 => k_is); (case a5 => k_is); (case l5 => k_is); (case c5 => k_is); (case k5 => k_is); (case a6 => k_is); (case l6 => k_is); (case c6 => k_is); (case k6 => k_is); (case a7 => k_is); (case l7 => k_is); (case c7 => k_is); (case k7 => k_is); (case a8 => k_is); (case l8 => k_is); (case c8 => k_is); (case k8 => k_is); (case a9 => k_is); (case l9 => k_is); (case c9 => k_is); (case k9 => k_is); (case a10 => k_is); (case l10 => k_is); (case c10 => k_is); (case k10 => k_is); (case a11 => k_is); (case l11 => k_is); (case c11 => k_is); (case k11 => k_is); (case a12 => k_is); (case l12 => k_is); (case c12 => k_is); (case k12 => k_is); (case a13 => k_is); (case l13 => k_is); (case c13 => k_is); (case k13 => k_is); (case a14 => k_is); (case l14 => k_is); (case c14 => k_is); (case k14 => k_is); (case a15 => k_is); (case l15 => k_is); (case c15 => k_is); (case k15 => k_is); (case a16 => k_is); (case l16 => k_is); (case c16 => k_is); (case k16 => k_is); (case a17 => k_is); (case l17 => k_is); (case c17 => k_is); (case k17 => k_is); (case a18 => k_is); (case l18 => k_is); (case c18 => k_is); (case k18 => k_is); (case a19 => k_is); (case l19 => k_is); (case c19 => k_is); (case k19 => k_is); (case a20 => k_is); (case l20 => k_is); (case c20 => k_is); (case k20 => k_is); (case a21 => k_is); (case l21 => k_is); (case c21 => k_is); (case k21 => k_is); (case a22 => k_is); (case l22 => k_is); (case c22 => k_is); (case k22 => k_is); (case a23 => k_is); (case l23 => k_is); (case c23 => k_is); (case k23 => k_is); (case a24 => k_is); (case l24 => k_is); (case c24 => k_is); (case k24 => k_is); (case a25 => k_is); (case l25 => k_is); (case c25 => k_is); (case k25 => k_is); (case a26 => k_is); (case l26 => k_is); (case c26 => k_is); (case k26 => k_is); (case a27 => k_is); (case l27 => k_is); (case c27 => k_is); (case k27 => k_is); (case a28 => k_is); (case l28 => k_is); (case c28 => k_is); (case k28 => k_is); (case a29 => k_is); (case l29 => k_is); (case c29 => k_is); (case k29 => k_is); (case a30 => k_is); (case l30 => k_is); (case c30 => k_is); (case k30 => k_is); (case a31 => k_is); (case l31 => k_is); (case c31 => k_is); (case k31 => k_is); (case a32 => k_is); (case l32 => k_is); (case c32 => k_is); (case k32 => k_is); (case a33 => k_is); (case l33 => k_is); (case c33 => k_is); (case k33 => k_is); (case a34 => k_is); (case l34 => k_is); (case c34 => k_is); (case k34 => k_is); (case a35 => k_is); (case l35 => k_is); (case c35 => k_is); (case k35 => k_is); (case a36 => k_is); (case l36 => k_is); (case c36 => k_is); (case k36 => k_is); (case a37 => k_is); (case l37 => k_is); (case c37 => k_is); (case k37 => k_is); (case a38 => k_is); (case l38 => k_is); (case c38 => k_is); (case k38 => k_is); (case a39 => k_is); (case l39 => k_is); (case c39 => k_is); (case k39 => k_is); (case a40 => k_is); (case l40 => k_is); (case c40 => k_is); (case k40 => k_is); (case a41 => k_is); (case l41 => k_is); (case c41 => k_is); (case k41 => k_is); (case a42 => k_is); (case l42 => k_is); (case c42 => k_is); (case k42 => k_is); (case a43 => k_is); (case l43 => k_is); (case c43 => k_is); (case k43 => k_is); (case a44 => k_is); (case l44 => k_is); (case c44 => k_is); (case k44 => k_is); (case a45 => k_is); (case l45 => k_is); (case c45 => k_is); (case k45 => k_is); (case a46 => k_is); (case l46 => k_is); (case c46 => k_is); (case k46 => k_is); (case a47 => k_is); (case l47 => k_is); (case c47 => k_is); (case k47 => k_is); (case a48 => k_is); (case l48 => k_is); (case c48 => k_is); (case k48 => k_is); (case a49 => k_is); (case l49 => k_is); (case c49 => k_is); (case k49 => k_is); (case a50 => k_is); (case l50 => k_is); (case c50 => k_is); (case k50 => k_is); (case a51 => k_is); (case l51 => k_is); (case c51 => k_is); (case k51 => k_is); (case a52 => k_is); (case l52 => k_is); (case c52 => k_is); (case k52 => k_is); (case a53 => k_is); (case l53 => k_is); (case c53 => k_is); (case k53 => k_is); (case z_abs => k_is); (case z_all => k_is); (case z_bool => k_is); (case z_divmod => k_is); (case z_enumerate => k_is); (case z_int => k_is); (case z_isinstance => k_is); (case z_len => k_is); (case z_list => k_is); (case z_max => k_is); (case z_min => k_is); (case z_range => k_is); (case z_repr => k_is); (case z_tuple => k_is); (case z_zip => k_is); (case m_gcd => k_is); (case g_ZERO => k_is); (case laZERO_0 => k_is)
