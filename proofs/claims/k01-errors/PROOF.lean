import PyProof.Rows.All
import Wide.All
import OpenK.AllK
import Wide.FinOn
import HandS.ForExc
import HandS.Comp
import HandS.Iter
import HandS.Dict
import HandS.Text
import HandS.TupAny
import HandS.Zip
import HandS.IsInst
import HandS.WideBits
import HandS.Gcd
import HandS.Lambda
import HandS.ExcInit
import PyProof.Rows.EqBoolInt
import PyProof.Rows.IntBool
import PyProof.ReprRoads
import PyProof.P3In
import HandS.EndBits
import HandS.RaiseMore
import HandS.Style
import HandS.TupMul
import HandS.Defaults
import KE.GoesMore
import HandS.HeadHook3
import HandS.Strs
import HandS.Codes
import HandS.StrMore
import PyProof.Rows.StrMul
import HandS.ExcOwn
import HandS.WordsExc
import HandS.TryOnly
import HandS.EndTab
import HandS.Star
import Open.SpecLaws
import KE.OsGo
import HandS.ForSpec
import HandS.ExcField
import HandS.ExcIs
import HandS.ExcValue
import HandS.MakeKw
import HandS.MakeKwOnly
import PySem.Challenge.RW_twoletters_k01_errors_each_of_its_own
set_option Elab.async false
set_option linter.all false
set_option maxRecDepth 100000
set_option maxHeartbeats 4000000
/-! TL0: values, stores, outcomes; how they lie in the abstract heap. -/
namespace TL
open PySem PySem.Spec L2
abbrev St := L2.St
/-- the kinds of the first cells: an instance of the class at C, its fields (data, or the cell that they are), a dict of texts, a list -/
inductive OKd where
  | ins (C : Addr) (fs : List (Str × Option Nat))
  | dic
  | lst
/-- the tables of code objects, each with the name that all its code objects bear; the fields of the errors; the kinds of the first cells -/
class TabN where
  T : List (Addr × Str)
  F : Str → List Str
  O : List OKd
abbrev noTab : TabN := ⟨[], fun _ => [], []⟩
/-- the table at P as it lies, its code objects frozen -/
def TabF (F H : Hp) (P : Addr) (q : Str) : Prop := ∃ ps : Array Value, H P = some (.tbl ps) ∧ TriplesOk ps.toList ∧ ∀ (pos : Pos) (cv : Value), codeAmong pos ps.toList = some cv → ∃ c, cv = .ref c ∧ F c = some (LamX.CodeO c q)
theorem TabF.mono {F F' H H' : Hp} {P : Addr} {q : Str} (t : TabF F H P q) (s : ∀ b o, F b = some o → F' b = some o) (h : ∀ ps, H P = some (.tbl ps) → H' P = some (.tbl ps)) : TabF F' H' P q := by
  obtain ⟨ps, h1, h2, h3⟩ := t
  exact ⟨ps, h _ h1, h2, fun pos cv e => let ⟨c, e1, e2⟩ := h3 pos cv e; ⟨c, e1, s _ _ e2⟩⟩
/-- nothing stands there, or a table -/
def Fr (H : Hp) (a : Addr) : Prop := ∀ o, H a = some o → ∃ ps, o = .tbl ps
theorem Fr.of {H : Hp} {a : Addr} (h : H a = none) : Fr H a := fun o z => by
  rw [h] at z
  cases z
theorem Fr.no {H : Hp} {a : Addr} {o : HO} (h : Fr H a) (e : H a = some o) (nt : ∀ ps, o ≠ .tbl ps := by intro _ z; cases z) : False := let ⟨ps, z⟩ := h o e; nt ps z
theorem Fr.back {H : Hp} {p a : Addr} {o : HO} (hp : H p = none) (h : Fr (upd H p o) a) : Fr H a := by
  by_cases e : a = p
  · rw [e]
    exact .of hp
  · intro u hu
    exact h u (by rw [upd_ne e]; exact hu)
theorem Fr.put {H : Hp} {p a : Addr} {o : HO} (n : ¬ Fr H a) (e : a ≠ p) : ¬ Fr (upd H p o) a := fun h => n fun u hu => h u (by rw [upd_ne e]; exact hu)
/-- the tables stand, none is frozen -/
structure TabsOk [TabN] (F H : Hp) : Prop where
  tab : ∀ p ∈ TabN.T, TabF F H p.1 p.2
  out : TabN.T ≠ [] → ∀ b ps, F b ≠ some (.tbl ps)
theorem TabsOk.step [TabN] {F F' H H' : Hp} (t : TabsOk F H) (s : ∀ b o, F b = some o → F' b = some o) (h : ∀ b ps, H b = some (.tbl ps) → H' b = some (.tbl ps)) (n1 : ∀ b ps, F' b = some (.tbl ps) → F b = some (.tbl ps)) : TabsOk F' H' :=
  ⟨fun p hp => (t.tab p hp).mono s (h p.1), fun hn b ps z => t.out hn b ps (n1 b ps z)⟩
theorem tbl_upd {H : Hp} {p : Addr} {o : HO} (nt : ∀ ps, o ≠ .tbl ps) {b : Addr} {ps : Array Value} (h : upd H p o b = some (.tbl ps)) : H b = some (.tbl ps) := by
  by_cases e : b = p
  · subst e
    rw [upd_same] at h
    cases h
    exact absurd rfl (nt ps)
  · rw [upd_ne e] at h
    exact h
theorem tbl_keep {H : Hp} {p : Addr} {o : HO} (hp : ∀ ps, H p ≠ some (.tbl ps)) {b : Addr} {ps : Array Value} (h : H b = some (.tbl ps)) : upd H p o b = some (.tbl ps) := by
  rw [upd_ne (fun (e : b = p) => hp ps (e ▸ h))]
  exact h
variable [TabN]

/-- a list of the module, known to the object -/
def LsK (K : PySem.W.Frag) (a : Addr) (xs : List V) : Prop := ∃ (its : List Value) (n : Nat), K.lookup a = some { cls := .type "list", data := .seq its.toArray n } ∧ xs.length ≤ sizeLine ∧ Vals xs its
/-- a list that stays as it is -/
def Ls (K : PySem.W.Frag) (H : Hp) (a : Addr) (xs : List V) : Prop := Rd H a (.lst xs) ∨ LsK K a xs
theorem Ls.of {K : PySem.W.Frag} {H : Hp} {a : Addr} {xs : List V} (h : H a = some (.lst xs)) : Ls K H a xs := .inl (.of h)
theorem Ls.sq {K : PySem.W.Frag} {H : Hp} {a : Addr} {xs : List V} (h : Ls K H a xs) : SqL K H a xs := by
  rcases h with h | ⟨its, n, h, hz, r⟩
  · exact .inl h
  · exact .inr ⟨_, its.toArray, n, h, rfl, rfl, rfl, by rw [List.size_toArray, ← r.length]; exact hz, by simpa using r⟩
theorem Ls.ob {X : Cx} {pins : List (Addr × Obj)} {σ : L2.St} {H : Hp} {s : Shared} {a : Addr} {xs : List V} (h : Ls X.K H a xs) (I : Inv X pins σ H s) : xs.length ≤ sizeLine ∧ ∃ (its : List Value) (n : Nat), Vals xs its ∧ s.heap.get? a = some { cls := .type "list", data := .seq its.toArray n } := by
  rcases h with h | ⟨its, n, h, hz, r⟩
  · obtain ⟨z, its, n, r, e⟩ := h.ok I.hok
    exact ⟨z, its, n, r, e⟩
  · exact ⟨hz, its, n, r, I.kIn a _ h⟩

/-! ### data in the abstract heap -/
mutual
inductive Dq (K : PySem.W.Frag) (H : Hp) : V → PyData → Prop
  | non : Dq K H .non .none
  | bl (b : Bool) : Dq K H (.bl b) (.bool b)
  | int (i : Int) : Dq K H (.int i) (.int i)
  | str (x : Str) : Dq K H (.str x) (.str x)
  | lst {a : Addr} {xs : List V} {ds : List PyData} : Ls K H a xs → DqAll K H xs ds → Dq K H (.ref a) (.list ds)
  | tup {a : Addr} {xs : List V} {ds : List PyData} : SqT K H a xs → DqAll K H xs ds → Dq K H (.ref a) (.tuple ds)
  | dic {a : Addr} : H a = some (.dK []) → Dq K H (.ref a) (.dict [])
inductive DqAll (K : PySem.W.Frag) (H : Hp) : List V → List PyData → Prop
  | nil : DqAll K H [] []
  | cons {v : V} {vs : List V} {d : PyData} {ds : List PyData} : Dq K H v d → DqAll K H vs ds → DqAll K H (v :: vs) (d :: ds)
end

theorem sameR {H H' : Hp} {a : Addr} {u : HO} (e : Same H H') (h : Rd H a u) : Rd H' a u := by
  rcases h with h | ⟨o, h⟩
  · exact .inl (e _ _ h)
  · exact .inr ⟨o, e _ _ h⟩
theorem sameL {K : PySem.W.Frag} {H H' : Hp} {a : Addr} {xs : List V} (e : Same H H') (h : Ls K H a xs) : Ls K H' a xs := h.elim (fun z => .inl (sameR e z)) .inr
theorem sameT {K : PySem.W.Frag} {H H' : Hp} {a : Addr} {xs : List V} (e : Same H H') (h : SqT K H a xs) : SqT K H' a xs := by
  rcases h with (h | ⟨o, h⟩) | h
  · exact .inl (.inl (e _ _ h))
  · exact .inl (.inr ⟨o, e _ _ h⟩)
  · exact .inr h
section
variable {K : PySem.W.Frag} {H H' : Hp}
mutual
theorem Dq.mono (e : Same H H') : ∀ {v : V} {d : PyData}, Dq K H v d → Dq K H' v d
  | _, _, .non => .non
  | _, _, .bl b => .bl b
  | _, _, .int i => .int i
  | _, _, .str x => .str x
  | _, _, .lst h hs => .lst (sameL e h) (hs.mono e)
  | _, _, .tup h hs => .tup (sameT e h) (hs.mono e)
  | _, _, .dic h => .dic (e _ _ h)
theorem DqAll.mono (e : Same H H') : ∀ {vs : List V} {ds : List PyData}, DqAll K H vs ds → DqAll K H' vs ds
  | _, _, .nil => .nil
  | _, _, .cons h hs => .cons (h.mono e) (hs.mono e)
end
theorem DqAll.length : ∀ {vs : List V} {ds : List PyData}, DqAll K H vs ds → vs.length = ds.length
  | _, _, .nil => rfl
  | _, _, .cons _ h => congrArg Nat.succ (DqAll.length h)
theorem DqAll.get : ∀ {vs : List V} {ds : List PyData} {i : Nat} {d : PyData}, DqAll K H vs ds → ds[i]? = some d → ∃ v, vs[i]? = some v ∧ Dq K H v d
  | _, _, _, _, .nil, e => by simp at e
  | _, _, 0, _, .cons r _, e => by
    simp at e
    subst e
    exact ⟨_, rfl, r⟩
  | _, _, i + 1, x, .cons _ t, e => by
    obtain ⟨u, h1, h2⟩ := DqAll.get (i := i) (d := x) t (by simpa using e)
    exact ⟨u, by simpa using h1, h2⟩
theorem DqAll.getV : ∀ {vs : List V} {ds : List PyData} {i : Nat} {v : V}, DqAll K H vs ds → vs[i]? = some v → ∃ d, ds[i]? = some d ∧ Dq K H v d
  | _, _, _, _, .nil, e => by simp at e
  | _, _, 0, _, .cons r _, e => by
    simp at e
    subst e
    exact ⟨_, rfl, r⟩
  | _, _, i + 1, x, .cons _ t, e => by
    obtain ⟨u, h1, h2⟩ := DqAll.getV (i := i) (v := x) t (by simpa using e)
    exact ⟨u, by simpa using h1, h2⟩
theorem DqAll.append : ∀ {vs ws : List V} {ds es : List PyData}, DqAll K H vs ds → DqAll K H ws es → DqAll K H (vs ++ ws) (ds ++ es)
  | _, _, _, _, .nil, s => s
  | _, _, _, _, .cons r t, s => .cons r (DqAll.append t s)
theorem DqAll.take : ∀ {vs : List V} {ds : List PyData} (n : Nat), DqAll K H vs ds → DqAll K H (vs.take n) (ds.take n)
  | _, _, 0, _ => .nil
  | _, _, _ + 1, .nil => .nil
  | _, _, n + 1, .cons r t => .cons r (DqAll.take n t)
theorem DqAll.drop : ∀ {vs : List V} {ds : List PyData} (n : Nat), DqAll K H vs ds → DqAll K H (vs.drop n) (ds.drop n)
  | _, _, 0, r => r
  | _, _, _ + 1, .nil => .nil
  | _, _, n + 1, .cons _ t => DqAll.drop n t
theorem DqAll.set {v : V} {d : PyData} (r : Dq K H v d) : ∀ {vs : List V} {ds : List PyData} (i : Nat), DqAll K H vs ds → DqAll K H (vs.set i v) (ds.set i d)
  | _, _, _, .nil => .nil
  | _, _, 0, .cons _ t => .cons r t
  | _, _, i + 1, .cons q t => .cons q (DqAll.set r i t)
theorem DqAll.dropLast {vs : List V} {ds : List PyData} (h : DqAll K H vs ds) : DqAll K H vs.dropLast ds.dropLast := by
  rw [List.dropLast_eq_take, List.dropLast_eq_take, h.length]
  exact h.take _
theorem DqAll.reverse : ∀ {vs : List V} {ds : List PyData}, DqAll K H vs ds → DqAll K H vs.reverse ds.reverse
  | _, _, .nil => .nil
  | _, _, .cons r t => by
    rw [List.reverse_cons, List.reverse_cons]
    exact (DqAll.reverse t).append (.cons r .nil)
theorem DqAll.replicate {v : V} {d : PyData} (r : Dq K H v d) : ∀ n : Nat, DqAll K H (List.replicate n v) (List.replicate n d)
  | 0 => .nil
  | n + 1 => .cons r (DqAll.replicate r n)
theorem DqAll.flat {vs : List V} {ds : List PyData} (h : DqAll K H vs ds) : ∀ n : Nat, DqAll K H (List.replicate n vs).flatten (List.replicate n ds).flatten
  | 0 => .nil
  | n + 1 => by
    rw [List.replicate_succ, List.replicate_succ, List.flatten_cons, List.flatten_cons]
    exact h.append (DqAll.flat h n)
theorem DqAll.ints : ∀ {vs : List V} {ns : List Int}, DqAll K H vs (ns.map PyData.int) → vs = ns.map V.int
  | _, [], h => by
    cases h
    rfl
  | _, n :: ns, h => by
    cases h with
    | cons r t =>
      cases r
      rw [DqAll.ints t]
      rfl
theorem DqAll.bools : ∀ {vs : List V} {ns : List Bool}, DqAll K H vs (ns.map PyData.bool) → vs = ns.map V.bl
  | _, [], h => by
    cases h
    rfl
  | _, n :: ns, h => by
    cases h with
    | cons r t =>
      cases r
      rw [DqAll.bools t]
      rfl
theorem DqAll.strs : ∀ {vs : List V} {ns : List Str}, DqAll K H vs (ns.map PyData.str) → vs = ns.map V.str
  | _, [], h => by
    cases h
    rfl
  | _, n :: ns, h => by
    cases h with
    | cons r t =>
      cases r
      rw [DqAll.strs t]
      rfl
end

theorem Paired.app {β γ : Type} {R : β → γ → Prop} : ∀ {l l2 : List β} {m m2 : List γ}, Paired R l m → Paired R l2 m2 → Paired R (l ++ l2) (m ++ m2)
  | _, _, _, _, .nil, h => h
  | _, _, _, _, .cons r t, h => .cons r (Paired.app t h)
theorem Paired.at_ {β γ : Type} {R : β → γ → Prop} : ∀ {l : List β} {m : List γ} {i : Nat}, Paired R l m → i < l.length → ∃ b c, l[i]? = some b ∧ m[i]? = some c ∧ R b c
  | _, _, i, .nil, h => absurd h (Nat.not_lt_zero _)
  | _, _, 0, .cons r t, _ => ⟨_, _, rfl, rfl, r⟩
  | _, _, i + 1, .cons r t, h => by
    obtain ⟨b, c, h1, h2, h3⟩ := Paired.at_ t (Nat.lt_of_succ_lt_succ h)
    exact ⟨b, c, by simpa using h1, by simpa using h2, h3⟩

/-! ### values, stores, outcomes -/
inductive Wv where
  | d (x : PyData)
  | r (k : Nat)
  /-- a tuple that a display has made, known to its object -/
  | t (xs : List PyData)
  /-- an object: a cell of another kind -/
  | o (k : Nat)
  /-- an error held as a value: the name of its class, where the class stands, its field and what is in it -/
  | x (n : Str) (C : Addr) (o : Option (Str × PyData))
abbrev Cell := List PyData
abbrev Mu := List (Option Cell)
abbrev Rho := List (Option Wv)
inductive Out (α : Type) where
  | ok (a : α) (μ : Mu)
  | err (x : Str) (ws : List Wv) (μ : Mu)
  | bad
def Out.bind {α β : Type} (o : Out α) (k : α → Mu → Out β) : Out β :=
  match o with
  | .ok a μ => k a μ
  | .err x ws μ => .err x ws μ
  | .bad => .bad
@[simp] theorem Out.bind_ok {α β : Type} (a : α) (μ : Mu) (k : α → Mu → Out β) : (Out.ok a μ).bind k = k a μ := rfl
@[simp] theorem Out.bind_err {α β : Type} (x : Str) (ws : List Wv) (μ : Mu) (k : α → Mu → Out β) : (Out.err x ws μ).bind k = .err x ws μ := rfl
@[simp] theorem Out.bind_bad {α β : Type} (k : α → Mu → Out β) : (Out.bad : Out α).bind k = .bad := rfl

/-- the cell k is a list -/
def isL (k : Nat) : Prop := TabN.O[k]? = none ∨ TabN.O[k]? = some .lst
theorem isL_of {k : Nat} (h : TabN.O.length ≤ k) : isL k := .inl (List.getElem?_eq_none h)
/-- how an object lies -/
def OKd.lies (K : PySem.W.Frag) (α : List Addr) (F H : Hp) (a : Addr) (c : Cell) : OKd → Prop
  | .ins C fs => ∃ dx gs, H a = some (.ins C dx gs) ∧ gs.length ≤ 100 ∧ (∀ f, gs.lookup f ≠ none → f ∈ fs.map (·.1)) ∧ c.length = fs.length ∧
      (∀ (i : Nat) (f : Str), fs[i]? = some (f, none) → ∃ (v : V) (x : PyData), gs.lookup f = some v ∧ c[i]? = some x ∧ Dq K F v x) ∧ (∀ (i : Nat) (f : Str) (j : Nat), fs[i]? = some (f, some j) → ∃ b, gs.lookup f = some (.ref b) ∧ α[j]? = some b ∧ j < TabN.O.length)
  | .dic => ∃ kvs, H a = some (.dK kvs) ∧ Paired (fun (p : Key × V) (x : PyData) => ∃ w y, p.1 = Sum.inr w ∧ x = .tuple [.str w, y] ∧ Dq K F p.2 y) kvs c
  | .lst => ∃ vs, H a = some (.lst vs) ∧ DqAll K F vs c
def Lie (K : PySem.W.Frag) (α : List Addr) (F H : Hp) (k : Nat) (a : Addr) (c : Cell) : Prop := ((TabN.O[k]?).getD .lst).lies K α F H a c
theorem OKd.lies_mono {K : PySem.W.Frag} {α α' : List Addr} {F F' H H' : Hp} {a : Addr} {c : Cell} {q : OKd} (h : q.lies K α F H a c) (e : ∀ u, H a = some u → H' a = some u) (sF : Same F F') (pre : ∀ j b, j < TabN.O.length → α[j]? = some b → α'[j]? = some b) : q.lies K α' F' H' a c := by
  cases q with
  | ins C fs =>
    obtain ⟨dx, gs, h1, h2, h3, h4, h5, h6⟩ := h
    exact ⟨dx, gs, e _ h1, h2, h3, h4, fun i f z => let ⟨v, x, g1, g2, g3⟩ := h5 i f z; ⟨v, x, g1, g2, g3.mono sF⟩, fun i f j z => let ⟨b, g1, g2, g3⟩ := h6 i f j z; ⟨b, g1, pre _ _ g3 g2, g3⟩⟩
  | dic =>
    obtain ⟨kvs, h1, h2⟩ := h
    exact ⟨kvs, e _ h1, Paired.mapP h2 fun p x ⟨w, y, g1, g2, g3⟩ => ⟨w, y, g1, g2, g3.mono sF⟩⟩
  | lst =>
    obtain ⟨vs, h1, h2⟩ := h
    exact ⟨vs, e _ h1, h2.mono sF⟩
theorem Lie.mono {K : PySem.W.Frag} {α α' : List Addr} {F F' H H' : Hp} {k : Nat} {a : Addr} {c : Cell} (h : Lie K α F H k a c) (e : ∀ u, H a = some u → H' a = some u) (sF : Same F F') (pre : ∀ j b, j < TabN.O.length → α[j]? = some b → α'[j]? = some b) : Lie K α' F' H' k a c := OKd.lies_mono h e sF pre
theorem Lie.obj {K : PySem.W.Frag} {α : List Addr} {F H : Hp} {k : Nat} {a : Addr} {c : Cell} (h : Lie K α F H k a c) : ∃ u, H a = some u ∧ ∀ ps, u ≠ .tbl ps := by
  unfold Lie at h
  cases hq : (TabN.O[k]?).getD .lst with
  | ins C fs =>
    rw [hq] at h
    obtain ⟨dx, gs, h1, _⟩ := h
    exact ⟨_, h1, fun _ z => by cases z⟩
  | dic =>
    rw [hq] at h
    obtain ⟨kvs, h1, _⟩ := h
    exact ⟨_, h1, fun _ z => by cases z⟩
  | lst =>
    rw [hq] at h
    obtain ⟨vs, h1, _⟩ := h
    exact ⟨_, h1, fun _ z => by cases z⟩
theorem isL.kd {k : Nat} (h : isL k) : (TabN.O[k]?).getD .lst = .lst := by
  rcases h with h | h <;> rw [h] <;> rfl
theorem Lie.lst {K : PySem.W.Frag} {α : List Addr} {F H : Hp} {k : Nat} {a : Addr} {c : Cell} (h : Lie K α F H k a c) (hk : isL k) : ∃ vs, H a = some (.lst vs) ∧ DqAll K F vs c := by
  unfold Lie at h
  rw [hk.kd] at h
  exact h
theorem Lie.of {K : PySem.W.Frag} {α : List Addr} {F H : Hp} {k : Nat} {a : Addr} {c : Cell} {vs : List V} (hk : isL k) (h1 : H a = some (.lst vs)) (h2 : DqAll K F vs c) : Lie K α F H k a c := by
  unfold Lie
  rw [hk.kd]
  exact ⟨vs, h1, h2⟩
/-- how an error lies -/
def XLies (K : PySem.W.Frag) (F : Hp) (a C : Addr) : Option (Str × PyData) → Prop
  | none => F a = some (exo a C none)
  | some q => ∃ d u, F a = some (exo a C (some d)) ∧ F d = some (exd d [(q.1, u)]) ∧ Dq K F u q.2
theorem XLies.mono {K : PySem.W.Frag} {F F' : Hp} {a C : Addr} {o : Option (Str × PyData)} (h : XLies K F a C o) (s : Same F F') : XLies K F' a C o := by
  cases o with
  | none => exact s _ _ h
  | some q =>
    obtain ⟨d, u, h1, h2, h3⟩ := h
    exact ⟨d, u, s _ _ h1, s _ _ h2, h3.mono s⟩
/-- a value: data frozen in F, or the address of a cell -/
def Rw (K : PySem.W.Frag) (α : List Addr) (F : Hp) : V → Wv → Prop
  | v, .d x => Dq K F v x
  | v, .r k => ∃ a, α[k]? = some a ∧ v = .ref a ∧ isL k
  | v, .o k => ∃ a, α[k]? = some a ∧ v = .ref a
  | v, .t ds => ∃ a o vs, v = .ref a ∧ F a = some (.frz o (.tup vs)) ∧ o.cls = .type "tuple" ∧ o.dict = none ∧ DqAll K F vs ds
  | v, .x _ C o => ∃ a, v = .ref a ∧ XLies K F a C o
abbrev Rws (K : PySem.W.Frag) (α : List Addr) (F : Hp) : List V → List Wv → Prop := Paired (Rw K α F)
/-- the slots -/
structure RepE (K : PySem.W.Frag) (α : List Addr) (F : Hp) (ρ : Rho) (σ : St) : Prop where
  len : ρ.length = σ.length
  at_ : ∀ (i : Nat) (w : Wv), ρ[i]? = some (some w) → ∃ v, σ[i]? = some (some v) ∧ Rw K α F v w
/-- the store: F is what is frozen, α the cells' addresses -/
structure Rep (K : PySem.W.Frag) (α : List Addr) (F : Hp) (μ : Mu) (H : Hp) : Prop where
  len : μ.length = α.length
  sub : Same F H
  len0 : TabN.O.length ≤ α.length
  cell : ∀ (k : Nat) (c : Cell), μ[k]? = some (some c) → ∃ a, α[k]? = some a ∧ F a = none ∧ Lie K α F H k a c
  inj : ∀ (i j : Nat) (a : Addr) (c c' : Cell), μ[i]? = some (some c) → μ[j]? = some (some c') → α[i]? = some a → α[j]? = some a → i = j
  had : ∀ a ∈ α, ¬ Fr H a
  tab : TabsOk F H
/-- an object that may be a cell -/
inductive IsC : HO → Prop
  | lst (xs : List V) : IsC (.lst xs)
  | ins (C dx : Addr) (fs : List (Str × V)) : IsC (.ins C dx fs)
  | dK (kvs : List (Key × V)) : IsC (.dK kvs)
theorem IsC.nt {u : HO} (c : IsC u) (ps : Array Value) : u ≠ .tbl ps := by cases c <;> exact fun z => nomatch z
structure Ext (α : List Addr) (F H : Hp) (α' : List Addr) (F' H' : Hp) : Prop where
  pre : ∃ β, α' = α ++ β
  fro : Same F F'
  frame : ∀ a o, H a = some o → a ∉ α → (∀ ps, o ≠ .tbl ps) → H' a = some o
  keep : ∀ a, Fr H' a → Fr H a
  newF : ∀ a u, H a = some u → IsC u → F' a ≠ none → F a ≠ none ∨ a ∈ α
  newA : ∀ a ∈ α', a ∈ α ∨ Fr H a
section
variable {K : PySem.W.Frag} {α α' α'' : List Addr} {F F' F'' H H' H'' : Hp} {μ μ' : Mu}
theorem Ext.refl : Ext α F H α F H := ⟨⟨[], by simp⟩, Same.refl _, fun _ _ h _ _ => h, fun _ h => h, fun _ _ _ _ h => .inl h, fun _ h => .inl h⟩
theorem Ext.mem (e : Ext α F H α' F' H') {a : Addr} (h : a ∈ α) : a ∈ α' := by
  obtain ⟨β, rfl⟩ := e.pre
  exact List.mem_append_left _ h
theorem Ext.trans (e : Ext α F H α' F' H') (e' : Ext α' F' H' α'' F'' H'') : Ext α F H α'' F'' H'' where
  pre := by
    obtain ⟨β, rfl⟩ := e.pre
    obtain ⟨γ, rfl⟩ := e'.pre
    exact ⟨β ++ γ, by simp⟩
  fro := e.fro.trans e'.fro
  frame := fun a o h n nt => e'.frame a o (e.frame a o h n nt) (fun m => by
    rcases e.newA a m with q | q
    · exact n q
    · exact q.no h nt) nt
  keep := fun a h => e.keep a (e'.keep a h)
  newF := fun a xs ha c h => by
    by_cases na : a ∈ α
    · exact .inr na
    · rcases e'.newF a xs (e.frame a _ ha na c.nt) c h with q | q
      · exact e.newF a xs ha c q
      · rcases e.newA a q with q | q
        · exact .inr q
        · exact (q.no ha c.nt).elim
  newA := fun a h => by
    rcases e'.newA a h with q | q
    · exact e.newA a q
    · exact .inr (e.keep a q)
theorem Rw.ext {v : V} {w : Wv} (r : Rw K α F v w) (e : Ext α F H α' F' H') : Rw K α' F' v w := by
  cases w with
  | d x => exact Dq.mono e.fro r
  | r k =>
    obtain ⟨a, h, rfl, hk⟩ := r
    obtain ⟨β, rfl⟩ := e.pre
    exact ⟨a, by rw [List.getElem?_append_left (List.getElem?_eq_some_iff.mp h).1]; exact h, rfl, hk⟩
  | o k =>
    obtain ⟨a, h, rfl⟩ := r
    obtain ⟨β, rfl⟩ := e.pre
    exact ⟨a, by rw [List.getElem?_append_left (List.getElem?_eq_some_iff.mp h).1]; exact h, rfl⟩
  | t ds =>
    obtain ⟨a, o, vs, rfl, h1, h2, h3, h4⟩ := r
    exact ⟨a, o, vs, rfl, e.fro _ _ h1, h2, h3, h4.mono e.fro⟩
  | x n C o =>
    obtain ⟨a, rfl, h⟩ := r
    exact ⟨a, rfl, h.mono e.fro⟩
theorem Rep.lcell {k : Nat} {c : Cell} (r : Rep K α F μ H) (hk : isL k) (h : μ[k]? = some (some c)) : ∃ a vs, α[k]? = some a ∧ H a = some (.lst vs) ∧ F a = none ∧ DqAll K F vs c := by
  obtain ⟨a, h1, h2, h3⟩ := r.cell k c h
  obtain ⟨vs, h4, h5⟩ := h3.lst hk
  exact ⟨a, vs, h1, h4, h2, h5⟩
theorem Rws.ext {vs : List V} {ws : List Wv} (r : Rws K α F vs ws) (e : Ext α F H α' F' H') : Rws K α' F' vs ws := Paired.mapP r fun _ _ q => q.ext e
theorem RepE.ext {ρ : Rho} {σ : St} (r : RepE K α F ρ σ) (e : Ext α F H α' F' H') : RepE K α' F' ρ σ :=
  ⟨r.len, fun i w h => let ⟨v, h1, h2⟩ := r.at_ i w h; ⟨v, h1, h2.ext e⟩⟩
theorem RepE.set {ρ : Rho} {σ : St} (r : RepE K α F ρ σ) {v : V} {w : Wv} (i : Nat) (q : Rw K α F v w) : RepE K α F (ρ.set i (some w)) (σ.set i (some v)) := by
  refine ⟨by rw [List.length_set, List.length_set]; exact r.len, fun j u h => ?_⟩
  by_cases hj : i = j
  · subst hj
    have hl : i < ρ.length := by
      have := (List.getElem?_eq_some_iff.mp h).1
      rwa [List.length_set] at this
    rw [List.getElem?_set_self hl] at h
    cases h
    exact ⟨v, List.getElem?_set_self (by rw [← r.len]; exact hl), q⟩
  · rw [List.getElem?_set_ne hj] at h
    rw [List.getElem?_set_ne hj]
    exact r.at_ j u h
/-- a new frozen object -/
theorem Rep.new {p : Addr} {o : HO} (r : Rep K α F μ H) (hp : H p = none) (nt : ∀ ps, o ≠ .tbl ps := by intro _ z; cases z) : Rep K α (upd F p o) μ (upd H p o) ∧ Ext α F H α (upd F p o) (upd H p o) := by
  have fp : F p = none := r.sub.free hp
  have sF : Same F (upd F p o) := fun b u h => by
    rw [upd_ne (ne_of_none h fp)]
    exact h
  have hn : p ∉ α := fun m => r.had p m (.of hp)
  refine ⟨⟨r.len, fun b u h => ?_, r.len0, fun k c h => ?_, r.inj, fun a m => ?_, r.tab.step sF (fun b ps z => tbl_keep (fun ps z => by rw [hp] at z; cases z) z) (fun b ps z => tbl_upd nt z)⟩, ⟨⟨[], by simp⟩, sF, fun a u h _ _ => ?_, fun a h => h.back hp, fun a xs ha _ h => .inl (by rwa [upd_ne (ne_of_none ha hp)] at h), fun a h => .inl h⟩⟩
  · by_cases e : b = p
    · subst e
      rw [upd_same] at h ⊢
      exact h
    · rw [upd_ne e] at h ⊢
      exact r.sub _ _ h
  · obtain ⟨a, h1, h3, h4⟩ := r.cell k c h
    obtain ⟨u, h2, _⟩ := h4.obj
    have ne : a ≠ p := ne_of_none h2 hp
    exact ⟨a, h1, by rw [upd_ne ne]; exact h3, h4.mono (fun u z => by rw [upd_ne ne]; exact z) sF fun _ _ _ z => z⟩
  · have ne : a ≠ p := fun e => hn (by rw [← e]; exact m)
    exact Fr.put (r.had a m) ne
  · rw [upd_ne (ne_of_none h hp)]
    exact h
/-- an object laid by the side: not frozen, no cell -/
theorem Rep.side {p : Addr} {o : HO} (r : Rep K α F μ H) (hp : H p = none) (nt : ∀ ps, o ≠ .tbl ps := by intro _ z; cases z) : Rep K α F μ (upd H p o) ∧ Ext α F H α F (upd H p o) := by
  have hn : p ∉ α := fun m => r.had p m (.of hp)
  have sH : Same H (upd H p o) := fun b u h => by
    rw [upd_ne (ne_of_none h hp)]
    exact h
  refine ⟨⟨r.len, r.sub.trans sH, r.len0, fun k c h => ?_, r.inj, fun a m => ?_, r.tab.step (fun _ _ z => z) (fun b ps z => sH _ _ z) (fun b ps z => z)⟩, ⟨⟨[], by simp⟩, Same.refl _, fun a u h _ _ => sH _ _ h, fun a h => h.back hp, fun a _ _ _ h => .inl h, fun a h => .inl h⟩⟩
  · obtain ⟨a, h1, h3, h4⟩ := r.cell k c h
    exact ⟨a, h1, h3, h4.mono (fun u z => sH _ _ z) (Same.refl _) fun _ _ _ z => z⟩
  · have ne : a ≠ p := fun e => hn (by rw [← e]; exact m)
    exact Fr.put (r.had a m) ne
/-- a list by the side becomes frozen -/
theorem Rep.freezeSide {p : Addr} {o : HO} (r : Rep K α F μ H) (hp : H p = some o) (hf : F p = none) (hn : p ∉ α) (nt : ∀ ps, o ≠ .tbl ps := by intro _ z; cases z) : Rep K α (upd F p o) μ H := by
  have sF : Same F (upd F p o) := fun b u h => by
    rw [upd_ne (ne_of_none h hf)]
    exact h
  refine ⟨r.len, fun b u h => ?_, r.len0, fun k c h => ?_, r.inj, r.had, r.tab.step sF (fun b ps z => z) (fun b ps z => tbl_upd nt z)⟩
  · by_cases e : b = p
    · subst e
      rw [upd_same] at h
      cases h
      exact hp
    · rw [upd_ne e] at h
      exact r.sub _ _ h
  · obtain ⟨a, h1, h3, h4⟩ := r.cell k c h
    have ne : a ≠ p := fun e => hn (e ▸ List.mem_of_getElem? h1)
    exact ⟨a, h1, by rw [upd_ne ne]; exact h3, h4.mono (fun _ z => z) sF fun _ _ _ z => z⟩
/-- a list by the side becomes a cell -/
theorem Rep.cellSide {p : Addr} {vs : List V} {c : Cell} (r : Rep K α F μ H) (hp : H p = some (.lst vs)) (hf : F p = none) (hn : p ∉ α) (hc : DqAll K F vs c) : Rep K (α ++ [p]) F (μ ++ [some c]) H := by
  have pre : ∀ j b, j < TabN.O.length → α[j]? = some b → (α ++ [p])[j]? = some b := fun j b hj h => by
    rw [List.getElem?_append_left (Nat.lt_of_lt_of_le hj r.len0)]
    exact h
  refine ⟨by simp [r.len], r.sub, by rw [List.length_append]; exact Nat.le_trans r.len0 (Nat.le_add_right _ _), fun k c' h => ?_, fun i j a c1 c2 h1 h2 h3 h4 => ?_, fun a m => ?_, r.tab⟩
  · by_cases hk : k < μ.length
    · rw [List.getElem?_append_left hk] at h
      obtain ⟨a, q1, q2, q3⟩ := r.cell k c' h
      exact ⟨a, by rw [List.getElem?_append_left (by rw [← r.len]; exact hk)]; exact q1, q2, q3.mono (fun _ z => z) (Same.refl _) pre⟩
    · rw [List.getElem?_append_right (by omega)] at h
      have hk0 : k - μ.length = 0 := by
        by_cases z : k - μ.length = 0
        · exact z
        · rw [List.getElem?_eq_none (by simp; omega)] at h; cases h
      rw [hk0] at h
      simp at h
      subst h
      refine ⟨p, ?_, hf, .of (isL_of (Nat.le_trans r.len0 (by rw [← r.len]; omega))) hp hc⟩
      rw [List.getElem?_append_right (by rw [← r.len]; omega), ← r.len, hk0]
      rfl
  · have key : ∀ (i : Nat) (c1 : Cell), (μ ++ [some c])[i]? = some (some c1) → (α ++ [p])[i]? = some a → (i < μ.length ∧ μ[i]? = some (some c1) ∧ α[i]? = some a) ∨ (i = μ.length ∧ a = p) := fun i c1 h1 h3 => by
      by_cases hi : i < μ.length
      · rw [List.getElem?_append_left hi] at h1
        rw [List.getElem?_append_left (by rw [← r.len]; exact hi)] at h3
        exact .inl ⟨hi, h1, h3⟩
      · have hi0 : i = μ.length := by
          have := (List.getElem?_eq_some_iff.mp h1).1
          rw [List.length_append] at this
          simp at this
          omega
        subst hi0
        rw [r.len, List.getElem?_append_right (Nat.le_refl _), Nat.sub_self] at h3
        simp at h3
        exact .inr ⟨rfl, h3.symm⟩
    rcases key i c1 h1 h3 with ⟨_, a1, a2⟩ | ⟨rfl, a2⟩ <;> rcases key j c2 h2 h4 with ⟨_, b1, b2⟩ | ⟨rfl, b2⟩
    · exact r.inj i j a c1 c2 a1 b1 a2 b2
    · exact absurd (b2 ▸ List.mem_of_getElem? a2) hn
    · exact absurd (a2 ▸ List.mem_of_getElem? b2) hn
    · rfl
  · rcases List.mem_append.mp m with m | m
    · exact r.had a m
    · simp at m
      subst m
      exact fun z => z.no hp
end
end TL
/-! TL1: cells written, frozen, dropped; readings from semantic functions. -/
namespace TL
variable [TabN]
open PySem PySem.Spec L2
section
variable {K : PySem.W.Frag} {α α' α'' : List Addr} {F F' F'' H H' H'' : Hp} {μ μ' : Mu}
theorem Rep.write {k : Nat} {c c' : Cell} {a : Addr} {vs' : List V} (r : Rep K α F μ H) (hL : isL k) (hk : μ[k]? = some (some c)) (ha : α[k]? = some a) (h' : DqAll K F vs' c') :
    Rep K α F (μ.set k (some c')) (upd H a (.lst vs')) ∧ Ext α F H α F (upd H a (.lst vs')) := by
  obtain ⟨a0, vs, h1, h2, h3, h4⟩ := r.lcell hL hk
  rw [ha] at h1
  cases h1
  have sF : Same F (upd H a (.lst vs')) := fun b u h => by
    rw [upd_ne (fun e => by rw [e, h3] at h; cases h)]
    exact r.sub _ _ h
  have hl : k < μ.length := (List.getElem?_eq_some_iff.mp hk).1
  have old : ∀ (i : Nat) (c1 : Cell), (μ.set k (some c'))[i]? = some (some c1) → ∃ c0, μ[i]? = some (some c0) := fun i c1 h => by
    by_cases hi : k = i
    · subst hi
      exact ⟨c, hk⟩
    · rw [List.getElem?_set_ne hi] at h
      exact ⟨c1, h⟩
  refine ⟨⟨by rw [List.length_set]; exact r.len, sF, r.len0, fun i c1 h => ?_, fun i j b c1 c2 q1 q2 q3 q4 => ?_, fun b m => ?_, r.tab.step (fun _ _ z => z) (fun b ps z => tbl_keep (fun ps z => by rw [h2] at z; cases z) z) (fun b ps z => z)⟩, ⟨⟨[], by simp⟩, Same.refl _, fun b u h n _ => ?_, fun b h => ?_, fun b _ _ _ h => .inl h, fun b h => .inl h⟩⟩
  · by_cases hi : k = i
    · subst hi
      rw [List.getElem?_set_self hl] at h
      cases h
      exact ⟨a, ha, h3, .of hL upd_same h'⟩
    · rw [List.getElem?_set_ne hi] at h
      obtain ⟨b, g1, g3, g4⟩ := r.cell i c1 h
      have ne : b ≠ a := fun e => hi (r.inj k i a c c1 hk h ha (by rw [← e]; exact g1))
      exact ⟨b, g1, g3, g4.mono (fun u z => by rw [upd_ne ne]; exact z) (Same.refl _) fun _ _ _ z => z⟩
  · obtain ⟨d1, e1⟩ := old i c1 q1
    obtain ⟨d2, e2⟩ := old j c2 q2
    exact r.inj i j b d1 d2 e1 e2 q3 q4
  · by_cases e : b = a
    · rw [e]
      exact fun z => z.no upd_same
    · exact Fr.put (r.had b m) e
  · have ne : b ≠ a := fun e => n (by rw [e]; exact List.mem_of_getElem? ha)
    rw [upd_ne ne]
    exact h
  · by_cases e : b = a
    · rw [e] at h
      exact (h.no upd_same).elim
    · intro u hu
      exact h u (by rw [upd_ne e]; exact hu)
theorem Rep.freeze {k : Nat} {c : Cell} (r : Rep K α F μ H) (hL : isL k) (hk : μ[k]? = some (some c)) :
    ∃ F', Rep K α F' (μ.set k none) H ∧ Ext α F H α F' H ∧ ∀ v, Rw K α F v (.r k) → Dq K F' v (.list c) := by
  obtain ⟨a, vs, h1, h2, h3, h4⟩ := r.lcell hL hk
  have hl : k < μ.length := (List.getElem?_eq_some_iff.mp hk).1
  have sF : Same F (upd F a (.lst vs)) := fun b u h => by
    rw [upd_ne (ne_of_none h h3)]
    exact h
  have ham : a ∈ α := List.mem_of_getElem? h1
  refine ⟨upd F a (.lst vs), ⟨by rw [List.length_set]; exact r.len, fun b u h => ?_, r.len0, fun i c1 h => ?_, fun i j b c1 c2 q1 q2 q3 q4 => ?_, r.had, r.tab.step sF (fun b ps z => z) (fun b ps z => tbl_upd (fun _ z => by cases z) z)⟩, ⟨⟨[], by simp⟩, sF, fun b u h n _ => h, fun b h => h, fun b xs hb _ h => ?_, fun b h => .inl h⟩, fun v q => ?_⟩
  · by_cases e : b = a
    · subst e
      rw [upd_same] at h
      cases h
      exact h2
    · rw [upd_ne e] at h
      exact r.sub _ _ h
  · by_cases hi : k = i
    · subst hi
      rw [List.getElem?_set_self hl] at h
      cases h
    · rw [List.getElem?_set_ne hi] at h
      obtain ⟨b, g1, g3, g4⟩ := r.cell i c1 h
      have ne : b ≠ a := fun e => hi (r.inj k i a c c1 hk h h1 (by rw [← e]; exact g1))
      exact ⟨b, g1, by rw [upd_ne ne]; exact g3, g4.mono (fun _ z => z) sF fun _ _ _ z => z⟩
  · have old : ∀ (i : Nat) (c1 : Cell), (μ.set k none)[i]? = some (some c1) → μ[i]? = some (some c1) := fun i c1 h => by
      by_cases hi : k = i
      · subst hi
        rw [List.getElem?_set_self hl] at h
        cases h
      · rw [List.getElem?_set_ne hi] at h
        exact h
    exact r.inj i j b c1 c2 (old _ _ q1) (old _ _ q2) q3 q4
  · by_cases e : b = a
    · rw [e]
      exact .inr ham
    · rw [upd_ne e] at h
      exact .inl h
  · obtain ⟨b, g1, rfl, _⟩ := q
    rw [h1] at g1
    cases g1
    exact .lst (.of upd_same) (h4.mono sF)
/-- behind a call: the callee's cells forgotten -/
theorem Rep.drop {n : Nat} (e : Ext α F H α' F' H') (hn : n = α.length) (h0 : TabN.O.length ≤ α.length) (r : Rep K α' F' μ' H') : Rep K α F' (μ'.take n) H' ∧ Ext α F H α F' H' := by
  subst hn
  obtain ⟨β, rfl⟩ := e.pre
  have at_ : ∀ (k : Nat) (c : Cell), (μ'.take α.length)[k]? = some (some c) → k < α.length ∧ μ'[k]? = some (some c) := fun k c h => by
    rw [List.getElem?_take] at h
    split at h
    · exact ⟨by assumption, h⟩
    · cases h
  have al : ∀ (k : Nat), k < α.length → (α ++ β)[k]? = α[k]? := fun k h => List.getElem?_append_left h
  refine ⟨⟨?_, r.sub, h0, fun k c h => ?_, fun i j a c1 c2 q1 q2 q3 q4 => ?_, fun a m => r.had a (List.mem_append_left _ m), r.tab⟩, ⟨⟨[], by simp⟩, e.fro, e.frame, e.keep, e.newF, fun a h => .inl h⟩⟩
  · rw [List.length_take, r.len, List.length_append]
    omega
  · obtain ⟨hk, h⟩ := at_ k c h
    obtain ⟨a, g1, g3, g4⟩ := r.cell k c h
    rw [al k hk] at g1
    exact ⟨a, g1, g3, g4.mono (fun _ z => z) (Same.refl _) fun j b hj z => by
      rw [al j (Nat.lt_of_lt_of_le hj h0)] at z
      exact z⟩
  · obtain ⟨l1, q1⟩ := at_ i c1 q1
    obtain ⟨l2, q2⟩ := at_ j c2 q2
    exact r.inj i j a c1 c2 q1 q2 (by rw [al i l1]; exact q3) (by rw [al j l2]; exact q4)
/-- .. all but one, that is handed back -/
theorem Rep.drop1 {n k : Nat} {c : Cell} (e : Ext α F H α' F' H') (hn : n = α.length) (h0 : TabN.O.length ≤ α.length) (r : Rep K α' F' μ' H') (hk : n ≤ k) (hc : μ'[k]? = some (some c)) :
    ∃ a, α'[k]? = some a ∧ Rep K (α ++ [a]) F' (μ'.take n ++ [some c]) H' ∧ Ext α F H (α ++ [a]) F' H' := by
  obtain ⟨a, vs, g1, g2, g3, g4⟩ := r.lcell (isL_of (Nat.le_trans h0 (by omega))) hc
  obtain ⟨r', e'⟩ := r.drop e hn h0
  subst hn
  have na : a ∈ α ∨ Fr H a := e.newA a (List.mem_of_getElem? g1)
  obtain ⟨β, rfl⟩ := e.pre
  have kl : k < (α ++ β).length := (List.getElem?_eq_some_iff.mp g1).1
  have ml : (μ'.take α.length).length = α.length := r'.len
  have at_ : ∀ (i : Nat) (c1 : Cell) (b : Addr), (μ'.take α.length ++ [some c])[i]? = some (some c1) → (α ++ [a])[i]? = some b → (i < α.length ∧ (μ'.take α.length)[i]? = some (some c1) ∧ α[i]? = some b) ∨ (i = α.length ∧ c1 = c ∧ b = a) := fun i c1 b h1 h3 => by
    by_cases hi : i < α.length
    · rw [List.getElem?_append_left (by omega)] at h1
      rw [List.getElem?_append_left hi] at h3
      exact .inl ⟨hi, h1, h3⟩
    · have hi0 : i = α.length := by
        have := (List.getElem?_eq_some_iff.mp h1).1
        rw [List.length_append, ml] at this
        simp at this
        omega
      subst hi0
      rw [List.getElem?_append_right (Nat.le_refl _), Nat.sub_self] at h3
      rw [List.getElem?_append_right (by omega), ml, Nat.sub_self] at h1
      simp at h1 h3
      exact .inr ⟨rfl, h1.symm, h3.symm⟩
  have far : ∀ (i : Nat) (c1 : Cell), i < α.length → (μ'.take α.length)[i]? = some (some c1) → α[i]? = some a → False := fun i c1 hi q1 q2 => by
    rw [List.getElem?_take, if_pos hi] at q1
    have := r.inj k i a c c1 hc q1 g1 (by rw [List.getElem?_append_left hi]; exact q2)
    omega
  refine ⟨a, g1, ⟨by simp [ml], r.sub, by rw [List.length_append]; exact Nat.le_trans h0 (Nat.le_add_right _ _), fun i c1 h => ?_, fun i j b c1 c2 q1 q2 q3 q4 => ?_, fun b m => ?_, r.tab⟩, ⟨⟨[a], rfl⟩, e'.fro, e'.frame, e'.keep, e'.newF, fun b m => ?_⟩⟩
  · have hb : i < (α ++ [a]).length := by
      have := (List.getElem?_eq_some_iff.mp h).1
      rw [List.length_append, ml] at this
      simpa using this
    obtain ⟨b, hb⟩ : ∃ b, (α ++ [a])[i]? = some b := ⟨_, List.getElem?_eq_getElem hb⟩
    rcases at_ i c1 b h hb with ⟨hi, q1, q2⟩ | ⟨rfl, rfl, rfl⟩
    · obtain ⟨b', z1, z3, z4⟩ := r'.cell i c1 q1
      rw [q2] at z1
      cases z1
      exact ⟨b, hb, z3, z4.mono (fun _ z => z) (Same.refl _) fun j b hj z => by
        rw [List.getElem?_append_left (Nat.lt_of_lt_of_le hj h0)]
        exact z⟩
    · exact ⟨b, hb, g3, .of (isL_of h0) g2 g4⟩
  · rcases at_ i c1 b q1 q3 with ⟨hi, a1, a2⟩ | ⟨rfl, rfl, rfl⟩ <;> rcases at_ j c2 b q2 q4 with ⟨hj, b1, b2⟩ | ⟨rfl, rfl, z⟩
    · exact r'.inj i j b c1 c2 a1 b1 a2 b2
    · subst z
      exact (far i c1 hi a1 a2).elim
    · exact (far j c2 hj b1 b2).elim
    · rfl
  · rcases List.mem_append.mp m with m | m
    · exact r'.had b m
    · simp at m
      rw [m]
      exact fun z => z.no g2
  · rcases List.mem_append.mp m with m | m
    · exact .inl m
    · simp at m
      subst m
      exact na
end

/-! ### what is wanted behind a computation -/
def gp (K : PySem.W.Frag) (mg : Str → Option Value) {γ : Type} (α : List Addr) (F H : Hp) (o : Out γ) (G : γ → Mu → List Addr → Hp → Hp → Prop) (X : XK) : Prop :=
  match o with
  | .ok c μ' => ∀ α' F' H', Ext α F H α' F' H' → Rep K α' F' μ' H' → G c μ' α' F' H'
  | .err x ws μ' => ∀ α' F' H' C d fs, Ext α F H α' F' H' → Rep K α' F' μ' H' → mg x = some (.ref C) → H' d = some (.xd fs) → fs.map (·.1) = TabN.F x → Rws K α' F' (fs.map (·.2)) ws → X (.ref C) (some d) H'
  | .bad => False
section
variable {K : PySem.W.Frag} {mg : Str → Option Value} {γ δ : Type} {α α' : List Addr} {F F' H H' : Hp} {o : Out γ} {G G' : γ → Mu → List Addr → Hp → Hp → Prop} {X : XK}
theorem gp.mono (h : gp K mg α F H o G X) (hG : ∀ c μ' α' F' H', Ext α F H α' F' H' → Rep K α' F' μ' H' → G c μ' α' F' H' → G' c μ' α' F' H') : gp K mg α F H o G' X := by
  cases o with
  | ok c μ' => exact fun α' F' H' e r => hG _ _ _ _ _ e r (h α' F' H' e r)
  | err x ws μ' => exact h
  | bad => exact h
theorem gp.base (h : gp K mg α F H o G X) (e : Ext α F H α' F' H') : gp K mg α' F' H' o G X := by
  cases o with
  | ok c μ' => exact fun α1 F1 H1 e1 r => h _ _ _ (e.trans e1) r
  | err x ws μ' => exact fun α1 F1 H1 C d fs e1 r => h _ _ _ C d fs (e.trans e1) r
  | bad => exact h
theorem gp.bind {k : γ → Mu → Out δ} {G : δ → Mu → List Addr → Hp → Hp → Prop} (h : gp K mg α F H (o.bind k) G X) :
    gp K mg α F H o (fun c μ' α' F' H' => gp K mg α' F' H' (k c μ') G X) X := by
  cases o with
  | ok c μ' => exact fun α' F' H' e r => gp.base (o := k c μ') h e
  | err x ws μ' => exact h
  | bad => exact h
theorem gp.unbind {k : γ → Mu → Out δ} {G : δ → Mu → List Addr → Hp → Hp → Prop} {μ : Mu} (r : Rep K α F μ H) {c : γ} (ho : o = .ok c μ) (h : gp K mg α F H (o.bind k) G X) : gp K mg α F H (k c μ) G X := by
  subst ho
  exact h
theorem gp.now {c : γ} {μ : Mu} (h : gp K mg α F H (.ok c μ) G X) (r : Rep K α F μ H) : G c μ α F H := h _ _ _ .refl r
theorem gp.at {c : γ} {μ : Mu} (h : gp K mg α F H (.ok c μ) G X) (e : Ext α F H α' F' H') (r : Rep K α' F' μ H') : G c μ α' F' H' := h _ _ _ e r
end
end TL
/-! TL2: readings from semantic functions; the structural rules. -/
namespace TL
variable [TabN]
open PySem PySem.Spec L2

abbrev Ev := Rho → Mu → Out Wv
abbrev Bv := Rho → Mu → Out Bool
abbrev Av := Rho → Mu → Out (List Wv)
abbrev Lv := Rho → Mu → Out Cell
inductive Fl where
  | nx (ρ : Rho)
  | rt (w : Wv)
  | bk (ρ : Rho)
  | ct (ρ : Rho)
  | er (x : Str) (ws : List Wv) (ρ : Rho)
abbrev Sv := Rho → Mu → Out Fl
/-- a target: the value stored -/
abbrev Gv := Wv → Rho → Mu → Out Rho

/-- what is wanted of a value, of a list just made -/
abbrev Gw (K : PySem.W.Frag) (Q : VK) : Wv → Mu → List Addr → Hp → Hp → Prop := fun w _ α' F' H' => ∀ v, Rw K α' F' v w → Q v H'
abbrev Gl' (K : PySem.W.Frag) (H : Hp) (Q : VK) : Cell → Mu → List Addr → Hp → Hp → Prop := fun c _ α' F' H' => ∀ (D : Addr) (vs : List V), Fr H D → H' D = some (.lst vs) → F' D = none → D ∉ α' → DqAll K F' vs c → Q (.ref D) H'

section
variable (K : PySem.W.Frag) (mg : Str → Option Value) (W : WX)
def tE (f : Ev) : TE := fun σ H Q => ∃ ρ μ α F, Rep K α F μ H ∧ RepE K α F ρ σ ∧ gp K mg α F H (f ρ μ) (Gw K Q) (fun c d H' => W c d σ H')
def tT (f : Bv) : TT := fun σ H Q => ∃ ρ μ α F, Rep K α F μ H ∧ RepE K α F ρ σ ∧ gp K mg α F H (f ρ μ) (fun b _ _ _ H' => Q b H') (fun c d H' => W c d σ H')
def tA (f : Av) : TA := fun σ H Q => ∃ ρ μ α F, Rep K α F μ H ∧ RepE K α F ρ σ ∧ gp K mg α F H (f ρ μ) (fun ws _ α' F' H' => ∀ vs, Rws K α' F' vs ws → Q vs H') (fun c d H' => W c d σ H')
def tL (f : Lv) : TE := fun σ H Q => ∃ ρ μ α F, Rep K α F μ H ∧ RepE K α F ρ σ ∧ gp K mg α F H (f ρ μ) (Gl' K H Q) (fun c d H' => W c d σ H')
def GS (D : Ends) : Fl → Mu → List Addr → Hp → Hp → Prop := fun fl μ' α' F' H' =>
  match fl with
  | .nx ρ' => ∀ σ', RepE K α' F' ρ' σ' → D.nx σ' H'
  | .bk ρ' => ∀ σ', RepE K α' F' ρ' σ' → D.bk σ' H'
  | .ct ρ' => ∀ σ', RepE K α' F' ρ' σ' → D.ct σ' H'
  | .rt w => ∀ v, Rw K α' F' v w → D.rt v H'
  | .er x ws ρ' => ∀ σ' C d fs, RepE K α' F' ρ' σ' → mg x = some (.ref C) → H' d = some (.xd fs) → fs.map (·.1) = TabN.F x → Rws K α' F' (fs.map (·.2)) ws → W (.ref C) (some d) σ' H'
def tS (g : Sv) : TS := fun D σ H => ∃ ρ μ α F, Rep K α F μ H ∧ RepE K α F ρ σ ∧ gp K mg α F H (g ρ μ) (GS K mg W D) (fun _ _ _ => False)
def tG (t : Gv) : TG := fun v σ H Q => ∃ ρ μ α F w, Rep K α F μ H ∧ RepE K α F ρ σ ∧ Rw K α F v w ∧ gp K mg α F H (t w ρ μ) (fun ρ' _ α' F' H' => ∀ σ', RepE K α' F' ρ' σ' → Q σ' H') (fun _ _ _ => False)
end
abbrev SE (X : Cx) (W : WX) (e : Expr) (f : Ev) : Prop := PE X e (tE X.K X.mg W f)
abbrev ST (X : Cx) (W : WX) (e : Expr) (f : Bv) : Prop := PT X e (tT X.K X.mg W f)
abbrev SA (X : Cx) (W : WX) (es : List Expr) (f : Av) : Prop := PA X es (tA X.K X.mg W f)
abbrev SL (X : Cx) (W : WX) (e : Expr) (f : Lv) : Prop := PE X e (tL X.K X.mg W f)
abbrev SS (X : Cx) (W : WX) (st : Stmt) (g : Sv) : Prop := PS X st (tS X.K X.mg W g)
abbrev SSs (X : Cx) (W : WX) (st : List Stmt) (g : Sv) : Prop := PSs X st (tS X.K X.mg W g)
abbrev SG (X : Cx) (tg : Expr) (t : Gv) : Prop := PG X tg (tG X.K X.mg t)

theorem _root_.L2.PE.imp {X : Cx} {e : Expr} {t t' : TE} (h : PE X e t) (i : ∀ σ H Q, t' σ H Q → t σ H Q) : PE X e t' := ⟨fun pins s σ H Q I q => h.run pins s σ H Q I (i _ _ _ q)⟩
theorem _root_.L2.PT.imp {X : Cx} {e : Expr} {t t' : TT} (h : PT X e t) (i : ∀ σ H Q, t' σ H Q → t σ H Q) : PT X e t' := ⟨fun pins s σ H Q I q => h.run pins s σ H Q I (i _ _ _ q)⟩
theorem _root_.L2.PA.imp {X : Cx} {e : List Expr} {t t' : TA} (h : PA X e t) (i : ∀ σ H Q, t' σ H Q → t σ H Q) : PA X e t' := ⟨fun pos pins s σ H Q I q => h.run pos pins s σ H Q I (i _ _ _ q)⟩
theorem _root_.L2.PS.imp {X : Cx} {e : Stmt} {t t' : TS} (h : PS X e t) (i : ∀ D σ H, t' D σ H → t D σ H) : PS X e t' := ⟨fun pins s σ H D I q => h.run pins s σ H D I (i _ _ _ q)⟩
theorem _root_.L2.PSs.imp {X : Cx} {e : List Stmt} {t t' : TS} (h : PSs X e t) (i : ∀ D σ H, t' D σ H → t D σ H) : PSs X e t' := ⟨fun pins s σ H D I q => h.run pins s σ H D I (i _ _ _ q)⟩
theorem _root_.L2.PG.imp {X : Cx} {e : Expr} {t t' : TG} (h : PG X e t) (i : ∀ v σ H Q, t' v σ H Q → t v σ H Q) : PG X e t' := ⟨fun pins s σ H v u Q I r q => h.run pins s σ H v u Q I r (i _ _ _ _ q)⟩

theorem gp.bind0 {K : PySem.W.Frag} {mg : Str → Option Value} {γ δ : Type} {α : List Addr} {F H : Hp} {o : Out γ} {X : XK} {k : γ → Mu → Out δ} {G : δ → Mu → List Addr → Hp → Hp → Prop} (h : gp K mg α F H (o.bind k) G X) :
    gp K mg α F H o (fun c μ' _ _ _ => gp K mg α F H (k c μ') G X) X := by
  cases o with
  | ok c μ' => exact fun α' F' H' e r => h
  | err x ws μ' => exact h
  | bad => exact h

/-! ### what functions on values ask -/
/-- a result of an operation that raises nothing -/
def r1G (K : PySem.W.Frag) (mg : Str → Option Value) (g : Wv → Mu → Out Wv) : V → Hp → VK → Prop := fun x H Q => ∃ μ α F w, Rep K α F μ H ∧ Rw K α F x w ∧ gp K mg α F H (g w μ) (Gw K Q) (fun _ _ _ => False)
def r2G (K : PySem.W.Frag) (mg : Str → Option Value) (g : Wv → Wv → Mu → Out Wv) : R2 := fun x y H Q => ∃ μ α F w1 w2, Rep K α F μ H ∧ Rw K α F x w1 ∧ Rw K α F y w2 ∧ gp K mg α F H (g w1 w2 μ) (Gw K Q) (fun _ _ _ => False)
def rnG (K : PySem.W.Frag) (mg : Str → Option Value) (g : List Wv → Mu → Out Wv) : List V → Hp → VK → Prop := fun xs H Q => ∃ μ α F ws, Rep K α F μ H ∧ Rws K α F xs ws ∧ gp K mg α F H (g ws μ) (Gw K Q) (fun _ _ _ => False)
/-- raising turned into nothing promised -/
def calm {γ : Type} (o : Out γ) : Out γ := match o with
  | .ok c μ => .ok c μ
  | _ => .bad
theorem gp.calm {K : PySem.W.Frag} {mg : Str → Option Value} {γ : Type} {α : List Addr} {F H : Hp} {o : Out γ} {G : γ → Mu → List Addr → Hp → Hp → Prop} {X X' : XK} (h : gp K mg α F H (TL.calm o) G X) : gp K mg α F H o G X' := by
  cases o with
  | ok c μ' => exact h
  | err x ws μ' => exact h.elim
  | bad => exact h
theorem gp.none {K : PySem.W.Frag} {mg : Str → Option Value} {γ : Type} {α : List Addr} {F H : Hp} {o : Out γ} {G : γ → Mu → List Addr → Hp → Hp → Prop} {X : XK} (h : gp K mg α F H (TL.calm o) G X) : gp K mg α F H (TL.calm o) G (fun _ _ _ => False) := by
  cases o with
  | ok c μ' => exact h
  | err x ws μ' => exact h.elim
  | bad => exact h

/-! ### semantic combinators -/
def eVar (i : Nat) : Ev := fun ρ μ => match ρ[i]? with
  | some (some w) => .ok w μ
  | _ => .bad
def eK (x : PyData) : Ev := fun _ μ => .ok (.d x) μ
def e1 (g : Wv → Mu → Out Wv) (a : Ev) : Ev := fun ρ μ => (a ρ μ).bind fun w μ1 => calm (g w μ1)
def e2 (g : Wv → Wv → Mu → Out Wv) (a b : Ev) : Ev := fun ρ μ => (a ρ μ).bind fun w μ1 => (b ρ μ1).bind fun u μ2 => calm (g w u μ2)
def en (g : List Wv → Mu → Out Wv) (as : Av) : Ev := fun ρ μ => (as ρ μ).bind fun ws μ1 => calm (g ws μ1)
def eCall (g : List Wv → Mu → Out Wv) (as : Av) : Ev := fun ρ μ => (as ρ μ).bind g
def aNil : Av := fun _ μ => .ok [] μ
def aCons (a : Ev) (as : Av) : Av := fun ρ μ => (a ρ μ).bind fun w μ1 => (as ρ μ1).bind fun ws μ2 => .ok (w :: ws) μ2
/-- all are data -/
def allD : List Wv → Option (List PyData)
  | [] => some []
  | .d x :: r => (allD r).map (x :: ·)
  | .r _ :: _ => none
  | .t _ :: _ => none
  | .o _ :: _ => none
  | .x _ _ _ :: _ => none
def lDisp (as : Av) : Lv := fun ρ μ => (as ρ μ).bind fun ws μ1 => match allD ws with
  | some c => if c.length ≤ 16777216 then .ok c μ1 else .bad
  | none => .bad
def eTup (as : Av) : Ev := fun ρ μ => (lDisp as ρ μ).bind fun c μ1 => .ok (.d (.tuple c)) μ1
def eFrz (l : Lv) : Ev := fun ρ μ => (l ρ μ).bind fun c μ1 => .ok (.d (.list c)) μ1
def eNew (l : Lv) : Ev := fun ρ μ => (l ρ μ).bind fun c μ1 => .ok (.r μ1.length) (μ1 ++ [some c])
def wB (w : Wv) (μ : Mu) : Out Bool := match w with
  | .d (.bool b) => .ok b μ
  | _ => .bad
def tB' (a : Ev) : Bv := fun ρ μ => (a ρ μ).bind wB
def eB (a : Bv) : Ev := fun ρ μ => (a ρ μ).bind fun b μ1 => .ok (.d (.bool b)) μ1
def bNot (a : Bv) : Bv := fun ρ μ => (a ρ μ).bind fun b μ1 => .ok (!b) μ1
def bAnd (a b : Bv) : Bv := fun ρ μ => (a ρ μ).bind fun c μ1 => if c = true then b ρ μ1 else .ok false μ1
def bOr (a b : Bv) : Bv := fun ρ μ => (a ρ μ).bind fun c μ1 => if c = true then .ok true μ1 else b ρ μ1
def eAnd (a b : Ev) : Ev := fun ρ μ => (a ρ μ).bind fun w μ0 => (wB w μ0).bind fun c μ1 => if c = true then b ρ μ1 else .ok (.d (.bool false)) μ1
def eOr (a b : Ev) : Ev := fun ρ μ => (a ρ μ).bind fun w μ0 => (wB w μ0).bind fun c μ1 => if c = true then .ok (.d (.bool true)) μ1 else b ρ μ1
def eNot (a : Ev) : Ev := fun ρ μ => (a ρ μ).bind fun w μ0 => (wB w μ0).bind fun c μ1 => .ok (.d (.bool (!c))) μ1
def eIf (c : Bv) (a b : Ev) : Ev := fun ρ μ => (c ρ μ).bind fun c μ1 => if c = true then a ρ μ1 else b ρ μ1
def bIf (c : Bv) (a b : Bv) : Bv := fun ρ μ => (c ρ μ).bind fun c μ1 => if c = true then a ρ μ1 else b ρ μ1

theorem wB_ok {K : PySem.W.Frag} {mg : Str → Option Value} {α : List Addr} {F H : Hp} {w : Wv} {v : V} {μ : Mu} {G : Bool → Mu → List Addr → Hp → Hp → Prop} {X : XK} (h : gp K mg α F H (wB w μ) G X) (r : Rw K α F v w) : ∃ b, v = .bl b ∧ w = .d (.bool b) ∧ gp K mg α F H (.ok b μ) G X := by
  cases w with
  | r k => exact h.elim
  | t ds => exact h.elim
  | o _ => exact h.elim
  | x _ _ _ => exact h.elim
  | d x =>
    cases x with
    | bool b =>
      cases r
      exact ⟨b, rfl, rfl, h⟩
    | _ => exact h.elim

section
variable {X : Cx} {W : WX}
theorem se_var {i : Nat} {x : Str} {pos : Pos} (hN : X.N[i]? = some x) (hv : Vis X.env.scope x) (hd : (x == ("__debug__" : Str)) = false) (hcd : (x == ("__classdict__" : Str)) = false) : SE X W (.Name x pos) (eVar i) := by
  refine (pe_var hN hv hd hcd).imp fun σ H Q h => ?_
  obtain ⟨ρ, μ, α, F, r, re, q⟩ := h
  unfold eVar at q
  split at q
  · rename_i w e
    obtain ⟨v, h1, h2⟩ := re.at_ i w e
    exact ⟨v, h1, q.now r v h2⟩
  · exact q.elim
theorem se_int {i j pos} : SE X W (.Constant (.int i) j pos) (eK (.int i)) := pe_int.imp fun σ H Q ⟨_, _, _, _, r, _, q⟩ => q.now r _ (.int i)
theorem se_str {i j pos} : SE X W (.Constant (.str i) j pos) (eK (.str i)) := pe_str.imp fun σ H Q ⟨_, _, _, _, r, _, q⟩ => q.now r _ (.str i)
theorem se_bl {i j pos} : SE X W (.Constant (.bool i) j pos) (eK (.bool i)) := pe_bl.imp fun σ H Q ⟨_, _, _, _, r, _, q⟩ => q.now r _ (.bl i)
theorem se_non {j pos} : SE X W (.Constant .none j pos) (eK .none) := pe_non.imp fun σ H Q ⟨_, _, _, _, r, _, q⟩ => q.now r _ .non
/-- a constant of the module -/
theorem se_glob {x : Str} {v : V} {u : Value} {c : PyData} {pos : Pos} (hg : Gl X x) (hm : X.mg x = some u) (r : RelV v u) (hc : ∀ F, Dq X.K F v c) (hd : (x == ("__debug__" : Str)) = false) : SE X W (.Name x pos) (eK c) :=
  (pe_glob hg hm r hd).imp fun σ H Q ⟨_, _, _, _, r, _, q⟩ => q.now r _ (hc _)

/-! arguments -/
theorem sa_nil : SA X W [] aNil := pa_nil.imp fun σ H Q ⟨_, _, _, _, r, _, q⟩ => q.now r [] .nil
theorem sa_cons {e : Expr} {es : List Expr} {a : Ev} {as : Av} (ha : SE X W e a) (hr : SA X W es as) (hs : starEach (e :: es) X.env = (false, eval e X.env) :: starEach es X.env) : SA X W (e :: es) (aCons a as) := by
  refine (pa_cons ha hr hs).imp fun σ H Q ⟨ρ, μ, α, F, r, re, q⟩ => ?_
  refine ⟨ρ, μ, α, F, r, re, q.bind.mono fun w μ1 α1 F1 H1 x1 r1 q1 v rv => ?_⟩
  refine ⟨ρ, μ1, α1, F1, r1, re.ext x1, q1.bind.mono fun ws μ2 α2 F2 H2 x2 r2 q2 vs rvs => ?_⟩
  exact q2.now r2 (v :: vs) (.cons (rv.ext x2) rvs)

/-! operators on values -/
theorem se_op {a b : Expr} {op : Operator} {pos : Pos} {g : Wv → Wv → Mu → Out Wv} {fa fb : Ev} (ho : OpR X (binaryOp op) (r2G X.K X.mg g)) (ha : SE X W a fa) (hb : SE X W b fb) : SE X W (.BinOp a op b pos) (e2 g fa fb) := by
  refine (pe_op ho ha hb).imp fun σ H Q ⟨ρ, μ, α, F, r, re, q⟩ => ?_
  refine ⟨ρ, μ, α, F, r, re, q.bind.mono fun w μ1 α1 F1 H1 x1 r1 q1 v rv => ?_⟩
  refine ⟨ρ, μ1, α1, F1, r1, re.ext x1, q1.bind.mono fun u μ2 α2 F2 H2 x2 r2 q2 v' rv' => ?_⟩
  exact ⟨μ2, α2, F2, w, u, r2, rv.ext x2, rv', q2.calm⟩
theorem se_un {a : Expr} {op : UnaryOp} {pos : Pos} {g : Wv → Mu → Out Wv} {fa : Ev} (ho : UnR X (unaryOp op) (r1G X.K X.mg g)) (ha : SE X W a fa) : SE X W (.UnaryOp op a pos) (e1 g fa) := by
  refine (pe_un ho ha).imp fun σ H Q ⟨ρ, μ, α, F, r, re, q⟩ => ?_
  refine ⟨ρ, μ, α, F, r, re, q.bind.mono fun w μ1 α1 F1 H1 x1 r1 q1 v rv => ?_⟩
  exact ⟨μ1, α1, F1, w, r1, rv, q1.calm⟩
theorem se_cmp {a b : Expr} {op : CmpOp} {pos : Pos} {g : Wv → Wv → Mu → Out Wv} {fa fb : Ev} (ho : OpR X (compareOp op) (r2G X.K X.mg g)) (ha : SE X W a fa) (hb : SE X W b fb) (hm : behindInMarks op b = false) : SE X W (.Compare a [op] [b] pos) (e2 g fa fb) := by
  refine (pe_cmpR ho ha hb hm).imp fun σ H Q ⟨ρ, μ, α, F, r, re, q⟩ => ?_
  refine ⟨ρ, μ, α, F, r, re, q.bind.mono fun w μ1 α1 F1 H1 x1 r1 q1 v rv => ?_⟩
  refine ⟨ρ, μ1, α1, F1, r1, re.ext x1, q1.bind.mono fun u μ2 α2 F2 H2 x2 r2 q2 v' rv' => ?_⟩
  exact ⟨μ2, α2, F2, w, u, r2, rv.ext x2, rv', q2.calm⟩
theorem st_cmp {a b : Expr} {op : CmpOp} {pos : Pos} {g : Wv → Wv → Mu → Out Wv} {fa fb : Ev} (ho : OpR X (compareOp op) (r2G X.K X.mg g)) (ha : SE X W a fa) (hb : SE X W b fb) (hm : behindInMarks op b = false) : ST X W (.Compare a [op] [b] pos) (tB' (e2 g fa fb)) := by
  refine (pt_cmpR ho ha hb hm).imp fun σ H Q ⟨ρ, μ, α, F, r, re, q⟩ => ?_
  refine ⟨ρ, μ, α, F, r, re, q.bind.bind.mono fun w μ1 α1 F1 H1 x1 r1 q1 v rv => ?_⟩
  refine ⟨ρ, μ1, α1, F1, r1, re.ext x1, q1.bind.mono fun u μ2 α2 F2 H2 x2 r2 q2 v' rv' => ?_⟩
  refine ⟨μ2, α2, F2, w, u, r2, rv.ext x2, rv', q2.calm.mono fun z μ3 α3 F3 H3 x3 r3 q3 v3 rv3 => ?_⟩
  obtain ⟨c, rfl, rfl, q4⟩ := wB_ok q3 rv3
  exact ⟨c, rfl, q4.now r3⟩
theorem st_val {e : Expr} {f : Ev} (h : SE X W e f) (he : ∀ whole, isTrue e X.env whole = (do let v ← whole; standAt e.pos; holding [v] (truthy v))) : ST X W e (tB' f) := by
  refine (pt_val h he).imp fun σ H Q ⟨ρ, μ, α, F, r, re, q⟩ => ?_
  refine ⟨ρ, μ, α, F, r, re, q.bind.mono fun w μ1 α1 F1 H1 x1 r1 q1 v rv => ?_⟩
  obtain ⟨c, rfl, rfl, q2⟩ := wB_ok q1 rv
  exact ⟨c, rfl, q2.now r1⟩
theorem st_not {a : Expr} {pos : Pos} {f : Bv} (ha : ST X W a f) : ST X W (.UnaryOp .Not a pos) (bNot f) := by
  refine (pt_not ha).imp fun σ H Q ⟨ρ, μ, α, F, r, re, q⟩ => ?_
  exact ⟨ρ, μ, α, F, r, re, q.bind.mono fun w μ1 α1 F1 H1 x1 r1 q1 => q1.now r1⟩
abbrev SW (X : Cx) (W : WX) (e : Expr) (f : Bv) : Prop := PW X e (tT X.K X.mg W f)
theorem _root_.L2.PW.imp {X : Cx} {e : Expr} {t t' : TT} (h : PW X e t) (i : ∀ σ H Q, t' σ H Q → t σ H Q) : PW X e t' := ⟨fun wh pins s σ H Q I q => h.run wh pins s σ H Q I (i _ _ _ q)⟩
theorem sw_and {a b : Expr} {rest : List Expr} {pos : Pos} {f g : Bv} (ha : ST X W a f) (hb : SW X W (.BoolOp .And (b :: rest) pos) g) : SW X W (.BoolOp .And (a :: b :: rest) pos) (bAnd f g) := by
  refine (pw_and ha hb).imp fun σ H Q ⟨ρ, μ, α, F, r, re, q⟩ => ?_
  refine ⟨ρ, μ, α, F, r, re, q.bind.mono fun c μ1 α1 F1 H1 x1 r1 q1 => ?_⟩
  cases c with
  | true => exact ⟨ρ, μ1, α1, F1, r1, re.ext x1, q1⟩
  | false => exact q1.now r1
theorem sw_or {a b : Expr} {rest : List Expr} {pos : Pos} {f g : Bv} (ha : ST X W a f) (hb : SW X W (.BoolOp .Or (b :: rest) pos) g) : SW X W (.BoolOp .Or (a :: b :: rest) pos) (bOr f g) := by
  refine (pw_or ha hb).imp fun σ H Q ⟨ρ, μ, α, F, r, re, q⟩ => ?_
  refine ⟨ρ, μ, α, F, r, re, q.bind.mono fun c μ1 α1 F1 H1 x1 r1 q1 => ?_⟩
  cases c with
  | false => exact ⟨ρ, μ1, α1, F1, r1, re.ext x1, q1⟩
  | true => exact q1.now r1
theorem sw_and1 {a : Expr} {pos : Pos} {f : Bv} (ha : ST X W a f) : SW X W (.BoolOp .And [a] pos) f := pw_and1 ha
theorem sw_or1 {a : Expr} {pos : Pos} {f : Bv} (ha : ST X W a f) : SW X W (.BoolOp .Or [a] pos) f := pw_or1 ha
theorem se_and {a b : Expr} {rest : List Expr} {pos : Pos} {f g : Ev} (ha : SE X W a f) (hb : SE X W (.BoolOp .And (b :: rest) pos) g) : SE X W (.BoolOp .And (a :: b :: rest) pos) (eAnd f g) := by
  refine (pe_and ha hb).imp fun σ H Q ⟨ρ, μ, α, F, r, re, q⟩ => ?_
  refine ⟨ρ, μ, α, F, r, re, q.bind.mono fun w μ1 α1 F1 H1 x1 r1 q1 v rv => ?_⟩
  obtain ⟨c, rfl, rfl, q2⟩ := wB_ok q1.bind0 rv
  refine ⟨c, rfl, ?_⟩
  cases c with
  | true => exact ⟨ρ, μ1, α1, F1, r1, re.ext x1, q1⟩
  | false => exact gp.now (c := Wv.d (.bool false)) q1 r1 _ (.bl false)
theorem se_or {a b : Expr} {rest : List Expr} {pos : Pos} {f g : Ev} (ha : SE X W a f) (hb : SE X W (.BoolOp .Or (b :: rest) pos) g) : SE X W (.BoolOp .Or (a :: b :: rest) pos) (eOr f g) := by
  refine (pe_or ha hb).imp fun σ H Q ⟨ρ, μ, α, F, r, re, q⟩ => ?_
  refine ⟨ρ, μ, α, F, r, re, q.bind.mono fun w μ1 α1 F1 H1 x1 r1 q1 v rv => ?_⟩
  obtain ⟨c, rfl, rfl, q2⟩ := wB_ok q1.bind0 rv
  refine ⟨c, rfl, ?_⟩
  cases c with
  | false => exact ⟨ρ, μ1, α1, F1, r1, re.ext x1, q1⟩
  | true => exact gp.now (c := Wv.d (.bool true)) q1 r1 _ (.bl true)
theorem se_one {op} {a : Expr} {pos : Pos} {f : Ev} (h : SE X W a f) : SE X W (.BoolOp op [a] pos) f := pe_one h
theorem se_not {a : Expr} {pos : Pos} {f : Ev} (ha : SE X W a f) : SE X W (.UnaryOp .Not a pos) (eNot f) := by
  refine (pe_not ha).imp fun σ H Q ⟨ρ, μ, α, F, r, re, q⟩ => ?_
  refine ⟨ρ, μ, α, F, r, re, q.bind.mono fun w μ1 α1 F1 H1 x1 r1 q1 v rv => ?_⟩
  obtain ⟨c, rfl, rfl, q2⟩ := wB_ok q1.bind0 rv
  exact ⟨c, rfl, gp.now (c := Wv.d (.bool (!c))) q1 r1 _ (.bl _)⟩
theorem se_if {c a b : Expr} {pos : Pos} {fc : Bv} {fa fb : Ev} (hc : ST X W c fc) (ha : SE X W a fa) (hb : SE X W b fb) : SE X W (.IfExp c a b pos) (eIf fc fa fb) := by
  refine (pe_ifExp hc ha hb).imp fun σ H Q ⟨ρ, μ, α, F, r, re, q⟩ => ?_
  refine ⟨ρ, μ, α, F, r, re, q.bind.mono fun c μ1 α1 F1 H1 x1 r1 q1 => ?_⟩
  cases c with
  | true => exact ⟨ρ, μ1, α1, F1, r1, re.ext x1, q1⟩
  | false => exact ⟨ρ, μ1, α1, F1, r1, re.ext x1, q1⟩

/-! displays -/
theorem allD_ok {K : PySem.W.Frag} {α : List Addr} {F : Hp} : ∀ {ws : List Wv} {c : Cell} {vs : List V}, allD ws = some c → Rws K α F vs ws → DqAll K F vs c
  | [], c, _, h, r => by
    cases r
    cases h
    exact .nil
  | .d x :: ws, c, _, h, r => by
    cases r with
    | cons r1 r2 =>
      unfold allD at h
      cases e : allD ws with
      | none =>
        rw [e] at h
        cases h
      | some c' =>
        rw [e] at h
        cases h
        exact .cons r1 (allD_ok e r2)
  | .r k :: ws, c, _, h, r => by cases h
  | .t ds :: ws, c, _, h, r => by cases h
  | .o _ :: ws, c, _, h, r => by cases h
  | .x _ _ _ :: ws, c, _, h, r => by cases h
theorem le_line {n : Nat} (h : n ≤ 16777216) : n ≤ sizeLine := by
  rw [sizeLine_eq]
  exact h
theorem sl_disp {es : List Expr} {pos : Pos} {as : Av} (h : SA X W es as) : SL X W (.List es pos) (lDisp as) := by
  refine (pe_lst h).imp fun σ H Q ⟨ρ, μ, α, F, r, re, q⟩ => ?_
  refine ⟨ρ, μ, α, F, r, re, q.bind0.mono fun ws μ1 α1 F1 H1 x1 r1 q1 vs rvs => ?_⟩
  cases e : allD ws with
  | none =>
    rw [e] at q1
    exact q1.elim
  | some c =>
    rw [e] at q1
    have q1' : gp X.K X.mg α F H (if c.length ≤ 16777216 then .ok c μ1 else .bad) (Gl' X.K H Q) (fun c d H' => W c d σ H') := q1
    have dq := allD_ok e rvs
    split at q1'
    · rename_i hl
      refine ⟨by rw [dq.length]; exact le_line hl, fun p hp => ?_⟩
      obtain ⟨r2, x2⟩ := r1.side (o := .lst vs) hp
      have hF : F1 p = none := r1.sub.free hp
      have hH : Fr H p := x1.keep p (.of hp)
      exact q1'.at (x1.trans x2) r2 p vs hH upd_same hF (fun m => r1.had p m (.of hp)) dq
    · exact q1'.elim
theorem se_tup {es : List Expr} {x1} {pos : Pos} {as : Av} (h : SA X W es as) : SE X W (.Tuple es x1 pos) (eTup as) := by
  refine (pe_tup h).imp fun σ H Q ⟨ρ, μ, α, F, r, re, q⟩ => ?_
  refine ⟨ρ, μ, α, F, r, re, q.bind.bind.mono fun ws μ1 α1 F1 H1 x1 r1 q1 vs rvs => ?_⟩
  cases e : allD ws with
  | none =>
    rw [e] at q1
    exact q1.elim
  | some c =>
    rw [e] at q1
    have dq := allD_ok e rvs
    by_cases hl : c.length ≤ 16777216
    · have q2 : gp X.K X.mg α1 F1 H1 ((if c.length ≤ 16777216 then Out.ok c μ1 else .bad).bind fun c μ1 => .ok (.d (.tuple c)) μ1) (Gw X.K Q) (fun c d H' => W c d σ H') := by
        cases z : (if c.length ≤ 16777216 then Out.ok c μ1 else .bad) with
        | ok c' μ' =>
          have : gp X.K X.mg α1 F1 H1 (if c.length ≤ 16777216 then Out.ok c μ1 else .bad) _ _ := q1
          rw [z] at this
          exact fun α' F' H' e r => gp.now (this α' F' H' e r) r
        | err x ws μ' =>
          rw [if_pos hl] at z
          cases z
        | bad =>
          rw [if_pos hl] at z
          cases z
      rw [if_pos hl] at q2
      refine ⟨by rw [dq.length]; exact le_line hl, fun p hp => ?_⟩
      obtain ⟨r2, x2⟩ := r1.new (o := .tup vs) hp
      exact q2.at x2 r2 _ (.tup (.of upd_same) (dq.mono x2.fro))
    · have : gp X.K X.mg α1 F1 H1 (if c.length ≤ 16777216 then Out.ok c μ1 else .bad) _ _ := q1
      rw [if_neg hl] at this
      exact this.elim
theorem Ext.frozen {α α' : List Addr} {F F' H H' : Hp} {D : Addr} {o : HO} (e : Ext α F H α' F' H') (hD : Fr H D) (hF : F' D = none) : Ext α F H α' (upd F' D o) H' :=
  ⟨e.pre, fun b u h => by
    have := e.fro _ _ h
    rw [upd_ne (ne_of_none this hF)]
    exact this, e.frame, e.keep, fun a xs ha c h => by
    have z : a ≠ D := fun q => (hD.no (q ▸ ha) c.nt).elim
    rw [upd_ne z] at h
    exact e.newF a xs ha c h, e.newA⟩
theorem Ext.celled {α α' : List Addr} {F F' H H' : Hp} {D : Addr} (e : Ext α F H α' F' H') (hD : Fr H D) : Ext α F H (α' ++ [D]) F' H' :=
  ⟨by
    obtain ⟨β, rfl⟩ := e.pre
    exact ⟨β ++ [D], by simp⟩, e.fro, e.frame, e.keep, e.newF, fun a h => by
    rcases List.mem_append.mp h with h | h
    · exact e.newA a h
    · simp at h
      subst h
      exact .inr hD⟩
theorem same_frozen {F : Hp} {D : Addr} {o : HO} (hF : F D = none) : Same F (upd F D o) := fun b u h => by
  rw [upd_ne (ne_of_none h hF)]
  exact h
theorem se_frz {e : Expr} {l : Lv} (h : SL X W e l) : SE X W e (eFrz l) := by
  refine h.imp fun σ H Q ⟨ρ, μ, α, F, r, re, q⟩ => ?_
  refine ⟨ρ, μ, α, F, r, re, q.bind0.mono fun c μ1 α1 F1 H1 x1 r1 q1 D vs hD hD1 hF hn dq => ?_⟩
  exact q1.at (x1.frozen hD hF) (r1.freezeSide hD1 hF hn) _ (.lst (.of upd_same) (dq.mono (same_frozen hF)))
theorem se_new {e : Expr} {l : Lv} (h : SL X W e l) : SE X W e (eNew l) := by
  refine h.imp fun σ H Q ⟨ρ, μ, α, F, r, re, q⟩ => ?_
  refine ⟨ρ, μ, α, F, r, re, q.bind0.mono fun c μ1 α1 F1 H1 x1 r1 q1 D vs hD hD1 hF hn dq => ?_⟩
  refine q1.at (x1.celled hD) (r1.cellSide hD1 hF hn dq) _ ⟨D, ?_, rfl, isL_of (by rw [r1.len]; exact r1.len0)⟩
  rw [r1.len, List.getElem?_append_right (Nat.le_refl _), Nat.sub_self]
  rfl
end
end TL
/-! TL3: operators, comparisons, built-in functions by data. -/
namespace TL
variable [TabN]
open PySem PySem.Spec L2

abbrev wI (i : Int) : Wv := .d (.int i)
abbrev wBl (b : Bool) : Wv := .d (.bool b)
abbrev wS (x : Str) : Wv := .d (.str x)
abbrev wT (xs : List PyData) : Wv := .d (.tuple xs)
abbrev wL (xs : List PyData) : Wv := .d (.list xs)
def bi (b : Bool) : Int := if b = true then 1 else 0
/-- a number: an int or a truth -/
def numOf : Wv → Option Int
  | .d (.int i) => some i
  | .d (.bool b) => some (bi b)
  | _ => none
theorem num_ok {K : PySem.W.Frag} {α : List Addr} {F : Hp} {v : V} {w : Wv} {i : Int} (h : numOf w = some i) (r : Rw K α F v w) : v = .int i ∨ ∃ b, v = .bl b ∧ i = bi b := by
  cases w with
  | r k => cases h
  | t ds => cases h
  | o _ => cases h
  | x _ _ _ => cases h
  | d x =>
    cases x with
    | int j =>
      cases h
      cases r
      exact .inl rfl
    | bool b =>
      cases h
      cases r
      exact .inr ⟨b, rfl, rfl⟩
    | _ => cases h
/-- the line of products: bits together -/

noncomputable def mulOk (i j : Int) : Bool := @decide ((Builtin.Int.intBits i : Int) + (Builtin.Int.intBits j : Int) ≤ 134217728) (Classical.propDecidable _)

def gAdd (a b : Wv) (μ : Mu) : Out Wv :=
  match numOf a, numOf b with
  | some i, some j => .ok (wI (i + j)) μ
  | _, _ => match a, b with
    | .d (.str x), .d (.str y) => if x.length + y.length ≤ 16777216 then .ok (wS (x ++ y)) μ else .bad
    | .d (.tuple xs), .d (.tuple ys) => if xs.length + ys.length ≤ 16777216 then .ok (wT (xs ++ ys)) μ else .bad
    | _, _ => .bad
def gSub (a b : Wv) (μ : Mu) : Out Wv :=
  match numOf a, numOf b with
  | some i, some j => .ok (wI (i - j)) μ
  | _, _ => .bad
noncomputable def gMul (a b : Wv) (μ : Mu) : Out Wv :=
  match numOf a, numOf b with
  | some i, some j => if mulOk i j = true then .ok (wI (i * j)) μ else .bad
  | _, _ => .bad
def gMod (a b : Wv) (μ : Mu) : Out Wv :=
  match a, b with
  | .d (.int i), .d (.int j) => if j = 0 then .bad else .ok (wI (i.fmod j)) μ
  | _, _ => .bad
def gDiv (a b : Wv) (μ : Mu) : Out Wv :=
  match a, b with
  | .d (.int i), .d (.int j) => if j = 0 ∨ Builtin.divisionGoesByPylong i j = true then .bad else .ok (wI (i.fdiv j)) μ
  | _, _ => .bad
def gPow (a b : Wv) (μ : Mu) : Out Wv :=
  match a, b with
  | .d (.int i), .d (.int j) => if 0 ≤ j ∧ j ≤ 1000000 ∧ i.natAbs < 2 ^ 64 then .ok (wI (i ^ j.toNat)) μ else .bad
  | _, _ => .bad
def gNeg (a : Wv) (μ : Mu) : Out Wv :=
  match a with
  | .d (.int i) => .ok (wI (-i)) μ
  | _ => .bad
def gCmp (p : Int → Int → Bool) (a b : Wv) (μ : Mu) : Out Wv :=
  match a, b with
  | .d (.int i), .d (.int j) => .ok (wBl (p i j)) μ
  | _, _ => .bad

section
variable {X : Cx}
theorem op_gAdd : OpR X (binaryOp .Add) (r2G X.K X.mg gAdd) := by
  intro pins s σ H x y v u Q I rx ry ⟨μ, α, F, w1, w2, r, h1, h2, q⟩
  unfold gAdd at q
  split at q
  · rename_i i j e1 e2
    have q := q.now r _ (.int _)
    rcases num_ok e1 h1 with rfl | ⟨b1, rfl, rfl⟩ <;> rcases num_ok e2 h2 with rfl | ⟨b2, rfl, rfl⟩
    · exact op_add pins s σ H _ _ v u Q I rx ry ⟨_, _, rfl, rfl, q⟩
    · obtain ⟨t, rfl⟩ := rx
      cases ry
      exact PySem.add_int_bool ⟨.int _, H, I.tok _, ⟨_, rfl⟩, q⟩
    · obtain ⟨t, rfl⟩ := ry
      cases rx
      exact PySem.IntBool.add_bool_int ⟨.int _, H, I.tok _, ⟨_, rfl⟩, q⟩
    · cases rx
      cases ry
      exact PyProof.Rows.add_bool ⟨.int _, H, I.tok _, ⟨_, rfl⟩, q⟩
  · split at q
    · split at q
      · rename_i hl
        cases h1
        cases h2
        exact op_add_str pins s σ H _ _ v u Q I rx ry ⟨_, _, rfl, rfl, le_line hl, q.now r _ (.str _)⟩
      · exact q.elim
    · rename_i xs ys _
      split at q
      · rename_i hl
        cases h1 with
        | @tup a vs _ t1 d1 =>
          cases h2 with
          | @tup b us _ t2 d2 =>
            refine op_catA pins s σ H _ _ v u Q I rx ry ⟨a, b, vs, us, rfl, rfl, sameT r.sub t1, sameT r.sub t2, ?_, fun e => ?_, fun _ e => ?_, fun _ _ p hp => ?_⟩
            · rw [d1.length, d2.length]
              exact le_line hl
            · subst e
              cases d1
              exact q.now r _ (.tup t2 d2)
            · subst e
              cases d2
              rw [List.append_nil] at q
              exact q.now r _ (.tup t1 d1)
            · obtain ⟨r2, x2⟩ := r.new (o := .tup (vs ++ us)) hp
              exact q.at x2 r2 _ (.tup (.of upd_same) ((d1.mono x2.fro).append (d2.mono x2.fro)))
      · exact q.elim
    · exact q.elim
theorem op_gSub : OpR X (binaryOp .Sub) (r2G X.K X.mg gSub) := by
  intro pins s σ H x y v u Q I rx ry ⟨μ, α, F, w1, w2, r, h1, h2, q⟩
  unfold gSub at q
  split at q
  · rename_i i j e1 e2
    have q := q.now r _ (.int _)
    rcases num_ok e1 h1 with rfl | ⟨b1, rfl, rfl⟩ <;> rcases num_ok e2 h2 with rfl | ⟨b2, rfl, rfl⟩
    · exact op_sub pins s σ H _ _ v u Q I rx ry ⟨_, _, rfl, rfl, q⟩
    · obtain ⟨t, rfl⟩ := rx
      cases ry
      exact PySem.IntBool.sub_int_bool ⟨.int _, H, I.tok _, ⟨_, rfl⟩, q⟩
    · obtain ⟨t, rfl⟩ := ry
      cases rx
      exact PySem.IntBool.sub_bool_int ⟨.int _, H, I.tok _, ⟨_, rfl⟩, q⟩
    · cases rx
      cases ry
      exact PyProof.Rows.sub_bool ⟨.int _, H, I.tok _, ⟨_, rfl⟩, q⟩
  · exact q.elim
theorem op_gMul : OpR X (binaryOp .Mult) (r2G X.K X.mg gMul) := by
  intro pins s σ H x y v u Q I rx ry ⟨μ, α, F, w1, w2, r, h1, h2, q⟩
  unfold gMul at q
  split at q
  · rename_i i j e1 e2
    split at q
    · rename_i hm
      have q := q.now r _ (.int _)
      rcases num_ok e1 h1 with rfl | ⟨b1, rfl, rfl⟩ <;> rcases num_ok e2 h2 with rfl | ⟨b2, rfl, rfl⟩
      · have hm' : (Builtin.Int.intBits i : Int) + (Builtin.Int.intBits j : Int) ≤ 134217728 := @of_decide_eq_true _ (Classical.propDecidable _) hm
        exact op_mulX pins s σ H _ _ v u Q I rx ry ⟨_, _, rfl, rfl, hm', q⟩
      · obtain ⟨t, rfl⟩ := rx
        cases ry
        exact PySem.IntBool.mul_int_bool ⟨.int _, H, I.tok _, ⟨_, rfl⟩, q⟩
      · obtain ⟨t, rfl⟩ := ry
        cases rx
        exact PySem.IntBool.mul_bool_int ⟨.int _, H, I.tok _, ⟨_, rfl⟩, q⟩
      · cases rx
        cases ry
        exact PyProof.Rows.mul_bool ⟨.int _, H, I.tok _, ⟨_, rfl⟩, q⟩
    · exact q.elim
  · exact q.elim
theorem op_gMod : OpR X (binaryOp .Mod) (r2G X.K X.mg gMod) := by
  intro pins s σ H x y v u Q I rx ry ⟨μ, α, F, w1, w2, r, h1, h2, q⟩
  unfold gMod at q
  split at q
  · split at q
    · exact q.elim
    · rename_i hz
      cases h1
      cases h2
      exact op_modN pins s σ H _ _ v u Q I rx ry ⟨_, _, rfl, rfl, hz, q.now r _ (.int _)⟩
  · exact q.elim
theorem op_gDiv : OpR X (binaryOp .FloorDiv) (r2G X.K X.mg gDiv) := by
  intro pins s σ H x y v u Q I rx ry ⟨μ, α, F, w1, w2, r, h1, h2, q⟩
  unfold gDiv at q
  split at q
  · split at q
    · exact q.elim
    · rename_i hz
      cases h1
      cases h2
      obtain ⟨t, rfl⟩ := rx
      obtain ⟨t', rfl⟩ := ry
      have hz' := not_or.mp hz
      exact PyProof.Rows.floordiv_int hz'.1 ⟨.int _, H, I.tok _, ⟨_, rfl⟩, q.now r _ (.int _)⟩ (.inl (by simpa using hz'.2))
  · exact q.elim
theorem op_gPow : OpR X (binaryOp .Pow) (r2G X.K X.mg gPow) := by
  intro pins s σ H x y v u Q I rx ry ⟨μ, α, F, w1, w2, r, h1, h2, q⟩
  unfold gPow at q
  split at q
  · split at q
    · rename_i hz
      cases h1
      cases h2
      exact op_pow pins s σ H _ _ v u Q I rx ry ⟨_, _, rfl, rfl, hz, q.now r _ (.int _)⟩
    · exact q.elim
  · exact q.elim
theorem un_gNeg : UnR X (unaryOp .USub) (r1G X.K X.mg gNeg) := by
  intro pins s σ H x v Q I rx ⟨μ, α, F, w1, r, h1, q⟩
  unfold gNeg at q
  split at q
  · cases h1
    exact un_neg pins s σ H _ v Q I rx ⟨_, rfl, q.now r _ (.int _)⟩
  · exact q.elim
theorem op_gLt : OpR X (compareOp .Lt) (r2G X.K X.mg (gCmp fun i j => decide (i < j))) := by
  intro pins s σ H x y v u Q I rx ry ⟨μ, α, F, w1, w2, r, h1, h2, q⟩
  unfold gCmp at q
  split at q
  · cases h1
    cases h2
    exact op_lt pins s σ H _ _ v u Q I rx ry ⟨_, _, rfl, rfl, q.now r _ (.bl _)⟩
  · exact q.elim
theorem op_gLe : OpR X (compareOp .LtE) (r2G X.K X.mg (gCmp fun i j => decide (i ≤ j))) := by
  intro pins s σ H x y v u Q I rx ry ⟨μ, α, F, w1, w2, r, h1, h2, q⟩
  unfold gCmp at q
  split at q
  · cases h1
    cases h2
    exact op_le pins s σ H _ _ v u Q I rx ry ⟨_, _, rfl, rfl, q.now r _ (.bl _)⟩
  · exact q.elim
theorem op_gGt : OpR X (compareOp .Gt) (r2G X.K X.mg (gCmp fun i j => decide (j < i))) := by
  intro pins s σ H x y v u Q I rx ry ⟨μ, α, F, w1, w2, r, h1, h2, q⟩
  unfold gCmp at q
  split at q
  · cases h1
    cases h2
    exact op_gt pins s σ H _ _ v u Q I rx ry ⟨_, _, rfl, rfl, q.now r _ (.bl _)⟩
  · exact q.elim
theorem op_gGe : OpR X (compareOp .GtE) (r2G X.K X.mg (gCmp fun i j => decide (j ≤ i))) := by
  intro pins s σ H x y v u Q I rx ry ⟨μ, α, F, w1, w2, r, h1, h2, q⟩
  unfold gCmp at q
  split at q
  · cases h1
    cases h2
    exact op_ge pins s σ H _ _ v u Q I rx ry ⟨_, _, rfl, rfl, q.now r _ (.bl _)⟩
  · exact q.elim
end

/-! ### data of a value -/
def dataOf (μ : Mu) : Wv → Option PyData
  | .d x => some x
  | .r k => (μ[k]?.join).map PyData.list
  | .t _ => none
  | .o _ => none
  | .x _ _ _ => none
theorem data_ok {K : PySem.W.Frag} {α : List Addr} {F H : Hp} {μ : Mu} {v : V} {w : Wv} {x : PyData} (r : Rep K α F μ H) (h : dataOf μ w = some x) (q : Rw K α F v w) : Dq K H v x := by
  cases w with
  | d y =>
    cases h
    exact Dq.mono r.sub q
  | t ds => cases h
  | o _ => cases h
  | x _ _ _ => cases h
  | r k =>
    have h' : (μ[k]?.join).map PyData.list = some x := h
    obtain ⟨c, e, rfl⟩ := Option.map_eq_some_iff.mp h'
    have e' : μ[k]? = some (some c) := by
      cases z : μ[k]? with
      | none =>
        rw [z] at e
        cases e
      | some o =>
        rw [z] at e
        have e2 : o = some c := e
        rw [e2]
    obtain ⟨b, g1, rfl, hL⟩ := q
    obtain ⟨a, vs, h1, h2, h3, h4⟩ := r.lcell hL e'
    rw [h1] at g1
    cases g1
    exact .lst (.of h2) (h4.mono r.sub)
section
variable {X : Cx} {pins : List (Addr × Obj)} {σ : St} {H : Hp} {s : Shared}
mutual
theorem Dq.reads (I : Inv X pins σ H s) : ∀ (d : PyData) (v : V) (u : Value), Dq X.K H v d → RelV v u → ∃ as, Reads s.heap u d as ∧ ((∀ (a : Addr) (xs : List V), Ls X.K H a xs → a ≠ sysModules) → sysModules ∉ as)
  | .none, _, _, h, r => by
    cases h
    cases r
    exact ⟨_, .none, by simp⟩
  | .bool b, _, _, h, r => by
    cases h
    cases r
    exact ⟨_, .bool b, by simp⟩
  | .int i, _, _, h, r => by
    cases h
    obtain ⟨t, rfl⟩ := r
    exact ⟨_, .int i t, by simp⟩
  | .str x, _, _, h, r => by
    cases h
    obtain ⟨t, rfl⟩ := r
    exact ⟨_, .str x t, by simp⟩
  | .list ds, _, _, h, r => by
    cases h with
    | lst hs ha =>
      cases r
      obtain ⟨z, its, n, rv, e⟩ := hs.ob I
      obtain ⟨as, hr, hm⟩ := Dq.readsAll I ds _ its ha rv
      refine ⟨_, .list e rfl rfl hr, fun hS hm' => ?_⟩
      rcases List.mem_cons.mp hm' with q | q
      · exact hS _ _ hs q.symm
      · exact hm hS q
  | .tuple ds, _, _, h, r => by
    cases h with
    | tup hs ha =>
      cases r
      obtain ⟨its, rv, ⟨o, ho, hc, n, hd⟩, _⟩ := I.tuple hs
      obtain ⟨as, hr, hm⟩ := Dq.readsAll I ds _ its ha rv
      exact ⟨_, .tuple ho hc hd hr, hm⟩
  | .dict _, _, _, h, r => by
    cases h with
    | dic hs =>
      cases r
      obtain ⟨z, y, vs, kv, o, es, ep, e1, e2, e3, e4, e5, e6⟩ := I.hok _ _ hs
      cases kv
      have e7 : es.toList = [] := by
        cases q : es.toList with
        | nil => rfl
        | cons a b =>
          rw [q] at e5
          exact nomatch e5
      refine ⟨_, .dict (as := []) (bs := []) e1 e2.1 e3 (by rw [e7]; exact .nil) (by rw [e7]; exact .nil), fun _ hm => ?_⟩
      simp at hm
      rw [← hm] at y
      exact absurd y (by decide)
theorem Dq.readsAll (I : Inv X pins σ H s) : ∀ (ds : List PyData) (vs : List V) (us : List Value), DqAll X.K H vs ds → Vals vs us → ∃ as, ReadsAll s.heap us ds as ∧ ((∀ (a : Addr) (xs : List V), Ls X.K H a xs → a ≠ sysModules) → sysModules ∉ as)
  | [], _, _, h, r => by
    cases h
    cases r
    exact ⟨_, .nil, by simp⟩
  | d :: ds, _, _, h, r => by
    cases h with
    | cons h1 h2 =>
      cases r with
      | cons r1 r2 =>
        obtain ⟨as, q1, m1⟩ := Dq.reads I d _ _ h1 r1
        obtain ⟨bs, q2, m2⟩ := Dq.readsAll I ds _ _ h2 r2
        exact ⟨_, .cons q1 q2, fun hS => by simp [m1 hS, m2 hS]⟩
end
end
end TL
/-! TL4: ==, in, is; built-in functions. -/
namespace TL
variable [TabN]
open PySem PySem.Spec L2

/-- what == of two data is, where the model's own comparison is known -/
def eqP : PyData → PyData → Option Bool
  | .str x, .str y => some (decide (x = y))
  | .tuple [], .tuple ys => some ys.isEmpty
  | .tuple (_ :: _), .tuple [] => some false
  | .list [], .list ys => some ys.isEmpty
  | .list (_ :: _), .list [] => some false
  | x, y => if SeqAt.shaped x = true ∧ SeqAt.shaped y = true then some (PyData.eqv x y) else none
def gEq (neg : Bool) (a b : Wv) (μ : Mu) : Out Wv :=
  match dataOf μ a, dataOf μ b with
  | some x, some y => match eqP x y with
    | some c => .ok (wBl (if neg then !c else c)) μ
    | none => .bad
  | _, _ => .bad
/-- x in c -/
def inP : PyData → PyData → Option Bool
  | .str x, .str y => some (!(Builtin.Str.occurrences y x 0 y.length 1).isEmpty)
  | x, .list ys => if SeqAt.shaped x = true ∧ SeqAt.shaped (.list ys) = true then some (ys.any fun z => PyData.eqv z x) else none
  | x, .tuple ys => if SeqAt.shaped x = true ∧ SeqAt.shaped (.tuple ys) = true then some (ys.any fun z => PyData.eqv z x) else none
  | _, _ => none
def gIn (neg : Bool) (a b : Wv) (μ : Mu) : Out Wv :=
  match dataOf μ a, dataOf μ b with
  | some x, some y => match inP x y with
    | some c => .ok (wBl (if neg then !c else c)) μ
    | none => .bad
  | _, _ => .bad
def isNoneD : PyData → Bool
  | .none => true
  | _ => false
/-- x is None -/
def gIsN (neg : Bool) (a b : Wv) (μ : Mu) : Out Wv :=
  match a, b with
  | .d x, .d .none => .ok (wBl (if neg then !isNoneD x else isNoneD x)) μ
  | .r _, .d .none => .ok (wBl neg) μ
  | _, _ => .bad

section
variable {X : Cx} {pins : List (Addr × Obj)} {σ : St} {H : Hp} {s : Shared}
theorem Dq.tupAt (I : Inv X pins σ H s) {xs : List PyData} {v : V} {u : Value} (h : Dq X.K H v (.tuple xs)) (r : RelV v u) : ∃ a its, u = .ref a ∧ s.heap.IsTuple a its ∧ its.size = xs.length := by
  cases h with
  | tup hs ha =>
    cases r
    obtain ⟨its, rv, p, _⟩ := I.tuple hs
    exact ⟨_, its.toArray, rfl, p, by rw [List.size_toArray, ← rv.length, ha.length]⟩
theorem Dq.lstAt (I : Inv X pins σ H s) {xs : List PyData} {v : V} {u : Value} (h : Dq X.K H v (.list xs)) (r : RelV v u) : ∃ a its, u = .ref a ∧ s.heap.IsList a its ∧ its.size = xs.length := by
  cases h with
  | lst hs ha =>
    cases r
    obtain ⟨z, its, n, rv, e⟩ := hs.ob I
    exact ⟨_, its.toArray, rfl, ⟨_, e, rfl, n, rfl⟩, by rw [List.size_toArray, ← rv.length, ha.length]⟩
/-- both answers at once -/
def EqN (A : Around) (s : Shared) (y x : Value) (b : Bool) : Prop := SeqAt.RcAt A s y x b ∧ SeqAt.RcNeAt A s y x (!b)
theorem eqN_tup0 {A : Around} {l b : Addr} {i1 i2 : Array Value} (hl : s.heap.IsTuple l i1) (hb : s.heap.IsTuple b i2) (hu : A.units < cLine) (h0 : i1.size = 0 ∨ i2.size = 0) : EqN A s (.ref l) (.ref b) (i1.size == i2.size) := by
  have he : ∀ j (h1 : j < i1.size) (h2 : j < i2.size), SeqAt.EqAt A.in1 s i1[j] i2[j] (true) := fun j h1 h2 => by omega
  have e : (List.range (min i1.size i2.size)).all (fun _ => true) = true := by simp
  have q1 := SeqAt.RcAt.tuples (e := fun _ => true) hl hb hu he
  have q2 := SeqAt.RcNeAt.tuples (e := fun _ => true) hl hb hu he
  rw [e, Bool.true_and] at q1 q2
  exact ⟨q1, q2⟩
theorem eqN_lst0 {A : Around} {l b : Addr} {i1 i2 : Array Value} (hl : s.heap.IsList l i1) (hb : s.heap.IsList b i2) (hu : A.units < cLine) (h0 : i1.size = 0 ∨ i2.size = 0) : EqN A s (.ref l) (.ref b) (i1.size == i2.size) := by
  by_cases hz : i1.size = i2.size
  · have he : ∀ j (h1 : j < i1.size) (h2 : j < i2.size), SeqAt.EqAt A.in1 s i1[j] i2[j] (true) := fun j h1 h2 => by omega
    have e : (List.range i1.size).all (fun _ => true) = true := by simp
    have q1 := SeqAt.RcAt.lists (e := fun _ => true) hl hb hz hu he
    have q2 := SeqAt.RcNeAt.lists (e := fun _ => true) hl hb hz hu he
    rw [e] at q1 q2
    rw [show (i1.size == i2.size) = true by simpa using hz]
    exact ⟨q1, q2⟩
  · rw [show (i1.size == i2.size) = false by simpa using hz]
    exact ⟨SeqAt.RcAt.lists_lengths hl hb (by simpa using hz) hu, SeqAt.RcNeAt.lists_lengths hl hb (by simpa using hz) hu⟩
theorem eqP_at (I : Inv X pins σ H s) (hu : X.A.units + 64 < cLine) {x y : PyData} {c : Bool} (h : eqP x y = some c) {v1 v2 : V} {u1 u2 : Value} (h1 : Dq X.K H v1 x) (h2 : Dq X.K H v2 y) (r1 : RelV v1 u1) (r2 : RelV v2 u2) {Q : VK} :
    (Q (.bl c) H → wpAny (model X.prog X.w) X.A (compareOp .Eq u1 u2) (EP X pins σ Q) X.xe s) ∧ (Q (.bl (!c)) H → wpAny (model X.prog X.w) X.A (compareOp .NotEq u1 u2) (EP X pins σ Q) X.xe s) := by
  have hu0 : X.A.units < cLine := by omega
  have fin : ∀ b : Bool, Q (.bl b) H → EP X pins σ Q (.bool b) s := fun b q => ⟨.bl b, H, I, rfl, q⟩
  have ofN : EqN X.A s u1 u2 c → (Q (.bl c) H → wpAny (model X.prog X.w) X.A (compareOp .Eq u1 u2) (EP X pins σ Q) X.xe s) ∧ (Q (.bl (!c)) H → wpAny (model X.prog X.w) X.A (compareOp .NotEq u1 u2) (EP X pins σ Q) X.xe s) :=
    fun n => ⟨fun q => n.1 _ _ _ _ (fin _ q), fun q => n.2 _ _ _ _ (fin _ q)⟩
  unfold eqP at h
  split at h
  · rename_i z1 z2
    cases h
    cases h1
    cases h2
    refine ⟨fun q => op_eq pins s σ H _ _ u1 u2 Q I r1 r2 ⟨rfl, ?_⟩, fun q => op_ne pins s σ H _ _ u1 u2 Q I r1 r2 ⟨rfl, ?_⟩⟩
    · have e : decide (V.str z1 = V.str z2) = decide (z1 = z2) := by simp
      rw [e]
      exact q
    · have e : decide (V.str z1 = V.str z2) = decide (z1 = z2) := by simp
      rw [e]
      exact q
  · rename_i ys
    cases h
    obtain ⟨a, i1, rfl, t1, z1⟩ := h1.tupAt I r1
    obtain ⟨b, i2, rfl, t2, z2⟩ := h2.tupAt I r2
    refine ofN ?_
    have q := eqN_tup0 (A := X.A) t1 t2 hu0 (.inl z1)
    have e : (i1.size == i2.size) = ys.isEmpty := by
      rw [z1, z2]
      cases ys <;> rfl
    rw [e] at q
    exact q
  · rename_i hd tl
    cases h
    obtain ⟨a, i1, rfl, t1, z1⟩ := h1.tupAt I r1
    obtain ⟨b, i2, rfl, t2, z2⟩ := h2.tupAt I r2
    refine ofN ?_
    have q := eqN_tup0 (A := X.A) t1 t2 hu0 (.inr z2)
    rw [show (i1.size == i2.size) = false by rw [z1, z2]; rfl] at q
    exact q
  · rename_i ys
    cases h
    obtain ⟨a, i1, rfl, t1, z1⟩ := h1.lstAt I r1
    obtain ⟨b, i2, rfl, t2, z2⟩ := h2.lstAt I r2
    refine ofN ?_
    have q := eqN_lst0 (A := X.A) t1 t2 hu0 (.inl z1)
    have e : (i1.size == i2.size) = ys.isEmpty := by
      rw [z1, z2]
      cases ys <;> rfl
    rw [e] at q
    exact q
  · rename_i hd tl
    cases h
    obtain ⟨a, i1, rfl, t1, z1⟩ := h1.lstAt I r1
    obtain ⟨b, i2, rfl, t2, z2⟩ := h2.lstAt I r2
    refine ofN ?_
    have q := eqN_lst0 (A := X.A) t1 t2 hu0 (.inr z2)
    rw [show (i1.size == i2.size) = false by rw [z1, z2]; rfl] at q
    exact q
  · split at h
    · rename_i hs
      cases h
      obtain ⟨as, d1, _⟩ := Dq.reads I x v1 u1 h1 r1
      obtain ⟨bs, d2, _⟩ := Dq.reads I y v2 u2 h2 r2
      exact ⟨fun q => SeqAt.compareEq_shaped d1 d2 hs.1 hs.2 hu (fin _ q), fun q => SeqAt.compareNe_shaped d1 d2 hs.1 hs.2 hu (fin _ q)⟩
    · cases h
end
section
variable {X : Cx}
theorem op_gEq (hu : X.A.units + 64 < cLine) : OpR X (compareOp .Eq) (r2G X.K X.mg (gEq false)) := by
  intro pins s σ H x y v u Q I rx ry ⟨μ, α, F, w1, w2, r, h1, h2, q⟩
  unfold gEq at q
  split at q
  · rename_i a b e1 e2
    split at q
    · rename_i c e
      exact (eqP_at I hu e (data_ok r e1 h1) (data_ok r e2 h2) rx ry).1 (q.now r _ (.bl _))
    · exact q.elim
  · exact q.elim
theorem op_gNe (hu : X.A.units + 64 < cLine) : OpR X (compareOp .NotEq) (r2G X.K X.mg (gEq true)) := by
  intro pins s σ H x y v u Q I rx ry ⟨μ, α, F, w1, w2, r, h1, h2, q⟩
  unfold gEq at q
  split at q
  · rename_i a b e1 e2
    split at q
    · rename_i c e
      exact (eqP_at I hu e (data_ok r e1 h1) (data_ok r e2 h2) rx ry).2 (q.now r _ (.bl _))
    · exact q.elim
  · exact q.elim
theorem shaped_all {xs : List PyData} (h : SeqAt.shaped (.tuple xs) = true) : PyData.canLayAll0 xs = true ∧ PyData.depthAll xs ≤ 64 := by
  have h1 := SeqAt.canLay_of_shaped h
  have h2 := SeqAt.depth_of_shaped h
  refine ⟨by simpa only [PyData.canLay0] using h1, ?_⟩
  simp only [PyData.depth] at h2
  omega
theorem shaped_allL {xs : List PyData} (h : SeqAt.shaped (.list xs) = true) : PyData.canLayAll0 xs = true ∧ PyData.depthAll xs ≤ 64 := by
  have h1 := SeqAt.canLay_of_shaped h
  have h2 := SeqAt.depth_of_shaped h
  refine ⟨by simpa only [PyData.canLay0] using h1, ?_⟩
  simp only [PyData.depth] at h2
  omega
theorem inP_at {pins : List (Addr × Obj)} {σ : St} {H : Hp} {s : Shared} (I : Inv X pins σ H s) (hu : X.A.units + 65 < cLine) {x y : PyData} {c : Bool} (h : inP x y = some c) {v1 v2 : V} {u1 u2 : Value} (h1 : Dq X.K H v1 x) (h2 : Dq X.K H v2 y) (r1 : RelV v1 u1) (r2 : RelV v2 u2) {Q : VK} :
    (Q (.bl c) H → wpAny (model X.prog X.w) X.A (compareOp .In u1 u2) (EP X pins σ Q) X.xe s) ∧ (Q (.bl (!c)) H → wpAny (model X.prog X.w) X.A (compareOp .NotIn u1 u2) (EP X pins σ Q) X.xe s) := by
  have fin : ∀ b : Bool, Q (.bl b) H → EP X pins σ Q (.bool b) s := fun b q => ⟨.bl b, H, I, rfl, q⟩
  unfold inP at h
  split at h
  · cases h
    cases h1
    cases h2
    exact ⟨fun q => op_in_str pins s σ H _ _ u1 u2 Q I r1 r2 ⟨_, _, rfl, rfl, q⟩, fun q => op_notin_str pins s σ H _ _ u1 u2 Q I r1 r2 ⟨_, _, rfl, rfl, q⟩⟩
  · split at h
    · rename_i hs
      cases h
      obtain ⟨as, d1, _⟩ := Dq.reads I _ v1 u1 h1 r1
      obtain ⟨bs, d2, _⟩ := Dq.reads I _ v2 u2 h2 r2
      obtain ⟨c1, c2⟩ := shaped_allL hs.2
      have hm : ∀ n : Nat, X.A.units + 1 + min (PyData.depthAll _) n < cLine := fun n => Nat.lt_of_le_of_lt (Nat.add_le_add_left (Nat.le_trans (Nat.min_le_left _ _) c2) _) (by omega)
      exact ⟨fun q => SeqAt.in_list_reads d2 d1 c1 (SeqAt.canLay_of_shaped hs.1) (hm _) (fin _ q), fun q => SeqAt.notIn_list_reads d2 d1 c1 (SeqAt.canLay_of_shaped hs.1) (hm _) (fin _ q)⟩
    · cases h
  · split at h
    · rename_i hs
      cases h
      obtain ⟨as, d1, _⟩ := Dq.reads I _ v1 u1 h1 r1
      obtain ⟨bs, d2, _⟩ := Dq.reads I _ v2 u2 h2 r2
      obtain ⟨c1, c2⟩ := shaped_all hs.2
      have hm : ∀ n : Nat, X.A.units + 1 + min (PyData.depthAll _) n < cLine := fun n => Nat.lt_of_le_of_lt (Nat.add_le_add_left (Nat.le_trans (Nat.min_le_left _ _) c2) _) (by omega)
      exact ⟨fun q => SeqAt.in_tuple_reads d2 d1 c1 (SeqAt.canLay_of_shaped hs.1) (hm _) (fin _ q), fun q => SeqAt.notIn_tuple_reads d2 d1 c1 (SeqAt.canLay_of_shaped hs.1) (hm _) (fin _ q)⟩
    · cases h
  · cases h
theorem op_gIn (hu : X.A.units + 65 < cLine) : OpR X (compareOp .In) (r2G X.K X.mg (gIn false)) := by
  intro pins s σ H x y v u Q I rx ry ⟨μ, α, F, w1, w2, r, h1, h2, q⟩
  unfold gIn at q
  split at q
  · rename_i a b e1 e2
    split at q
    · rename_i c e
      exact (inP_at I hu e (data_ok r e1 h1) (data_ok r e2 h2) rx ry).1 (q.now r _ (.bl _))
    · exact q.elim
  · exact q.elim
theorem op_gNotIn (hu : X.A.units + 65 < cLine) : OpR X (compareOp .NotIn) (r2G X.K X.mg (gIn true)) := by
  intro pins s σ H x y v u Q I rx ry ⟨μ, α, F, w1, w2, r, h1, h2, q⟩
  unfold gIn at q
  split at q
  · rename_i a b e1 e2
    split at q
    · rename_i c e
      exact (inP_at I hu e (data_ok r e1 h1) (data_ok r e2 h2) rx ry).2 (q.now r _ (.bl _))
    · exact q.elim
  · exact q.elim
theorem isNoneD_ok {K : PySem.W.Frag} {F : Hp} {v : V} {x : PyData} (h : Dq K F v x) : decide (v = .non) = isNoneD x := by
  cases h <;> simp [isNoneD]
theorem op_gIs : OpR X (compareOp .Is) (r2G X.K X.mg (gIsN false)) := by
  intro pins s σ H x y v u Q I rx ry ⟨μ, α, F, w1, w2, r, h1, h2, q⟩
  unfold gIsN at q
  split at q
  · cases h2
    refine op_isN pins s σ H _ _ v u Q I rx ry ⟨rfl, ?_⟩
    rw [isNoneD_ok h1]
    exact q.now r _ (.bl _)
  · cases h2
    obtain ⟨a, _, rfl, _⟩ := h1
    exact op_isN pins s σ H _ _ v u Q I rx ry ⟨rfl, q.now r _ (.bl _)⟩
  · exact q.elim
theorem op_gIsNot : OpR X (compareOp .IsNot) (r2G X.K X.mg (gIsN true)) := by
  intro pins s σ H x y v u Q I rx ry ⟨μ, α, F, w1, w2, r, h1, h2, q⟩
  unfold gIsN at q
  split at q
  · cases h2
    refine op_notN pins s σ H _ _ v u Q I rx ry ⟨rfl, ?_⟩
    rw [isNoneD_ok h1]
    exact q.now r _ (.bl _)
  · cases h2
    obtain ⟨a, _, rfl, _⟩ := h1
    exact op_notN pins s σ H _ _ v u Q I rx ry ⟨rfl, q.now r _ (.bl _)⟩
  · exact q.elim
end
end TL
/-! TL5: what a def promises where nothing is being printed (so that repr is known); calls. -/
namespace TL
variable [TabN]
open PySem PySem.Spec L2 PyProof.Rows

/-- as the layer's promise, told only of calls around which no repr runs -/
structure FnG (P : Program) (w : World) (K : PySem.W.Frag) (mg : Str → Option Value) (base : Heap) (k : Nat) (f : Addr) (fd : FuncData) (ps : List Str) (sp : Sp) : Prop where
  len : ∀ vs H Q E, sp vs H Q E → vs.length = ps.length
  run : ∀ (A : Around) (outer : List Env) (s : Shared) (H : Hp) (args : Args) (us : List Value) (vs : List V) (Q : VK) (E : XK), Room k A → A.guards = some [] →
    Env0 P w K mg base A outer s H → BindsTo s fd args (ps.zip us) → Vals vs us → sp vs H Q E → codeAny (model P w) A (.call (.ref f) args) (CR (L2.CX P w) outer P w H s Q E) s
theorem FnG.up {P : Program} {w : World} {K : PySem.W.Frag} {mg : Str → Option Value} {base : Heap} {j k : Nat} {f : Addr} {fd : FuncData} {ps : List Str} {sp : Sp} (G : FnG P w K mg base j f fd ps sp) (h : j ≤ k) : FnG P w K mg base k f fd ps sp :=
  ⟨G.len, fun A outer s H args us vs Q E hr => G.run A outer s H args us vs Q E (hr.mono h)⟩

/-- a def of the text keeps its promise by its body's reading -/
theorem fng_ofC {P : Program} {w : World} {K : PySem.W.Frag} {mg : Str → Option Value} {base : Heap} {k : Nat} {f : Addr} {x qual : Str} {st : Stmt} {fd : FuncData} {N ps : List Str} {sp : Sp}
    (F : Fun K x qual st f fd) (S : FnScope N ps (defScope st)) (len : ∀ vs H Q E, sp vs H Q E → vs.length = ps.length)
    (body : ∀ (cdv : Value) (A : Around) (outer : List Env) (s : Shared) (H : Hp) (vs : List V) (Q : VK) (E : XK), fd.code = cdv → Room k (A.deeper (envOfC qual (defScope st) s.heap.objs.size f cdv)) → A.guards = some [] → sp vs H Q E →
      ∃ t, PSs (cxOf (L2.CX P w) P w K mg base N qual (defScope st) f cdv A outer s H E) (defBody st) t ∧ t { nx := fun _ H' => Q .non H', rt := Q } (L2.start N vs) H) :
    FnG P w K mg base (k + 1) f fd ps sp := by
  obtain ⟨oc, od, kV, doc, pm, an, cdv, ct, osl, efd, lk, cd⟩ := F.ex
  subst efd
  refine ⟨len, fun A outer s0 H args us vs Q E room gd env bd rel want => ?_⟩
  have count := len _ _ _ _ want
  have inK : K.In s0.heap := env.mod.kin.keeps fun b o z => (env.bs b o z).1
  have nolim : s0.heap.NoLimit := env.mod.nolimit.keeps fun b o z => (env.bs b o z).1
  have kinds : ∀ y ∈ ps.zip us, (defScope st).names.lookup y.1 = some .local ∨ ((defScope st).names.lookup y.1 = some .cell ∧ ((cellsFrom (s0.heap.objs.size + 1) (defScope st).names []).lookup y.1).isSome = true) := by
    rintro ⟨m, v⟩ hm
    cases S.par m (List.of_mem_zip hm).1 with
    | inl q => exact .inl q
    | inr q => exact .inr ⟨q, PySem.W.cellsFrom_some _ _ _ (.inl q)⟩
  refine codeAny_call_function room.depth (inK _ _ lk) rfl S.co S.gen rfl (PySem.W.codeRec_of inK cd) (bd _ _ _ _ ?_)
  refine wpAny_newFunctionEnv_cells S.kind kinds fun e2 he s1 ic => ?_
  subst he
  obtain ⟨t, ht, ready⟩ := body cdv A outer s0 H vs Q E rfl (room.deeper _) gd want
  have I0 : Inv (cxOf (L2.CX P w) P w K mg base N qual (defScope st) f cdv A outer s0 H E) [] (L2.start N vs) H s1 := inv_start S room.hd env count rel ic
  refine ⟨nolim.keeps ic.toInCall.keep, codeAny_func (wpAny_mono (ht.run [] s1 (L2.start N vs) H _ I0 ready) (fun fl s2 hs => ?_) fun e s2 hs => hs)⟩
  cases fl with
  | ret u =>
    obtain ⟨v, σ', H', J, rv, q⟩ := hs
    exact ⟨v, H', J.os, J.bare, J.base, J.hok, rv, q⟩
  | next =>
    obtain ⟨σ', H', J, q⟩ := hs
    exact ⟨V.non, H', J.os, J.bare, J.base, J.hok, rfl, q⟩
  | brk => exact (hs.elim fun _ z => z.elim fun _ z => z.2).elim
  | cont => exact (hs.elim fun _ z => z.elim fun _ z => z.2).elim
theorem fng_of {P : Program} {w : World} {K : PySem.W.Frag} {mg : Str → Option Value} {base : Heap} {k : Nat} {f : Addr} {x qual : Str} {st : Stmt} {fd : FuncData} {N ps : List Str} {sp : Sp}
    (F : Fun K x qual st f fd) (S : FnScope N ps (defScope st)) (len : ∀ vs H Q E, sp vs H Q E → vs.length = ps.length)
    (body : ∀ (cdv : Value) (A : Around) (outer : List Env) (s : Shared) (H : Hp) (vs : List V) (Q : VK) (E : XK), Room k (A.deeper (envOfC qual (defScope st) s.heap.objs.size f cdv)) → A.guards = some [] → sp vs H Q E →
      ∃ t, PSs (cxOf (L2.CX P w) P w K mg base N qual (defScope st) f cdv A outer s H E) (defBody st) t ∧ t { nx := fun _ H' => Q .non H', rt := Q } (L2.start N vs) H) :
    FnG P w K mg base (k + 1) f fd ps sp := fng_ofC F S len fun cdv A outer s H vs Q E _ => body cdv A outer s H vs Q E

/-! ### calls -/
section
variable {X : Cx} {W : WX} {k : Nat} {f : Addr} {fd : FuncData} {ps : List Str} {x : Str} {p pos : Pos} {e : Expr} {es : List Expr} {t : TA} {sp : Sp} {E : St → XK}
theorem run_g {pins : List (Addr × Obj)} {σ : St} {H : Hp} {s : Shared} {Q : VK} {us : List Value} {vs dv : List V} {ds : List Value} (G : FnG X.prog X.w X.K X.mg X.base k f fd ps sp) (hr : Room k X.A) (hg : X.A.guards = some []) (hb : Binds X.K fd ps ds) (hd : Vals dv ds)
    (hx : PassesAt (L2.CX X.prog X.w) X σ (E σ)) (I : Inv X pins σ H s) (r : Vals vs us) (h : sp (vs ++ dv) H Q (E σ)) : wpAny (model X.prog X.w) X.A (call (.ref f) us) (EP X pins σ Q) X.xe s := by
  have rr : Vals (vs ++ dv) (us ++ ds) := r.append hd
  have hl : (us ++ ds).length = ps.length := rr.length.symm.trans (G.len _ _ _ _ h)
  refine wpAny_call (codeAny_mono (G.run X.A X.stack s H ⟨us, []⟩ (us ++ ds) (vs ++ dv) Q (E σ) hr hg I.env0 (hb s us I.kIn hl) rr h) fun z s2 hq => ?_)
  rcases z with er | fl
  · exact hx pins H s er s2 I hq
  · cases fl with
    | ret u => exact I.after hq
    | _ => exact False.elim hq
def tCallD (sp : Sp) (dv : List V) (E : St → XK) (t : TA) : TE := fun σ H Q => t σ H fun vs H1 => sp (vs ++ dv) H1 Q (E σ)
theorem pe_callG {dv : List V} {ds : List Value} (G : FnG X.prog X.w X.K X.mg X.base k f fd ps sp) (hr : Room k X.A) (hg : X.A.guards = some []) (gl : Gl X x) (hm : X.mg x = some (.ref f)) (hk : PySem.W.keepIn X.K (.ref f) = true) (hb : Binds X.K fd ps ds) (hd : Vals dv ds)
    (hx : ∀ σ, PassesAt (L2.CX X.prog X.w) X σ (E σ)) (ha : PA X (e :: es) t) (hdb : (x == ("__debug__" : Str)) = false) (he : starEach (e :: es) X.env = (false, eval e X.env) :: starEach es X.env) (hpl : (backTo pos (starEach es X.env)).any (·.1) = false) :
    PE X (.Call (.Name x p) (e :: es) [] pos) (tCallD sp dv E t) := by
  refine ⟨fun pins s σ H Q I h => wpAny_Call_Name_kw (ld_glob I gl hm ?_ hdb)⟩
  refine PySem.W.callWith_K (h₀ := X.base) I.ok.mod.kin hk (thn (ha.run pos pins s σ H _ I h) fun us s1 hh => ?_) he hpl
  obtain ⟨vs, H1, I1, r, q⟩ := hh
  exact ⟨I1.kIn, run_g G hr hg hb hd (hx σ) I1 r q⟩
theorem pe_callG0 {dv : List V} {ds : List Value} (G : FnG X.prog X.w X.K X.mg X.base k f fd ps sp) (hr : Room k X.A) (hg : X.A.guards = some []) (gl : Gl X x) (hm : X.mg x = some (.ref f)) (hk : PySem.W.keepIn X.K (.ref f) = true) (hb : Binds X.K fd ps ds) (hd : Vals dv ds)
    (hx : ∀ σ, PassesAt (L2.CX X.prog X.w) X σ (E σ)) (hdb : (x == ("__debug__" : Str)) = false) : PE X (.Call (.Name x p) [] [] pos) (tCallD sp dv E tNil) :=
  ⟨fun pins s σ H Q I h => wpAny_Call_Name_kw (ld_glob I gl hm (PySem.W.callWith_K0 I.kIn hk (run_g (us := []) (vs := []) G hr hg hb hd (hx σ) I .nil h)) hdb)⟩
/-- the values by places -/
def permL {β : Type} (pm : List Nat) (l : List β) : List β := pm.filterMap fun i => l[i]?
theorem permL_rel {β γ : Type} {R : β → γ → Prop} {l : List β} {m : List γ} (h : Paired R l m) : ∀ pm : List Nat, Paired R (permL pm l) (permL pm m)
  | [] => .nil
  | i :: pm => by
    have ih := permL_rel h pm
    unfold permL
    rw [List.filterMap_cons, List.filterMap_cons]
    by_cases hi : i < l.length
    · obtain ⟨b, c, h1, h2, hr⟩ := Paired.at_ h hi
      rw [h1, h2]
      exact .cons hr ih
    · rw [List.getElem?_eq_none (by omega), List.getElem?_eq_none (by rw [← h.length]; omega)]
      exact ih
/-- how keywords ks bind: pm puts their values, then the defaults, in the parameters' order -/
def KwBinds (K : PySem.W.Frag) (fd : FuncData) (ps ks : List Str) (pm : List Nat) (ds : List Value) : Prop :=
  ∀ (s : Shared) (ws : List Value), K.In s.heap → (permL pm (ws ++ ds)).length = ps.length → BindsTo s fd ⟨[], ks.zip ws⟩ (ps.zip (permL pm (ws ++ ds)))
theorem run_gk {pins : List (Addr × Obj)} {σ : St} {H : Hp} {s : Shared} {Q : VK} {ws ds : List Value} {zs dv : List V} {ks : List Str} {pm : List Nat} (G : FnG X.prog X.w X.K X.mg X.base k f fd ps sp) (hr : Room k X.A) (hg : X.A.guards = some [])
    (hb : KwBinds X.K fd ps ks pm ds) (hd : Vals dv ds) (hx : PassesAt (L2.CX X.prog X.w) X σ (E σ)) (I : Inv X pins σ H s) (rz : Vals zs ws) (h : sp (permL pm (zs ++ dv)) H Q (E σ)) : wpAny (model X.prog X.w) X.A (call (.ref f) [] (ks.zip ws)) (EP X pins σ Q) X.xe s := by
  have rr : Vals (permL pm (zs ++ dv)) (permL pm (ws ++ ds)) := permL_rel (rz.append hd) pm
  have hl : (permL pm (ws ++ ds)).length = ps.length := rr.length.symm.trans (G.len _ _ _ _ h)
  refine wpAny_call (codeAny_mono (G.run X.A X.stack s H ⟨[], ks.zip ws⟩ (permL pm (ws ++ ds)) (permL pm (zs ++ dv)) Q (E σ) hr hg I.env0 (hb s ws I.kIn hl) rr h) fun z s2 hq => ?_)
  rcases z with er | fl
  · exact hx pins H s er s2 I hq
  · cases fl with
    | ret u => exact I.after hq
    | _ => exact False.elim hq
def tCallKG (sp : Sp) (pm : List Nat) (dv : List V) (E : St → XK) (tk : TA) : TE := fun σ H Q => tk σ H fun zs H2 => sp (permL pm (zs ++ dv)) H2 Q (E σ)
theorem pe_callGK {ks : List Str} {kws : List Keyword} {tk : TA} {pm : List Nat} {dv : List V} {ds : List Value} (G : FnG X.prog X.w X.K X.mg X.base k f fd ps sp) (hr : Room k X.A) (hg : X.A.guards = some []) (gl : Gl X x) (hm : X.mg x = some (.ref f)) (hk : PySem.W.keepIn X.K (.ref f) = true)
    (hb : KwBinds X.K fd ps ks pm ds) (hd : Vals dv ds) (hx : ∀ σ, PassesAt (L2.CX X.prog X.w) X σ (E σ)) (hkw : PK X kws tk) (hall : (backToKw pos (keywordEach kws X.env)).all (·.1.isSome) = true) (hks : (backToKw pos (keywordEach kws X.env)).filterMap (·.1) = ks) (hdb : (x == ("__debug__" : Str)) = false)
    (hpl : ((backTo pos (starEach [] X.env)).any (·.1) || (backToKw pos (keywordEach kws X.env)).any (·.1.isNone)) = false) : PE X (.Call (.Name x p) [] kws pos) (tCallKG sp pm dv E tk) := by
  refine ⟨fun pins s σ H Q I h => wpAny_Call_Name_kw (ld_glob I gl hm ?_ hdb)⟩
  refine PySem.W.callWith_KW0 (h₀ := X.base) I.ok.mod.kin hk hall (thn (hkw.run pos pins s σ H _ I h) fun ws s2 hh => ?_) hpl
  obtain ⟨zs, H2, I2, rz, q2⟩ := hh
  rw [hks]
  exact ⟨I2.kIn, run_gk G hr hg hb hd (hx σ) I2 rz q2⟩
end

/-- the promise by a semantic function -/
def arity (n : Nat) (g : List Wv → Mu → Out Wv) : List Wv → Mu → Out Wv := fun ws μ => if ws.length = n then g ws μ else .bad
def spG (K : PySem.W.Frag) (mg : Str → Option Value) (n : Nat) (g : List Wv → Mu → Out Wv) : Sp := fun vs H Q E => ∃ ws μ α F, Rep K α F μ H ∧ Rws K α F vs ws ∧ gp K mg α F H (arity n g ws μ) (Gw K Q) E
theorem spG.len {K : PySem.W.Frag} {mg : Str → Option Value} {n : Nat} {g : List Wv → Mu → Out Wv} {vs : List V} {H : Hp} {Q : VK} {E : XK} (h : spG K mg n g vs H Q E) : vs.length = n := by
  obtain ⟨ws, μ, α, F, r, rv, q⟩ := h
  unfold arity at q
  split at q
  · rename_i e
    rw [rv.length, e]
  · exact q.elim
section
variable {X : Cx} {W : WX} {k n : Nat} {f : Addr} {fd : FuncData} {ps : List Str} {x : Str} {p pos : Pos} {e : Expr} {es : List Expr} {as : Av} {g : List Wv → Mu → Out Wv}
/-- a call f(e, ..), the defaults ws0 behind -/
theorem se_call {dv : List V} {ds : List Value} {ws0 : List Wv} (G : FnG X.prog X.w X.K X.mg X.base k f fd ps (spG X.K X.mg n g)) (hr : Room k X.A) (hg : X.A.guards = some []) (gl : Gl X x) (hm : X.mg x = some (.ref f)) (hk : PySem.W.keepIn X.K (.ref f) = true) (hb : Binds X.K fd ps ds) (hd : Vals dv ds)
    (hw : ∀ α F, Rws X.K α F dv ws0) (tk : Takes X W) (ha : SA X W (e :: es) as) (hdb : (x == ("__debug__" : Str)) = false) (he : starEach (e :: es) X.env = (false, eval e X.env) :: starEach es X.env) (hpl : (backTo pos (starEach es X.env)).any (·.1) = false) :
    SE X W (.Call (.Name x p) (e :: es) [] pos) (eCall (fun ws μ => arity n g (ws ++ ws0) μ) as) := by
  refine (pe_callG (E := WE W) G hr hg gl hm hk hb hd (fun σ => passAt tk σ) ha hdb he hpl).imp fun σ H Q ⟨ρ, μ, α, F, r, re, q⟩ => ?_
  refine ⟨ρ, μ, α, F, r, re, q.bind.mono fun ws μ1 α1 F1 H1 x1 r1 q1 vs rv => ?_⟩
  exact ⟨ws ++ ws0, μ1, α1, F1, r1, Paired.app rv (hw _ _), q1⟩
theorem se_call0 {dv : List V} {ds : List Value} {ws0 : List Wv} (G : FnG X.prog X.w X.K X.mg X.base k f fd ps (spG X.K X.mg n g)) (hr : Room k X.A) (hg : X.A.guards = some []) (gl : Gl X x) (hm : X.mg x = some (.ref f)) (hk : PySem.W.keepIn X.K (.ref f) = true) (hb : Binds X.K fd ps ds) (hd : Vals dv ds)
    (hw : ∀ α F, Rws X.K α F dv ws0) (tk : Takes X W) (hdb : (x == ("__debug__" : Str)) = false) : SE X W (.Call (.Name x p) [] [] pos) (eCall (fun ws μ => arity n g (ws ++ ws0) μ) aNil) := by
  refine (pe_callG0 (E := WE W) G hr hg gl hm hk hb hd (fun σ => passAt tk σ) hdb).imp fun σ H Q ⟨ρ, μ, α, F, r, re, q⟩ => ?_
  exact ⟨ws0, μ, α, F, r, hw _ _, q⟩
theorem _root_.L2.PK.imp {kws : List Keyword} {t t' : TA} (h : PK X kws t) (i : ∀ σ H Q, t' σ H Q → t σ H Q) : PK X kws t' := ⟨fun pos pins s σ H Q I q => h.run pos pins s σ H Q I (i _ _ _ q)⟩
abbrev SK (X : Cx) (W : WX) (kws : List Keyword) (f : Av) : Prop := PK X kws (tA X.K X.mg W f)
theorem sk_nil : SK X W [] aNil := pk_nil.imp fun σ H Q ⟨_, _, _, _, r, _, q⟩ => q.now r [] .nil
theorem sk_cons {nm : Option Str} {kpos : Pos} {kws : List Keyword} {a : Ev} (ha : SE X W e a) (hr : SK X W kws as) : SK X W (⟨nm, e, kpos⟩ :: kws) (aCons a as) := by
  refine (pk_cons ha hr).imp fun σ H Q ⟨ρ, μ, α, F, r, re, q⟩ => ?_
  refine ⟨ρ, μ, α, F, r, re, q.bind.mono fun w μ1 α1 F1 H1 x1 r1 q1 v rv => ?_⟩
  refine ⟨ρ, μ1, α1, F1, r1, re.ext x1, q1.bind.mono fun ws μ2 α2 F2 H2 x2 r2 q2 vs rvs => ?_⟩
  exact q2.now r2 (v :: vs) (.cons (rv.ext x2) rvs)
/-- f(k = e, ..) -/
theorem se_callK {ks : List Str} {kws : List Keyword} {pm : List Nat} {dv : List V} {ds : List Value} {ws0 : List Wv} (G : FnG X.prog X.w X.K X.mg X.base k f fd ps (spG X.K X.mg n g)) (hr : Room k X.A) (hg : X.A.guards = some []) (gl : Gl X x) (hm : X.mg x = some (.ref f)) (hk : PySem.W.keepIn X.K (.ref f) = true)
    (hb : KwBinds X.K fd ps ks pm ds) (hd : Vals dv ds) (hw : ∀ α F, Rws X.K α F dv ws0) (tk : Takes X W) (ha : SK X W kws as) (hall : (backToKw pos (keywordEach kws X.env)).all (·.1.isSome) = true) (hks : (backToKw pos (keywordEach kws X.env)).filterMap (·.1) = ks) (hdb : (x == ("__debug__" : Str)) = false)
    (hpl : ((backTo pos (starEach [] X.env)).any (·.1) || (backToKw pos (keywordEach kws X.env)).any (·.1.isNone)) = false) :
    SE X W (.Call (.Name x p) [] kws pos) (eCall (fun ws μ => arity n g (permL pm (ws ++ ws0)) μ) as) := by
  refine (pe_callGK (E := WE W) G hr hg gl hm hk hb hd (fun σ => passAt tk σ) ha hall hks hdb hpl).imp fun σ H Q ⟨ρ, μ, α, F, r, re, q⟩ => ?_
  refine ⟨ρ, μ, α, F, r, re, q.bind.mono fun ws μ1 α1 F1 H1 x1 r1 q1 vs rv => ?_⟩
  exact ⟨permL pm (ws ++ ws0), μ1, α1, F1, r1, permL_rel (Paired.app rv (hw _ _)) pm, q1⟩
end

/-! ### a def's semantic function -/
/-- behind the body: the def's own cells forgotten -/
def leave (n : Nat) (w : Wv) (μ : Mu) : Out Wv :=
  match w with
  | .d x => .ok (.d x) (μ.take n)
  | .r k => if k < n then .ok (.r k) (μ.take n) else match μ[k]? with
    | some (some c) => .ok (.r n) (μ.take n ++ [some c])
    | _ => .bad
  | .t _ => .bad
  | .o _ => .bad
  | .x m C o => .ok (.x m C o) (μ.take n)
def initR (n : Nat) (ws : List Wv) : Rho := ws.map some ++ List.replicate (n - ws.length) none
def runD (n : Nat) (body : Sv) (ws : List Wv) (μ : Mu) : Out Wv :=
  match body (initR n ws) μ with
  | .ok (.rt w) μ' => leave μ.length w μ'
  | .ok (.nx _) μ' => leave μ.length (.d .none) μ'
  | .ok (.er x us _) μ' => match allD us with
    | some c => .err x (c.map Wv.d) (μ'.take μ.length)
    | none => .bad
  | _ => .bad
theorem allD_map : ∀ {us : List Wv} {c : Cell}, allD us = some c → us = c.map Wv.d
  | [], c, h => by
    cases h
    rfl
  | .d x :: r, c, h => by
    unfold allD at h
    obtain ⟨c', e, rfl⟩ := Option.map_eq_some_iff.mp h
    rw [allD_map e]
    rfl
  | .r k :: _, c, h => by cases h
  | .t _ :: _, c, h => by cases h
  | .o _ :: _, c, h => by cases h
  | .x _ _ _ :: _, c, h => by cases h
theorem Rws.data {K : PySem.W.Frag} {α α' : List Addr} {F : Hp} : ∀ {vs : List V} {c : Cell}, Rws K α F vs (c.map Wv.d) → Rws K α' F vs (c.map Wv.d)
  | [], [], _ => .nil
  | [], _ :: _, h => by cases h
  | _ :: _, [], h => by cases h
  | v :: vs, d :: c, h => by
    cases h with
    | cons r t => exact .cons (show Dq K F v d from r) (Rws.data t)
theorem gp_leave {K : PySem.W.Frag} {mg : Str → Option Value} {α α' : List Addr} {F F' H H' : Hp} {μ μ' : Mu} {w : Wv} {v : V} {Q : VK} {E : XK} (h : gp K mg α F H (leave μ.length w μ') (Gw K Q) E) (r0 : Rep K α F μ H) (e : Ext α F H α' F' H') (r : Rep K α' F' μ' H') (rv : Rw K α' F' v w) : Q v H' := by
  unfold leave at h
  cases w with
  | d x =>
    obtain ⟨r2, e2⟩ := r.drop e r0.len r0.len0
    exact h.at e2 r2 v rv
  | t ds => exact h.elim
  | o _ => exact h.elim
  | x m C o =>
    obtain ⟨r2, e2⟩ := r.drop e r0.len r0.len0
    exact h.at e2 r2 v rv
  | r k =>
    have h : gp K mg α F H (if k < μ.length then .ok (.r k) (μ'.take μ.length) else match μ'[k]? with
      | some (some c) => .ok (.r μ.length) (μ'.take μ.length ++ [some c])
      | _ => .bad) (Gw K Q) E := h
    split at h
    · rename_i hk
      obtain ⟨r2, e2⟩ := r.drop e r0.len r0.len0
      obtain ⟨a, h1, rfl, hL⟩ := rv
      obtain ⟨β, rfl⟩ := e.pre
      rw [List.getElem?_append_left (by rw [← r0.len]; exact hk)] at h1
      exact h.at e2 r2 _ ⟨a, h1, rfl, hL⟩
    · rename_i hk
      split at h
      · rename_i c hc
        obtain ⟨a, g1, r2, e2⟩ := r.drop1 e r0.len r0.len0 (Nat.le_of_not_lt hk) hc
        obtain ⟨b, h1, rfl, _⟩ := rv
        rw [g1] at h1
        cases h1
        refine h.at e2 r2 _ ⟨a, ?_, rfl, isL_of (by rw [r0.len]; exact r0.len0)⟩
        rw [r0.len, List.getElem?_append_right (Nat.le_refl _), Nat.sub_self]
        rfl
      · exact h.elim
theorem repE_start {K : PySem.W.Frag} {α : List Addr} {F : Hp} {N : List Str} {vs : List V} {ws : List Wv} (h : Rws K α F vs ws) : RepE K α F (initR N.length ws) (L2.start N vs) := by
  refine ⟨?_, fun i w q => ?_⟩
  · unfold initR L2.start
    rw [List.length_append, List.length_append, List.length_map, List.length_map, List.length_replicate, List.length_replicate, h.length]
  · unfold initR at q
    by_cases hi : i < ws.length
    · rw [List.getElem?_append_left (by rw [List.length_map]; exact hi), List.getElem?_map] at q
      have hl : i < vs.length := by rw [h.length]; exact hi
      obtain ⟨v, w', h1, h2, hr⟩ := Paired.at_ h hl
      rw [h2] at q
      cases q
      refine ⟨v, ?_, hr⟩
      unfold L2.start
      rw [List.getElem?_append_left (by rw [List.length_map]; exact hl), List.getElem?_map, h1]
      rfl
    · rw [List.getElem?_append_right (by rw [List.length_map]; omega), List.getElem?_replicate] at q
      split at q <;> cases q
/-- THE RULE for a def: its body is sound for b -/
theorem fng_semC {P : Program} {w : World} {K : PySem.W.Frag} {mg : Str → Option Value} {base : Heap} {k : Nat} {f : Addr} {x qual : Str} {st : Stmt} {fd : FuncData} {N ps : List Str} {b : Sv}
    (F : Fun K x qual st f fd) (S : FnScope N ps (defScope st))
    (body : ∀ (cdv : Value) (A : Around) (outer : List Env) (s : Shared) (H : Hp) (E : XK), fd.code = cdv → Room k (A.deeper (envOfC qual (defScope st) s.heap.objs.size f cdv)) → A.guards = some [] →
      SSs (cxOf (L2.CX P w) P w K mg base N qual (defScope st) f cdv A outer s H E) (fun cls d _ H => E cls d H) (defBody st) b) :
    FnG P w K mg base (k + 1) f fd ps (spG K mg ps.length (runD N.length b)) := by
  refine fng_ofC F S (fun vs H Q E h => h.len) fun cdv A outer s H vs Q E hcd hr hg h => ⟨_, body cdv A outer s H E hcd hr hg, ?_⟩
  obtain ⟨ws, μ, α, F0, r, rv, q⟩ := h
  refine ⟨initR N.length ws, μ, α, F0, r, repE_start rv, ?_⟩
  unfold arity at q
  split at q
  · unfold runD at q
    show gp K mg α F0 H (b (initR N.length ws) μ) (GS K mg _ _) _
    cases z : b (initR N.length ws) μ with
    | bad =>
      rw [z] at q
      exact q
    | err x us μ' =>
      rw [z] at q
      exact q.elim
    | ok fl μ' =>
      rw [z] at q
      intro α' F' H' e r'
      cases fl with
      | rt w1 => exact fun v hv => gp_leave q r e r' hv
      | nx ρ' => exact fun σ' _ => gp_leave (w := .d .none) q r e r' .non
      | bk ρ' => exact q.elim
      | ct ρ' => exact q.elim
      | er y us ρ' =>
        intro σ' C d fs _ h1 h2 h2n h3
        have q : gp K mg α F0 H (match allD us with
          | some c => .err y (c.map Wv.d) (μ'.take μ.length)
          | none => .bad) (Gw K Q) E := q
        cases hc : allD us with
        | none =>
          rw [hc] at q
          exact q.elim
        | some c =>
          rw [hc] at q
          obtain ⟨r2, e2⟩ := r'.drop e r.len r.len0
          rw [allD_map hc] at h3
          exact q α F' H' C d fs e2 r2 h1 h2 h2n h3.data
  · exact q.elim
theorem fng_sem {P : Program} {w : World} {K : PySem.W.Frag} {mg : Str → Option Value} {base : Heap} {k : Nat} {f : Addr} {x qual : Str} {st : Stmt} {fd : FuncData} {N ps : List Str} {b : Sv}
    (F : Fun K x qual st f fd) (S : FnScope N ps (defScope st))
    (body : ∀ (cdv : Value) (A : Around) (outer : List Env) (s : Shared) (H : Hp) (E : XK), Room k (A.deeper (envOfC qual (defScope st) s.heap.objs.size f cdv)) → A.guards = some [] →
      SSs (cxOf (L2.CX P w) P w K mg base N qual (defScope st) f cdv A outer s H E) (fun cls d _ H => E cls d H) (defBody st) b) :
    FnG P w K mg base (k + 1) f fd ps (spG K mg ps.length (runD N.length b)) := fng_semC F S fun cdv A outer s H E _ => body cdv A outer s H E
end TL
/-! TL6: built-in functions and subscripts by data. -/
namespace TL
variable [TabN]
open PySem PySem.Spec L2

def intsOf : List PyData → Option (List Int)
  | [] => some []
  | .int i :: r => (intsOf r).map (i :: ·)
  | _ => none
def boolsOf : List PyData → Option (List Bool)
  | [] => some []
  | .bool i :: r => (boolsOf r).map (i :: ·)
  | _ => none
theorem intsOf_map : ∀ {xs : List PyData} {ns : List Int}, intsOf xs = some ns → xs = ns.map PyData.int
  | [], ns, h => by
    cases h
    rfl
  | .int i :: r, ns, h => by
    unfold intsOf at h
    obtain ⟨ms, e, rfl⟩ := Option.map_eq_some_iff.mp h
    rw [intsOf_map e]
    rfl
  | .none :: _, ns, h | .bool _ :: _, ns, h | .str _ :: _, ns, h | .list _ :: _, ns, h | .tuple _ :: _, ns, h | .dict _ :: _, ns, h => by cases h
theorem boolsOf_map : ∀ {xs : List PyData} {ns : List Bool}, boolsOf xs = some ns → xs = ns.map PyData.bool
  | [], ns, h => by
    cases h
    rfl
  | .bool i :: r, ns, h => by
    unfold boolsOf at h
    obtain ⟨ms, e, rfl⟩ := Option.map_eq_some_iff.mp h
    rw [boolsOf_map e]
    rfl
  | .none :: _, ns, h | .int _ :: _, ns, h | .str _ :: _, ns, h | .list _ :: _, ns, h | .tuple _ :: _, ns, h | .dict _ :: _, ns, h => by cases h
theorem intsOf_ints : ∀ ns : List Int, intsOf (ns.map PyData.int) = some ns
  | [] => rfl
  | n :: ns => by
    show (intsOf (ns.map PyData.int)).map (n :: ·) = _
    rw [intsOf_ints ns]
    rfl
theorem boolsOf_bools : ∀ ns : List Bool, boolsOf (ns.map PyData.bool) = some ns
  | [] => rfl
  | n :: ns => by
    show (boolsOf (ns.map PyData.bool)).map (n :: ·) = _
    rw [boolsOf_bools ns]
    rfl
/-- the greatest, the least -/
def maxI : Int → List Int → Int
  | m, [] => m
  | m, x :: r => maxI (if x > m then x else m) r
def minI : Int → List Int → Int
  | m, [] => m
  | m, x :: r => minI (if x < m then x else m) r
theorem maxI_spec : ∀ (r : List Int) (m : Int), maxI m r ∈ m :: r ∧ ∀ y ∈ m :: r, y ≤ maxI m r
  | [], m => ⟨List.mem_cons_self, fun y h => by
      simp at h
      subst h
      exact Int.le_refl _⟩
  | x :: r, m => by
    obtain ⟨h1, h2⟩ := maxI_spec r (if x > m then x else m)
    show maxI (if x > m then x else m) r ∈ _ ∧ ∀ y ∈ _, y ≤ maxI (if x > m then x else m) r
    have h3 := h2 _ List.mem_cons_self
    refine ⟨?_, fun y hy => ?_⟩
    · rcases List.mem_cons.mp h1 with e | e
      · rw [e]
        split <;> simp
      · exact List.mem_cons_of_mem _ (List.mem_cons_of_mem _ e)
    · rcases List.mem_cons.mp hy with rfl | hy
      · exact Int.le_trans (by split <;> omega) h3
      · rcases List.mem_cons.mp hy with rfl | hy
        · exact Int.le_trans (by split <;> omega) h3
        · exact h2 y (List.mem_cons_of_mem _ hy)
theorem minI_spec : ∀ (r : List Int) (m : Int), minI m r ∈ m :: r ∧ ∀ y ∈ m :: r, minI m r ≤ y
  | [], m => ⟨List.mem_cons_self, fun y h => by
      simp at h
      subst h
      exact Int.le_refl _⟩
  | x :: r, m => by
    obtain ⟨h1, h2⟩ := minI_spec r (if x < m then x else m)
    show minI (if x < m then x else m) r ∈ _ ∧ ∀ y ∈ _, minI (if x < m then x else m) r ≤ y
    have h3 := h2 _ List.mem_cons_self
    refine ⟨?_, fun y hy => ?_⟩
    · rcases List.mem_cons.mp h1 with e | e
      · rw [e]
        split <;> simp
      · exact List.mem_cons_of_mem _ (List.mem_cons_of_mem _ e)
    · rcases List.mem_cons.mp hy with rfl | hy
      · exact Int.le_trans h3 (by split <;> omega)
      · rcases List.mem_cons.mp hy with rfl | hy
        · exact Int.le_trans h3 (by split <;> omega)
        · exact h2 y (List.mem_cons_of_mem _ hy)

/-! ### what they compute -/
def gLen : List Wv → Mu → Out Wv
  | [w], μ => match dataOf μ w with
    | some (.tuple xs) => .ok (wI xs.length) μ
    | some (.list xs) => .ok (wI xs.length) μ
    | some (.str x) => if x.length ≤ 16777216 then .ok (wI x.length) μ else .bad
    | _ => .bad
  | _, _ => .bad
def gAbs : List Wv → Mu → Out Wv
  | [.d (.int i)], μ => .ok (wI (if i < 0 then -i else i)) μ
  | _, _ => .bad
def gMax : List Wv → Mu → Out Wv
  | [.d (.int i), .d (.int j)], μ => .ok (wI (if j > i then j else i)) μ
  | [w], μ => match dataOf μ w with
    | some (.list xs) => match intsOf xs with
      | some (m :: r) => .ok (wI (maxI m r)) μ
      | _ => .bad
    | _ => .bad
  | _, _ => .bad
def gMin : List Wv → Mu → Out Wv
  | [.d (.int i), .d (.int j)], μ => .ok (wI (if j < i then j else i)) μ
  | [w], μ => match dataOf μ w with
    | some (.list xs) => match intsOf xs with
      | some (m :: r) => .ok (wI (minI m r)) μ
      | _ => .bad
    | _ => .bad
  | _, _ => .bad
def gInt : List Wv → Mu → Out Wv
  | [w], μ => match numOf w with
    | some i => .ok (wI i) μ
    | none => .bad
  | _, _ => .bad
def gStr : List Wv → Mu → Out Wv
  | [.d (.int i)], μ => if i.natAbs.log2 < 1920 then .ok (wS (toString i)) μ else .bad
  | [.d (.str x)], μ => .ok (wS x) μ
  | _, _ => .bad
def gSum : List Wv → Mu → Out Wv
  | [w], μ => match dataOf μ w with
    | some (.list xs) => match intsOf xs with
      | some ns => .ok (wI ns.sum) μ
      | none => .bad
    | _ => .bad
  | _, _ => .bad
def gAll : List Wv → Mu → Out Wv
  | [w], μ => match dataOf μ w with
    | some (.list xs) => match boolsOf xs with
      | some bs => .ok (wBl (bs.all id)) μ
      | none => .bad
    | _ => .bad
  | _, _ => .bad
def gAny : List Wv → Mu → Out Wv
  | [w], μ => match dataOf μ w with
    | some (.list xs) => match boolsOf xs with
      | some bs => .ok (wBl (bs.any id)) μ
      | none => .bad
    | _ => .bad
  | _, _ => .bad
def gTuple : List Wv → Mu → Out Wv
  | [w], μ => match dataOf μ w with
    | some (.list xs) => .ok (wT xs) μ
    | some (.tuple xs) => .ok (wT xs) μ
    | _ => .bad
  | _, _ => .bad
def gDivmod : List Wv → Mu → Out Wv
  | [.d (.int i), .d (.int j)], μ => if 0 < j ∧ Builtin.divisionGoesByPylong i j = false then .ok (wT [.int (i / j), .int (i % j)]) μ else .bad
  | _, _ => .bad
def gGcd : List Wv → Mu → Out Wv
  | [.d (.int i), .d (.int j)], μ => .ok (wI ((Nat.gcd i.natAbs j.natAbs : Nat) : Int)) μ
  | _, _ => .bad
def reprOk (x : PyData) : Bool := x.showable && decide (x.shown.length ≤ 16777216) && decide (x.depth ≤ 60) && !x.hasDict
def gRepr : List Wv → Mu → Out Wv
  | [w], μ => match dataOf μ w with
    | some x => if reprOk x = true then .ok (wS x.shown) μ else .bad
    | none => .bad
  | _, _ => .bad
/-- the list that list(x) makes -/
def gList : List Wv → Mu → Out Cell
  | [w], μ => match dataOf μ w with
    | some (.list xs) => .ok xs μ
    | some (.tuple xs) => .ok xs μ
    | _ => .bad
  | _, _ => .bad

section
variable {X : Cx} {K : PySem.W.Frag} {α : List Addr} {F H : Hp} {μ : Mu} {mg : Str → Option Value}
theorem rws1 {xs : List V} {w : Wv} (h : Rws K α F xs [w]) : ∃ v, xs = [v] ∧ Rw K α F v w := by
  cases h with
  | cons r t =>
    cases t
    exact ⟨_, rfl, r⟩
theorem rws2 {xs : List V} {w u : Wv} (h : Rws K α F xs [w, u]) : ∃ v v', xs = [v, v'] ∧ Rw K α F v w ∧ Rw K α F v' u := by
  cases h with
  | cons r t =>
    obtain ⟨v', rfl, r'⟩ := rws1 t
    exact ⟨_, _, rfl, r, r'⟩
/-- one argument, its data known -/
theorem data1 {xs : List V} {w : Wv} {x : PyData} (r : Rep K α F μ H) (h : Rws K α F xs [w]) (e : dataOf μ w = some x) : ∃ v, xs = [v] ∧ Dq K H v x := by
  obtain ⟨v, rfl, q⟩ := rws1 h
  exact ⟨v, rfl, data_ok r e q⟩
theorem cr_gLen : CallR X (.builtin "len") (rnG X.K X.mg gLen) := by
  intro pins s σ H xs us Q I ru ⟨μ, α, F, ws, r, h, q⟩
  unfold gLen at q
  split at q
  · split at q
    · rename_i e
      obtain ⟨v, rfl, d⟩ := data1 r h e
      cases d with
      | tup hs ha => exact call_len_seq pins s σ H _ us Q I ru ⟨_, _, rfl, .inr hs, by rw [ha.length]; exact q.now r _ (.int _)⟩
    · rename_i e
      obtain ⟨v, rfl, d⟩ := data1 r h e
      cases d with
      | lst hs ha => exact call_len_seq pins s σ H _ us Q I ru ⟨_, _, rfl, .inl hs.sq, by rw [ha.length]; exact q.now r _ (.int _)⟩
    · rename_i e
      obtain ⟨v, rfl, d⟩ := data1 r h e
      split at q
      · rename_i hl
        cases d
        exact call_len_str pins s σ H _ us Q I ru ⟨_, rfl, le_line hl, q.now r _ (.int _)⟩
      · exact q.elim
    · exact q.elim
  · exact q.elim
theorem cr_gAbs : CallR X (.builtin "abs") (rnG X.K X.mg gAbs) := by
  intro pins s σ H xs us Q I ru ⟨μ, α, F, ws, r, h, q⟩
  unfold gAbs at q
  split at q
  · obtain ⟨v, rfl, d⟩ := rws1 h
    cases d
    exact call_abs pins s σ H _ us Q I ru ⟨_, rfl, q.now r _ (.int _)⟩
  · exact q.elim
theorem cr_gMax (hc : X.calm = true) : CallR X (.builtin "max") (rnG X.K X.mg gMax) := by
  intro pins s σ H xs us Q I ru ⟨μ, α, F, ws, r, h, q⟩
  unfold gMax at q
  split at q
  · obtain ⟨v, v', rfl, d, d'⟩ := rws2 h
    cases d
    cases d'
    exact call_max2 hc pins s σ H _ us Q I ru ⟨_, _, rfl, q.now r _ (.int _)⟩
  · split at q
    · rename_i e
      obtain ⟨v, rfl, d⟩ := data1 r h e
      split at q
      · rename_i m rest e2
        cases d with
        | lst hs ha =>
          have e3 := intsOf_map e2
          rw [e3] at ha
          have e4 := ha.ints
          subst e4
          obtain ⟨m1, m2⟩ := maxI_spec rest m
          refine cr_max hc pins s σ H _ us Q I ru ⟨_, m :: rest, rfl, hs.sq, Nat.succ_pos _, fun z hz hmax => ?_⟩
          have ez : z = maxI m rest := Int.le_antisymm (m2 z hz) (hmax _ m1)
          rw [ez]
          exact q.now r _ (.int _)
      · exact q.elim
    · exact q.elim
  · exact q.elim
theorem cr_gMin (hc : X.calm = true) : CallR X (.builtin "min") (rnG X.K X.mg gMin) := by
  intro pins s σ H xs us Q I ru ⟨μ, α, F, ws, r, h, q⟩
  unfold gMin at q
  split at q
  · obtain ⟨v, v', rfl, d, d'⟩ := rws2 h
    cases d
    cases d'
    exact call_min2 hc pins s σ H _ us Q I ru ⟨_, _, rfl, q.now r _ (.int _)⟩
  · split at q
    · rename_i e
      obtain ⟨v, rfl, d⟩ := data1 r h e
      split at q
      · rename_i m rest e2
        cases d with
        | lst hs ha =>
          have e3 := intsOf_map e2
          rw [e3] at ha
          have e4 := ha.ints
          subst e4
          obtain ⟨m1, m2⟩ := minI_spec rest m
          refine cr_min hc pins s σ H _ us Q I ru ⟨_, m :: rest, rfl, hs.sq, Nat.succ_pos _, fun z hz hmin => ?_⟩
          have ez : z = minI m rest := Int.le_antisymm (hmin _ m1) (m2 z hz)
          rw [ez]
          exact q.now r _ (.int _)
      · exact q.elim
    · exact q.elim
  · exact q.elim
theorem cr_gInt : CallR X (.type "int") (rnG X.K X.mg gInt) := by
  intro pins s σ H xs us Q I ru ⟨μ, α, F, ws, r, h, q⟩
  unfold gInt at q
  split at q
  · split at q
    · rename_i e
      obtain ⟨v, rfl, d⟩ := rws1 h
      rcases num_ok e d with rfl | ⟨b, rfl, rfl⟩
      · exact call_int1 pins s σ H _ us Q I ru (.inl ⟨_, rfl, q.now r _ (.int _)⟩)
      · refine call_int1 pins s σ H _ us Q I ru (.inr ⟨b, rfl, ?_⟩)
        exact q.now r _ (.int _)
    · exact q.elim
  · exact q.elim
theorem cr_gStr : CallR X (.type "str") (rnG X.K X.mg gStr) := by
  intro pins s σ H xs us Q I ru ⟨μ, α, F, ws, r, h, q⟩
  unfold gStr at q
  split at q
  · split at q
    · rename_i hl
      obtain ⟨v, rfl, d⟩ := rws1 h
      cases d
      exact call_str_int pins s σ H _ us Q I ru ⟨_, rfl, hl, q.now r _ (.str _)⟩
    · exact q.elim
  · obtain ⟨v, rfl, d⟩ := rws1 h
    cases d
    exact SkE.call_str_str pins s σ H _ us Q I ru ⟨_, rfl, q.now r _ (.str _)⟩
  · exact q.elim
theorem cr_gSum (hc : X.calm = true) : CallR X (.builtin "sum") (rnG X.K X.mg gSum) := by
  intro pins s σ H xs us Q I ru ⟨μ, α, F, ws, r, h, q⟩
  unfold gSum at q
  split at q
  · split at q
    · rename_i e
      obtain ⟨v, rfl, d⟩ := data1 r h e
      split at q
      · rename_i ns e2
        cases d with
        | lst hs ha =>
          have e3 := intsOf_map e2
          rw [e3] at ha
          have e4 := ha.ints
          subst e4
          exact cr_sum hc pins s σ H _ us Q I ru ⟨_, ns, rfl, hs.sq, q.now r _ (.int _)⟩
      · exact q.elim
    · exact q.elim
  · exact q.elim
theorem cr_gAll (hc : X.calm = true) : CallR X (.builtin "all") (rnG X.K X.mg gAll) := by
  intro pins s σ H xs us Q I ru ⟨μ, α, F, ws, r, h, q⟩
  unfold gAll at q
  split at q
  · split at q
    · rename_i e
      obtain ⟨v, rfl, d⟩ := data1 r h e
      split at q
      · rename_i ns e2
        cases d with
        | lst hs ha =>
          have e3 := boolsOf_map e2
          rw [e3] at ha
          have e4 := ha.bools
          subst e4
          exact cr_all hc pins s σ H _ us Q I ru ⟨_, ns, rfl, hs.sq, q.now r _ (.bl _)⟩
      · exact q.elim
    · exact q.elim
  · exact q.elim
theorem cr_gAny (hc : X.calm = true) : CallR X (.builtin "any") (rnG X.K X.mg gAny) := by
  intro pins s σ H xs us Q I ru ⟨μ, α, F, ws, r, h, q⟩
  unfold gAny at q
  split at q
  · split at q
    · rename_i e
      obtain ⟨v, rfl, d⟩ := data1 r h e
      split at q
      · rename_i ns e2
        cases d with
        | lst hs ha =>
          have e3 := boolsOf_map e2
          rw [e3] at ha
          have e4 := ha.bools
          subst e4
          exact cr_any hc pins s σ H _ us Q I ru ⟨_, ns, rfl, hs.sq, q.now r _ (.bl _)⟩
      · exact q.elim
    · exact q.elim
  · exact q.elim
theorem cr_gTuple : CallR X (.type "tuple") (rnG X.K X.mg gTuple) := by
  intro pins s σ H xs us Q I ru ⟨μ, α, F, ws, r, h, q⟩
  unfold gTuple at q
  split at q
  · rename_i w
    split at q
    · rename_i zs e
      obtain ⟨v, rfl, q0⟩ := rws1 h
      -- the items are frozen data, wherever the list stands
      obtain ⟨a, vs, rfl, hs, ha⟩ : ∃ a vs, v = .ref a ∧ SqL X.K H a vs ∧ DqAll X.K F vs zs := by
        cases w with
        | d y =>
          cases e
          cases q0 with
          | lst hs ha => exact ⟨_, _, rfl, (sameL r.sub hs).sq, ha⟩
        | t ds => cases e
        | o _ => cases e
        | x _ _ _ => cases e
        | r k =>
          have e : (μ[k]?.join).map PyData.list = some (.list zs) := e
          obtain ⟨c, e1, e2⟩ := Option.map_eq_some_iff.mp e
          cases e2
          have e' : μ[k]? = some (some zs) := by
            cases z : μ[k]? with
            | none =>
              rw [z] at e1
              cases e1
            | some o =>
              rw [z] at e1
              have e3 : o = some zs := e1
              rw [e3]
          obtain ⟨b, g1, rfl, hL⟩ := q0
          obtain ⟨a, vs, h1, h2, h3, h4⟩ := r.lcell hL e'
          rw [h1] at g1
          cases g1
          exact ⟨_, vs, rfl, .of h2, h4⟩
      refine call_tuple_of pins s σ H _ us Q I ru ⟨a, vs, rfl, .inl ⟨hs, fun p hp => ?_⟩⟩
      obtain ⟨r2, x2⟩ := r.new (o := .tup vs) hp
      exact q.at x2 r2 _ (.tup (.of upd_same) (ha.mono x2.fro))
    · rename_i zs e
      obtain ⟨v, rfl, q0⟩ := rws1 h
      cases w with
      | d y =>
        cases e
        cases q0 with
        | tup hs ha => exact call_tuple_of pins s σ H _ us Q I ru ⟨_, _, rfl, .inr ⟨sameT r.sub hs, q.now r _ (.tup hs ha)⟩⟩
      | t ds => cases e
      | o _ => cases e
      | x _ _ _ => cases e
      | r k =>
        have e : (μ[k]?.join).map PyData.list = some (.tuple zs) := e
        obtain ⟨c, e1, e2⟩ := Option.map_eq_some_iff.mp e
        cases e2
    · exact q.elim
  · exact q.elim
theorem cr_gDivmod : CallR X (.builtin "divmod") (rnG X.K X.mg gDivmod) := by
  intro pins s σ H xs us Q I ru ⟨μ, α, F, ws, r, h, q⟩
  unfold gDivmod at q
  split at q
  · split at q
    · rename_i i j hj
      obtain ⟨v, v', rfl, d, d'⟩ := rws2 h
      cases d
      cases d'
      refine call_divmodW pins s σ H _ us Q I ru ⟨_, _, rfl, hj, fun p hp => ?_⟩
      obtain ⟨r2, x2⟩ := r.new (o := .tup [.int (i / j), .int (i % j)]) hp
      exact q.at x2 r2 _ (.tup (.of upd_same) (.cons (.int _) (.cons (.int _) .nil)))
    · exact q.elim
  · exact q.elim
theorem cr_gGcd : CallR X (.builtin "math.gcd") (rnG X.K X.mg gGcd) := by
  intro pins s σ H xs us Q I ru ⟨μ, α, F, ws, r, h, q⟩
  unfold gGcd at q
  split at q
  · obtain ⟨v, v', rfl, d, d'⟩ := rws2 h
    cases d
    cases d'
    exact cr_gcd pins s σ H _ us Q I ru ⟨_, _, rfl, q.now r _ (.int _)⟩
  · exact q.elim
theorem cr_gRepr (hg : X.A.guards = some []) (hu : X.A.units + 64 < cLine) : CallR X (.builtin "repr") (rnG X.K X.mg gRepr) := by
  intro pins s σ H xs us Q I ru ⟨μ, α, F, ws, r, h, q⟩
  unfold gRepr at q
  split at q
  · split at q
    · rename_i x e
      split at q
      · rename_i ok
        obtain ⟨v, rfl, d⟩ := data1 r h e
        unfold reprOk at ok
        simp only [Bool.and_eq_true, decide_eq_true_eq, Bool.not_eq_true'] at ok
        obtain ⟨⟨⟨k1, k2⟩, k3⟩, k4⟩ := ok
        obtain ⟨u, rfl, rw1⟩ := vals1 ru
        have q := q.now r _ (.str _)
        obtain ⟨as, d2, _⟩ := Dq.reads I x v u d rw1
        have k2' : x.shown.length ≤ sizeLine := le_line k2
        have nd : x.hasDict = true → sysModules ∉ as := fun z => by rw [k4] at z; cases z
        cases d2 with
        | none =>
          simp only [PyData.shown] at q
          exact PySem.P.repr_of_none ⟨.str _, H, I.tok _, ⟨_, rfl⟩, q⟩
        | bool b =>
          simp only [PyData.shown] at q
          exact PySem.P.repr_of_bool ⟨.str _, H, I.tok _, ⟨_, rfl⟩, q⟩
        | int i t =>
          simp only [PyData.shown] at q
          exact PySem.P.repr_of_int (by simpa [PyData.showable] using k1) ⟨.str _, H, I.tok _, ⟨_, rfl⟩, q⟩
        | str z t =>
          simp only [PyData.shown] at q k2'
          exact PySem.P.repr_of_str ⟨.str _, H, I.tok _, ⟨_, rfl⟩, q⟩ k2'
        | list h1 h2 h3 h4 => exact repr_of_reads' (.list h1 h2 h3 h4) k1 nd hg (by omega) (fun _ _ z => z) (fun h' u tk hk => ⟨.str _, H, I.kept hk, ⟨_, rfl⟩, q⟩) k2'
        | tuple h1 h2 h3 h4 => exact repr_of_reads' (.tuple h1 h2 h3 h4) k1 nd hg (by omega) (fun _ _ z => z) (fun h' u tk hk => ⟨.str _, H, I.kept hk, ⟨_, rfl⟩, q⟩) k2'
        | dict h1 h2 h3 h4 h5 => exact repr_of_reads' (.dict h1 h2 h3 h4 h5) k1 nd hg (by omega) (fun _ _ z => z) (fun h' u tk hk => ⟨.str _, H, I.kept hk, ⟨_, rfl⟩, q⟩) k2'
      · exact q.elim
    · exact q.elim
  · exact q.elim
end

/-! ### calls of them -/
section
variable {X : Cx} {W : WX} {x : Str} {p pos : Pos} {e : Expr} {es : List Expr} {as : Av} {id T : String} {g : List Wv → Mu → Out Wv}
theorem se_bi (hc : CallR X (.builtin id) (rnG X.K X.mg g)) (hg : Gl X x) (hm : X.mg x = none) (hv : bootBuiltins x = some (.builtin id)) (ha : SA X W (e :: es) as) (hn : x ≠ "__name__") (hdb : (x == ("__debug__" : Str)) = false)
    (he : starEach (e :: es) X.env = (false, eval e X.env) :: starEach es X.env) (hpl : (backTo pos (starEach es X.env)).any (·.1) = false) : SE X W (.Call (.Name x p) (e :: es) [] pos) (en g as) := by
  refine (pe_callB hc hg hm hv ha hn hdb he hpl).imp fun σ H Q ⟨ρ, μ, α, F, r, re, q⟩ => ?_
  refine ⟨ρ, μ, α, F, r, re, q.bind.mono fun ws μ1 α1 F1 H1 x1 r1 q1 vs rv => ?_⟩
  exact ⟨μ1, α1, F1, ws, r1, rv, q1.calm⟩
theorem se_bif (hc : CallR X (.builtin id) (rnG X.K X.mg g)) (hg : Gl X x) (hm : X.mg x = some (.builtin id)) (ha : SA X W (e :: es) as) (hdb : (x == ("__debug__" : Str)) = false)
    (he : starEach (e :: es) X.env = (false, eval e X.env) :: starEach es X.env) (hpl : (backTo pos (starEach es X.env)).any (·.1) = false) : SE X W (.Call (.Name x p) (e :: es) [] pos) (en g as) := by
  refine (pe_callBfun hc hg hm ha hdb he hpl).imp fun σ H Q ⟨ρ, μ, α, F, r, re, q⟩ => ?_
  refine ⟨ρ, μ, α, F, r, re, q.bind.mono fun ws μ1 α1 F1 H1 x1 r1 q1 vs rv => ?_⟩
  exact ⟨μ1, α1, F1, ws, r1, rv, q1.calm⟩
theorem se_ty (hc : CallR X (.type T) (rnG X.K X.mg g)) (hg : Gl X x) (hm : X.mg x = none) (hv : bootBuiltins x = some (.type T)) (ha : SA X W (e :: es) as) (hn : x ≠ "__name__") (hdb : (x == ("__debug__" : Str)) = false)
    (he : starEach (e :: es) X.env = (false, eval e X.env) :: starEach es X.env) (hpl : (backTo pos (starEach es X.env)).any (·.1) = false) : SE X W (.Call (.Name x p) (e :: es) [] pos) (en g as) := by
  refine (pe_callTy hc hg hm hv ha hn hdb he hpl).imp fun σ H Q ⟨ρ, μ, α, F, r, re, q⟩ => ?_
  refine ⟨ρ, μ, α, F, r, re, q.bind.mono fun ws μ1 α1 F1 H1 x1 r1 q1 vs rv => ?_⟩
  exact ⟨μ1, α1, F1, ws, r1, rv, q1.calm⟩
/-- list(e) -/
def lList (as : Av) : Lv := fun ρ μ => (as ρ μ).bind fun ws μ1 => calm (gList ws μ1)
theorem items_of {α : List Addr} {F H : Hp} {μ : Mu} {v : V} {w : Wv} {zs : List PyData} {K : PySem.W.Frag} (r : Rep K α F μ H) (e : dataOf μ w = some (.list zs)) (q0 : Rw K α F v w) : ∃ a vs, v = .ref a ∧ Ls K H a vs ∧ DqAll K F vs zs := by
  cases w with
  | d y =>
    cases e
    cases q0 with
    | lst hs ha => exact ⟨_, _, rfl, sameL r.sub hs, ha⟩
  | t ds => cases e
  | o _ => cases e
  | x _ _ _ => cases e
  | r k =>
    have e : (μ[k]?.join).map PyData.list = some (.list zs) := e
    obtain ⟨c, e1, e2⟩ := Option.map_eq_some_iff.mp e
    cases e2
    have e' : μ[k]? = some (some zs) := by
      cases z : μ[k]? with
      | none =>
        rw [z] at e1
        cases e1
      | some o =>
        rw [z] at e1
        have e3 : o = some zs := e1
        rw [e3]
    obtain ⟨b, g1, rfl, hL⟩ := q0
    obtain ⟨a, vs, h1, h2, h3, h4⟩ := r.lcell hL e'
    rw [h1] at g1
    cases g1
    exact ⟨_, vs, rfl, .of h2, h4⟩
theorem tup_of {α : List Addr} {F H : Hp} {μ : Mu} {v : V} {w : Wv} {zs : List PyData} {K : PySem.W.Frag} (r : Rep K α F μ H) (e : dataOf μ w = some (.tuple zs)) (q0 : Rw K α F v w) : w = .d (.tuple zs) ∧ ∃ a vs, v = .ref a ∧ SqT K F a vs ∧ DqAll K F vs zs := by
  cases w with
  | d y =>
    cases e
    cases q0 with
    | tup hs ha => exact ⟨rfl, _, _, rfl, hs, ha⟩
  | t ds => cases e
  | o _ => cases e
  | x _ _ _ => cases e
  | r k =>
    have e : (μ[k]?.join).map PyData.list = some (.tuple zs) := e
    obtain ⟨c, e1, e2⟩ := Option.map_eq_some_iff.mp e
    cases e2
theorem fresh0 {α α' : List Addr} {F F' H H' : Hp} (x : Ext α F H α' F' H') {p : Addr} (hp : H' p = none) : Fr H p := x.keep p (.of hp)
theorem sl_list (hg : Gl X x) (hm : X.mg x = none) (hv : bootBuiltins x = some (.type "list")) (ha : SA X W (e :: es) as) (hn : x ≠ "__name__") (hdb : (x == ("__debug__" : Str)) = false)
    (he : starEach (e :: es) X.env = (false, eval e X.env) :: starEach es X.env) (hpl : (backTo pos (starEach es X.env)).any (·.1) = false) : SL X W (.Call (.Name x p) (e :: es) [] pos) (lList as) := by
  refine (pe_callTy call_list_of hg hm hv ha hn hdb he hpl).imp fun σ H Q ⟨ρ, μ, α, F, r, re, q⟩ => ?_
  refine ⟨ρ, μ, α, F, r, re, q.bind0.mono fun ws μ1 α1 F1 H1 x1 r1 q1 vs rv => ?_⟩
  have q1 : gp X.K X.mg α F H (gList ws μ1) (Gl' X.K H Q) (fun _ _ _ => False) := gp.calm q1
  have fin : ∀ {zs : List PyData} {us : List V}, gList ws μ1 = .ok zs μ1 → DqAll X.K F1 us zs → ∀ l, H1 l = none → Q (.ref l) (upd H1 l (.lst us)) := fun {zs us} e d l hl => by
    rw [e] at q1
    obtain ⟨r2, x2⟩ := r1.side (o := .lst us) hl
    exact q1.at (x1.trans x2) r2 l us (fresh0 x1 hl) upd_same (r1.sub.free hl) (fun m => r1.had l m (.of hl)) d
  have q2 := q1
  unfold gList at q2
  split at q2
  · rename_i w
    split at q2
    · rename_i zs e
      obtain ⟨v, rfl, q0⟩ := rws1 rv
      obtain ⟨a, us, rfl, hs, d⟩ := items_of r1 e q0
      exact ⟨a, us, rfl, .inl hs.sq, fin (by simp only [gList, e]) d⟩
    · rename_i zs e
      obtain ⟨v, rfl, q0⟩ := rws1 rv
      obtain ⟨rfl, a, us, rfl, hs, d⟩ := tup_of r1 e q0
      exact ⟨a, us, rfl, .inr (sameT r1.sub hs), fin rfl d⟩
    · exact q2.elim
  · exact q2.elim
end
end TL
/-! TL7: subscripts, slices, x[::-1], isinstance. -/
namespace TL
variable [TabN]
open PySem PySem.Spec L2

theorem atI_rel {K : PySem.W.Frag} {F : Hp} {vs : List V} {ds : List PyData} {k : Int} {d : PyData} (h : DqAll K F vs ds) (e : atI ds k = some d) : ∃ v, atI vs k = some v ∧ Dq K F v d := by
  unfold atI at e ⊢
  rw [h.length]
  cases z : ixN ds.length k with
  | none =>
    rw [z] at e
    cases e
  | some j =>
    rw [z] at e
    exact h.get e
/-- x[i] -/
def gIx (a i : Wv) (μ : Mu) : Out Wv :=
  match dataOf μ a, i with
  | some (.tuple xs), .d (.int k) => match atI xs k with
    | some x => .ok (.d x) μ
    | none => .bad
  | some (.list xs), .d (.int k) => match atI xs k with
    | some x => .ok (.d x) μ
    | none => .bad
  | some (.str z), .d (.int k) => if z.length ≤ 16777216 then match atI z.cps.toList k with
    | some c => .ok (wS ⟨#[c]⟩) μ
    | none => .bad else .bad
  | _, _ => .bad
/-- the part from lo up to hi -/
def cutL {β : Type} (xs : List β) (lo hi : Option Int) : List β := (xs.drop (HT.sIx xs.length 0 lo)).take (HT.sIx xs.length xs.length hi - HT.sIx xs.length 0 lo)
/-- x[lo:hi] -/
def gSl (a : Wv) (lo hi : Option Int) (μ : Mu) : Out Wv :=
  match dataOf μ a with
  | some (.tuple xs) => .ok (wT (cutL xs lo hi)) μ
  | some (.list xs) => .ok (wL (cutL xs lo hi)) μ
  | some (.str z) => if z.length ≤ 16777216 then .ok (wS (cutS z lo hi)) μ else .bad
  | _ => .bad
/-- x[::-1] -/
def gRev (a : Wv) (μ : Mu) : Out Wv :=
  match dataOf μ a with
  | some (.tuple xs) => .ok (wT xs.reverse) μ
  | some (.list xs) => .ok (wL xs.reverse) μ
  | _ => .bad
section
variable {X : Cx} {W : WX}
theorem ix_g : IxR X (r2G X.K X.mg gIx) := by
  intro value slice pins s σ H x y v u Q I rx ry ⟨μ, α, F, w1, w2, r, h1, h2, q⟩ hs
  unfold gIx at q
  split at q
  · rename_i xs k e
    split at q
    · rename_i d ed
      obtain ⟨rfl, a, vs, rfl, hv, da⟩ := tup_of r e h1
      cases h2
      obtain ⟨v', e1, e2⟩ := atI_rel da ed
      exact ix_seq value slice pins s σ H _ _ v u Q I rx ry (.inr (.inl ⟨a, vs, k, v', rfl, rfl, sameT r.sub hv, e1, q.now r _ e2⟩)) hs
    · exact q.elim
  · rename_i xs k e
    split at q
    · rename_i d ed
      obtain ⟨a, vs, rfl, hv, da⟩ := items_of r e h1
      cases h2
      obtain ⟨v', e1, e2⟩ := atI_rel da ed
      exact ix_seq value slice pins s σ H _ _ v u Q I rx ry (.inl ⟨a, vs, k, v', rfl, rfl, hv.sq, e1, q.now r _ e2⟩) hs
    · exact q.elim
  · rename_i z k e
    split at q
    · rename_i hl
      split at q
      · rename_i c ec
        have d1 := data_ok r e h1
        cases d1
        cases h2
        exact ix_seq value slice pins s σ H _ _ v u Q I rx ry (.inr (.inr ⟨z, k, c, rfl, rfl, le_line hl, ec, q.now r _ (.str _)⟩)) hs
      · exact q.elim
    · exact q.elim
  · exact q.elim
theorem se_ix {a b : Expr} {pos : Pos} {fa fb : Ev} (ha : SE X W a fa) (hb : SE X W b fb) (hs : PlainIx b) : SE X W (.Subscript a b pos) (e2 gIx fa fb) := by
  refine (pe_ix ix_g ha hb hs).imp fun σ H Q ⟨ρ, μ, α, F, r, re, q⟩ => ?_
  refine ⟨ρ, μ, α, F, r, re, q.bind.mono fun w μ1 α1 F1 H1 x1 r1 q1 v rv => ?_⟩
  refine ⟨ρ, μ1, α1, F1, r1, re.ext x1, q1.bind.mono fun u μ2 α2 F2 H2 x2 r2 q2 v' rv' => ?_⟩
  exact ⟨μ2, α2, F2, w, u, r2, rv.ext x2, rv', q2.calm⟩
def oPart (f : Option Ev) (ρ : Rho) (μ : Mu) : Out (Option Int) :=
  match f with
  | none => .ok none μ
  | some f => (f ρ μ).bind fun w μ1 => match w with
    | .d (.int i) => .ok (some i) μ1
    | _ => .bad
def tO' (K : PySem.W.Frag) (mg : Str → Option Value) (W : WX) (f : Option Ev) : TO := fun σ H Q => ∃ ρ μ α F, Rep K α F μ H ∧ RepE K α F ρ σ ∧ gp K mg α F H (oPart f ρ μ) (fun o _ _ _ H' => Q o H') (fun c d H' => W c d σ H')
/-- a part of a slice -/
abbrev SO (X : Cx) (W : WX) (e : Option Expr) (f : Option Ev) : Prop := PO X e (tO' X.K X.mg W f)
theorem _root_.L2.PO.imp {e : Option Expr} {t t' : TO} (h : PO X e t) (i : ∀ σ H Q, t' σ H Q → t σ H Q) : PO X e t' := ⟨fun pins s σ H Q I q => h.run pins s σ H Q I (i _ _ _ q)⟩
theorem so_none : SO X W none none := po_none.imp fun σ H Q ⟨_, _, _, _, r, _, q⟩ => gp.now (c := (none : Option Int)) q r
theorem so_some {e : Expr} {f : Ev} (h : SE X W e f) : SO X W (some e) (some f) := by
  refine (po_some h).imp fun σ H Q ⟨ρ, μ, α, F, r, re, q⟩ => ?_
  have q : gp X.K X.mg α F H ((f ρ μ).bind fun w μ1 => match w with
    | .d (.int i) => .ok (some i) μ1
    | _ => .bad) (fun o _ _ _ H' => Q o H') (fun c d H' => W c d σ H') := q
  refine ⟨ρ, μ, α, F, r, re, q.bind.mono fun w μ1 α1 F1 H1 x1 r1 q1 v rv => ?_⟩
  split at q1
  · cases rv
    exact ⟨_, rfl, q1.now r1⟩
  · exact q1.elim
def rSG (K : PySem.W.Frag) (mg : Str → Option Value) : V → Option Int → Option Int → Hp → VK → Prop := fun x lo hi H Q => ∃ μ α F w, Rep K α F μ H ∧ Rw K α F x w ∧ gp K mg α F H (gSl w lo hi μ) (Gw K Q) (fun _ _ _ => False)
theorem DqAll.cut {K : PySem.W.Frag} {F : Hp} {vs : List V} {ds : List PyData} (h : DqAll K F vs ds) (lo hi : Option Int) : DqAll K F (cutV vs lo hi) (cutL ds lo hi) := by
  unfold cutV cutL
  rw [h.length]
  exact (h.drop _).take _
theorem cut_all (xs : List V) (lo hi : Option Int) (h : HT.sIx xs.length 0 lo = 0 ∧ HT.sIx xs.length xs.length hi = xs.length) : cutV xs lo hi = xs := by
  unfold cutV
  rw [h.1, h.2, List.drop_zero, Nat.sub_zero, List.take_length]
theorem sl_g : SlR X (rSG X.K X.mg) := by
  intro pins s σ H x v vl vu lo hi sl Q I rx hs pl pu ⟨μ, α, F, w, r, h, q⟩
  unfold gSl at q
  split at q
  · rename_i xs e
    obtain ⟨rfl, a, vs, rfl, hv, da⟩ := tup_of r e h
    have dc := da.cut lo hi
    refine sl_tupA pins s σ H _ v vl vu lo hi sl Q I rx hs pl pu ⟨a, vs, rfl, sameT r.sub hv, fun hw => ?_, fun hw p hp => ?_⟩
    · rw [cut_all vs lo hi hw] at dc
      exact q.now r _ (.tup hv dc)
    · obtain ⟨r2, x2⟩ := r.new (o := .tup (cutV vs lo hi)) hp
      exact q.at x2 r2 _ (.tup (.of upd_same) (dc.mono x2.fro))
  · rename_i xs e
    obtain ⟨a, vs, rfl, hv, da⟩ := items_of r e h
    have dc := da.cut lo hi
    refine L2.sl_list pins s σ H _ v vl vu lo hi sl Q I rx hs pl pu ⟨a, vs, rfl, hv.sq, fun p hp => ?_⟩
    obtain ⟨r2, x2⟩ := r.new (o := .lst (cutV vs lo hi)) hp
    exact q.at x2 r2 _ (.lst (.of upd_same) (dc.mono x2.fro))
  · rename_i z e
    split at q
    · rename_i hl
      have d1 := data_ok r e h
      cases d1
      exact sl_str pins s σ H _ v vl vu lo hi sl Q I rx hs pl pu ⟨z, rfl, le_line hl, q.now r _ (.str _)⟩
    · exact q.elim
  · exact q.elim
def eSl (a : Ev) (lo hi : Option Ev) : Ev := fun ρ μ => (a ρ μ).bind fun w μ1 => (oPart lo ρ μ1).bind fun l μ2 => (oPart hi ρ μ2).bind fun h μ3 => calm (gSl w l h μ3)
theorem se_sl {a : Expr} {lo hi : Option Expr} {pos p2 : Pos} {fa : Ev} {fl fh : Option Ev} (ha : SE X W a fa) (hl : SO X W lo fl) (hh : SO X W hi fh) : SE X W (.Subscript a (.Slice lo hi none p2) pos) (eSl fa fl fh) := by
  refine (pe_slice sl_g ha hl hh).imp fun σ H Q ⟨ρ, μ, α, F, r, re, q⟩ => ?_
  refine ⟨ρ, μ, α, F, r, re, q.bind.mono fun w μ1 α1 F1 H1 x1 r1 q1 v rv => ?_⟩
  refine ⟨ρ, μ1, α1, F1, r1, re.ext x1, q1.bind.mono fun l μ2 α2 F2 H2 x2 r2 q2 => ?_⟩
  refine ⟨ρ, μ2, α2, F2, r2, (re.ext x1).ext x2, q2.bind.mono fun h μ3 α3 F3 H3 x3 r3 q3 => ?_⟩
  exact ⟨μ3, α3, F3, w, r3, (rv.ext x2).ext x3, q3.calm⟩
end

/-! ### x[::-1] of a tuple -/
section
variable {prog : Program} {w : World} {A : Around} {E : Value → Shared → Prop} {s : Shared}
theorem fm_congr {β γ : Type} {f g : β → Option γ} : ∀ {l : List β}, (∀ x ∈ l, f x = g x) → l.filterMap f = l.filterMap g
  | [], _ => rfl
  | x :: r, h => by
    rw [List.filterMap_cons, List.filterMap_cons, h x List.mem_cons_self, fm_congr fun y hy => h y (List.mem_cons_of_mem _ hy)]
theorem back_all (xs : Array Value) : ((List.range xs.size).filterMap fun (k : Nat) => xs[(((xs.size : Int) - 1) + (k : Int) * (-1)).toNat]?).toArray = xs.toList.reverse.toArray := by
  have h : ∀ k : Nat, k < xs.size → xs[(((xs.size : Int) - 1) + (k : Int) * (-1)).toNat]? = xs.toList.reverse[k]? := fun k hk => by
    have e : (((xs.size : Int) - 1) + (k : Int) * (-1)).toNat = xs.size - 1 - k := by omega
    rw [e, List.getElem?_reverse (by simpa using hk)]
    simp
  have g : ∀ (l : List Value) (n : Nat), n ≤ l.length → (List.range n).filterMap (fun k => l[k]?) = l.take n := fun l n => by
    induction n with
    | zero => intro _; rfl
    | succ n ih =>
      intro hn
      rw [List.range_succ, List.filterMap_append, ih (by omega), List.take_add_one]
      simp [List.getElem?_eq_getElem (show n < l.length by omega)]
  have c : (List.range xs.size).filterMap (fun (k : Nat) => xs[(((xs.size : Int) - 1) + (k : Int) * (-1)).toNat]?) = (List.range xs.size).filterMap (fun (k : Nat) => xs.toList.reverse[k]?) := by
    refine fm_congr fun k hk => h k (by simpa using hk)
  rw [c, g xs.toList.reverse xs.size (by simp)]
  congr 1
  exact List.take_of_length_le (by simp)
theorem tuple_backwards {t sl : Addr} {items : Array Value} {k : Tok} {Q : Value → Shared → Prop} (ht : PyProof.Rows.IsTup s.heap t items) (hs : s.heap.IsSliceOf sl .none .none (.int (-1) k)) (hz : items.size ≤ sizeLine)
    (h : Q (.ref s.heap.objs.size) { s with heap := s.heap.push { cls := .type "tuple", data := .seq items.toList.reverse.toArray } }) : wpAny (model prog w) A (getItem (.ref t) (.ref sl)) Q E s := by
  have room : sizeOk (.seq items.toList.reverse.toArray) := by
    show items.toList.reverse.toArray.size ≤ sizeLine
    rw [List.size_toArray, List.length_reverse, Array.length_toList]
    exact hz
  obtain ⟨os, hos, hcs, hds⟩ := id hs
  have isSlice : s.TypeIs (.ref sl) "slice" := ⟨os, hos, hcs⟩
  unfold getItem
  try with_reducible refine wpAny_holding ?_
  first | refine wpAny_bind (wpAny_pure ?_) | skip
  refine wpAny_bind (wpAny_sequenceKey ht.typeIs (by decide) (wpAny_bind (wpAny_callSpecial?_slot (name := Str.ofString "__getitem__") ht.typeIs PyProof.Rows.slot_tuple_getitem
    (wpAny_call_entry PyProof.Rows.slot_tuple_getitem ht.typeIs PyProof.Rows.entry_tuple_getitem ?_ (PyProof.Rows.args_tuple_getitem _ _)))))
  show wpAny _ _ (Builtin.Tuple.tupleItemsOf (.ref t) >>= _) _ _ s
  refine wpAny_bind (PyProof.Rows.tupleItemsOf_ ht (wpAny_bind (wpAny_typeOf isSlice ?_)))
  rw [if_pos (by decide)]
  refine wpAny_bind ?_
  · unfold Builtin.Slice.sliceApplied Builtin.Slice.sliceFields
    refine wpAny_bind (wpAny_bind (wpAny_field hos hds (x := .none) rfl (wpAny_bind (wpAny_field hos hds (x := .none) rfl (wpAny_bind (wpAny_field hos hds (x := .int (-1) k) rfl (wpAny_pure ?_)))))))
    refine wpAny_bind (PyProof.Rows.slicePart_int ?_)
    show wpAny _ _ (if ((-1 : Int) == 0) = true then _ else _) _ _ s
    rw [if_neg (by decide)]
    refine wpAny_bind (PyProof.Rows.slicePart_none (wpAny_bind (PyProof.Rows.slicePart_none (wpAny_bind (wpAny_pure ?_)))))
    have adj : Builtin.Slice.sliceAdjust none none (-1) (items.size : Int) = ((items.size : Int) - 1, -1) := by
      unfold Builtin.Slice.sliceAdjust
      simp
    have plc : Builtin.Slice.slicePlaces ((items.size : Int) - 1) (-1) (-1) = items.size := by
      unfold Builtin.Slice.slicePlaces
      simp
      omega
    show wpAny _ _ (match Builtin.Slice.sliceAdjust none none (-1) (items.size : Int) with | (lo, hi) => pure (lo, (-1 : Int), Builtin.Slice.slicePlaces lo hi (-1))) _ _ s
    rw [adj]
    show wpAny _ _ (pure ((items.size : Int) - 1, (-1 : Int), Builtin.Slice.slicePlaces ((items.size : Int) - 1) (-1) (-1))) _ _ s
    rw [plc]
    refine wpAny_pure ?_
    have no : ¬ (((items.size : Int) - 1 == 0 && (-1 : Int) == 1 && items.size == items.size) = true) := by
      rw [show ((-1 : Int) == 1) = false by decide, Bool.and_false, Bool.false_and]
      exact Bool.false_ne_true
    show wpAny _ _ (if ((items.size : Int) - 1 == 0 && (-1 : Int) == 1 && items.size == items.size) = true then _ else _) _ _ s
    rw [if_neg no, back_all]
    first
      | exact wpAny_bind (m := Builtin.Tuple.tupleExact _) (wpAny_newObj_type (wpAny_pure ⟨_, rfl, wpAny_pure h⟩) room)
      | exact wpAny_bind (m := Builtin.Tuple.tupleExact _) (wpAny_newObj_type (wpAny_bind (wpAny_pure (wpAny_pure ⟨_, rfl, wpAny_pure h⟩))) room)
      | exact wpAny_bind (wpAny_bind (m := Builtin.Tuple.tupleExact _) (wpAny_newObj_type (wpAny_pure (wpAny_pure ⟨_, rfl, wpAny_pure h⟩)) room))
end
section
variable {X : Cx} {W : WX}
theorem se_rev {e : Expr} {f : Ev} {k : Nat} {p1 p2 p3 pos : Pos} (he : SE X W e f) : SE X W (.Subscript e (.Slice none none (some (.UnaryOp .USub (.Constant (.int 1) k p1) p2)) p3) pos) (e1 gRev f) := by
  refine ⟨fun pins s σ H Q I ⟨ρ, μ, α, F, r, re, q⟩ => ?_⟩
  have we : tE X.K X.mg W f σ H (fun x H1 => ∃ μ α F w, Rep X.K α F μ H1 ∧ Rw X.K α F x w ∧ gp X.K X.mg α F H1 (gRev w μ) (Gw X.K Q) (fun _ _ _ => False)) :=
    ⟨ρ, μ, α, F, r, re, q.bind.mono fun w μ1 α1 F1 H1 x1 r1 q1 v rv => ⟨μ1, α1, F1, w, r1, rv, q1.calm⟩⟩
  refine PyProof.Rows.Subscript_ (thn (he.run pins s σ H _ I we) fun v s1 ⟨x, H1, I1, rx, μ1, α1, F1, w, r1, rv, q1⟩ => ?_)
  -- the slice object
  have third : PO X (some (.UnaryOp .USub (.Constant (.int 1) k p1) p2)) (tPart (tUn (rU fun i => .int (-i)) (tC (.int 1)))) := po_some (pe_un un_neg pe_int)
  refine wpAny_Slice (thn (po_none.run pins s1 σ H1 (fun o G => o = none ∧ G = H1) I1 ⟨rfl, rfl⟩) fun u1 s2 ⟨o1, G1, I2, d1, e1, g1⟩ => ?_)
  subst e1 g1
  refine thn (po_none.run pins s2 σ G1 (fun o G => o = none ∧ G = G1) I2 ⟨rfl, rfl⟩) fun u2 s3 ⟨o2, G2, I3, d2, e2, g2⟩ => ?_
  subst e2 g2
  refine thn (third.run pins s3 σ G2 (fun o G => o = some (-1) ∧ G = G2) I3 ⟨1, rfl, -1, rfl, rfl, rfl⟩) fun u3 s4 ⟨o3, G3, I4, d3, e3, g3⟩ => ?_
  subst e3 g3
  have I5 : Inv X pins σ G3 { s4 with heap := s4.heap.push { cls := .type "slice", data := .fields #[u1, u2, u3] } } := I4.kept (t' := s4.toks) fun b ob z => Heap.get?_push_of_some _ z
  unfold gRev at q1
  split at q1
  · rename_i xs ex
    obtain ⟨rfl, a, vs, rfl, hv, da⟩ := tup_of r1 ex rv
    cases rx
    obtain ⟨its, ri, ht, hz⟩ := I5.tuple (sameT r1.sub hv)
    cases d1
    cases d2
    cases d3 with
    | int _ tk =>
      show wpAny (model X.prog X.w) X.A (PyProof.Rows.subscriptTail e (.Slice none none (some (.UnaryOp .USub (.Constant (.int 1) k p1) p2)) p3) (.ref a) (.ref s4.heap.objs.size)) (EP X pins σ Q) X.xe _
      refine PyProof.Rows.tail_any (ops := [.ref a, .ref s4.heap.objs.size]) ht.typeIs (PyProof.Rows.slot_tuple_getitem.lookup) ?_ (by with_unfolding_all rfl)
      refine tuple_backwards ht (Heap.IsSliceOf.new _ _ _ _) (by rw [List.size_toArray, ← ri.length]; exact hz) ?_
      have nf := I5.hok.fresh (Nat.le_refl _)
      obtain ⟨r2, x2⟩ := r1.new (o := .tup vs.reverse) nf
      refine ⟨.ref _, _, I5.laid (t' := s4.toks) (o := .tup vs.reverse) (fun b ob z => Heap.get?_push_of_some _ z) (Nat.le_refl _) ?_, rfl, q1.at x2 r2 _ (.tup (.of upd_same) (da.reverse.mono x2.fro))⟩
      exact ⟨by rw [List.length_reverse]; exact hz, its.reverse, ri.reverse, ⟨_, Heap.get?_push_size _ rfl, rfl, _, rfl⟩⟩
  · rename_i xs ex
    obtain ⟨a, vs, rfl, hv, da⟩ := items_of r1 ex rv
    cases rx
    obtain ⟨its, ri, ht, hz⟩ := I5.list hv.sq
    show wpAny (model X.prog X.w) X.A (PyProof.Rows.subscriptTail e (.Slice none none (some (.UnaryOp .USub (.Constant (.int 1) k p1) p2)) p3) (.ref a) (.ref s4.heap.objs.size)) (EP X pins σ Q) X.xe _
    refine PyProof.Rows.tail_any (ops := [.ref a, .ref s4.heap.objs.size]) ht.isList.typeIs (PySem.slot_list_getitem.lookup) ?_ (by with_unfolding_all rfl)
    refine wpAny_getItem_list_slice ht.isList (Heap.IsSliceOf.new _ _ _ _) d1 d2 d3 (by decide) ?_ (by rw [List.size_toArray, ← ri.length]; exact hz)
    rw [PySem.W.krv_pick]
    have nf := I5.hok.fresh (Nat.le_refl _)
    obtain ⟨r2, x2⟩ := r1.new (o := .lst vs.reverse) nf
    refine ⟨.ref _, _, I5.laid (t' := s4.toks) (o := .lst vs.reverse) (fun b ob z => Heap.get?_push_of_some _ z) (Nat.le_refl _) ?_, rfl, q1.at x2 r2 _ (.lst (.of upd_same) (da.reverse.mono x2.fro))⟩
    exact ⟨by rw [List.length_reverse]; exact hz, _, 0, ri.reverse, Heap.get?_push_size _ rfl⟩
  · exact q1.elim
end

/-! ### isinstance(x, T), T a built-in type -/
def tyName : PyData → String
  | .none => "NoneType"
  | .bool _ => "bool"
  | .int _ => "int"
  | .str _ => "str"
  | .list _ => "list"
  | .tuple _ => "tuple"
  | .dict _ => "dict"
/-- whether a value of the type a is one of the type b -/
def subTy (a b : String) : Bool := a == b || (a == "bool" && b == "int")
def kinds : List String := ["NoneType", "bool", "int", "str", "list", "tuple", "dict"]
def gIsi (T : String) (a : Wv) (μ : Mu) : Out Wv :=
  match dataOf μ a with
  | some x => if kinds.contains T = true then .ok (wBl (subTy (tyName x) T)) μ else .bad
  | none => .bad
theorem kitB_all : ∀ a ∈ kinds, ∀ b ∈ kinds, kitB a b = some (subTy a b) := by decide +kernel
theorem tyName_mem (x : PyData) : tyName x ∈ kinds := by cases x <;> simp [tyName, kinds]
section
variable {X : Cx} {W : WX}
theorem Dq.ty {K : PySem.W.Frag} {H : Hp} {v : V} {x : PyData} (h : Dq K H v x) : TyX K H v (.type (tyName x)) := by
  cases h with
  | non => exact .base .non
  | bl b => exact .base (.bl b)
  | int i => exact .base (.int i)
  | str z => exact .base (.str z)
  | lst hs _ =>
    rcases hs with (e | ⟨o, e⟩) | ⟨its, n, e, _⟩
    · exact .base (.lst e)
    · exact .base (.frz e)
    · exact .kList e rfl
  | tup hs _ =>
    rcases hs with (e | ⟨o, e⟩) | ⟨o, its, n, e, c, _⟩
    · exact .base (.tup e)
    · exact .fTuple e
    · exact .kTuple e c
  | dic e => exact .base (.dK e)
theorem se_isi {e : Expr} {f : Ev} {T : String} {p p2 pos : Pos} {x : Str} (hg : Gl X "isinstance") (hm : X.mg "isinstance" = none) (hgT : Gl X x) (hmT : X.mg x = none) (hvT : bootBuiltins x = some (.type T)) (hn : x ≠ "__name__") (hdb : (x == ("__debug__" : Str)) = false)
    (he : SE X W e f) (h1 : starEach (e :: [.Name x p2]) X.env = (false, eval e X.env) :: starEach [.Name x p2] X.env) : SE X W (.Call (.Name "isinstance" p) [e, .Name x p2] [] pos) (e1 (gIsi T) f) := by
  refine (pe_callB call_isi hg hm (by decide +kernel) (pa_cons he (pa_cons (pe_bltn (v := .ty T) hgT hmT hvT rfl hn hdb) pa_nil) h1) (by decide) (by decide) h1 (by rfl)).imp fun σ H Q ⟨ρ, μ, α, F, r, re, q⟩ => ?_
  refine ⟨ρ, μ, α, F, r, re, q.bind.mono fun w μ1 α1 F1 H1 x1 r1 q1 v rv => ?_⟩
  have q2 := gp.calm (X' := fun _ _ _ => False) q1
  unfold gIsi at q2
  split at q2
  · rename_i y ey
    split at q2
    · rename_i hT
      have d := data_ok r1 ey rv
      exact ⟨v, .ty T, _, _, subTy (tyName y) T, rfl, .ty T, d.ty, kit_ty (kitB_all _ (tyName_mem y) _ (by simpa using hT)), q2.now r1 _ (.bl _)⟩
    · exact q2.elim
  · exact q2.elim
end
end TL
/-! TL8: statements, targets, methods of cells. -/
namespace TL
variable [TabN]
open PySem PySem.Spec L2

/-- an expression's outcome in a statement: what is raised leaves with the slots -/
def liftO {γ : Type} (ρ : Rho) (o : Out γ) (k : γ → Mu → Out Fl) : Out Fl :=
  match o with
  | .ok c μ => k c μ
  | .err x ws μ => .ok (.er x ws ρ) μ
  | .bad => .bad
@[simp] theorem liftO_ok {γ : Type} (ρ : Rho) (c : γ) (μ : Mu) (k : γ → Mu → Out Fl) : liftO ρ (.ok c μ) k = k c μ := rfl
@[simp] theorem liftO_err {γ : Type} (ρ : Rho) (x : Str) (ws : List Wv) (μ : Mu) (k : γ → Mu → Out Fl) : liftO ρ (.err x ws μ) k = .ok (.er x ws ρ) μ := rfl
@[simp] theorem liftO_bad {γ : Type} (ρ : Rho) (k : γ → Mu → Out Fl) : liftO ρ (.bad : Out γ) k = .bad := rfl
def sNext : Sv := fun ρ μ => .ok (.nx ρ) μ
def sBreak : Sv := fun ρ μ => .ok (.bk ρ) μ
def sCont : Sv := fun ρ μ => .ok (.ct ρ) μ
def seqK (b : Sv) (fl : Fl) (μ : Mu) : Out Fl :=
  match fl with
  | .nx ρ' => b ρ' μ
  | fl => .ok fl μ
def sSeq (a b : Sv) : Sv := fun ρ μ => (a ρ μ).bind (seqK b)
def sExpr (f : Ev) : Sv := fun ρ μ => liftO ρ (f ρ μ) fun _ μ1 => .ok (.nx ρ) μ1
def sRet (f : Ev) : Sv := fun ρ μ => liftO ρ (f ρ μ) fun w μ1 => .ok (.rt w) μ1
/-- a cell handed back as a list that nobody changes any more -/
def frz (w : Wv) (μ : Mu) : Out Wv :=
  match w with
  | .d x => .ok (.d x) μ
  | .r k => match μ[k]? with
    | some (some c) => .ok (.d (.list c)) (μ.set k none)
    | _ => .bad
  | .t _ => .bad
  | .o _ => .bad
  | .x _ _ _ => .bad
def sRetZ (f : Ev) : Sv := fun ρ μ => liftO ρ ((f ρ μ).bind frz) fun w μ1 => .ok (.rt w) μ1
def sIf (c : Bv) (a b : Sv) : Sv := fun ρ μ => liftO ρ (c ρ μ) fun t μ1 => if t = true then a ρ μ1 else b ρ μ1
def sAsg (f : Ev) (t : Gv) : Sv := fun ρ μ => liftO ρ (f ρ μ) fun w μ1 => (calm (t w ρ μ1)).bind fun ρ' μ2 => .ok (.nx ρ') μ2
def gNm (i : Nat) : Gv := fun w ρ μ => .ok (ρ.set i (some w)) μ
/-- targets one after another -/
def gSeq : List Gv → List Wv → Rho → Mu → Out Rho
  | [], [], ρ, μ => .ok ρ μ
  | t :: ts, w :: ws, ρ, μ => (t w ρ μ).bind fun ρ' μ' => gSeq ts ws ρ' μ'
  | _, _, _, _ => .bad
def gTp (ts : List Gv) : Gv := fun w ρ μ =>
  match w with
  | .d (.tuple xs) => if xs.length = ts.length then gSeq ts (xs.map Wv.d) ρ μ else .bad
  | _ => .bad
/-- o[i] = .. of a cell -/
def setC (o i w : Wv) (μ : Mu) : Out Unit :=
  match o, i, w with
  | .r k, .d (.int j), .d x => match μ[k]? with
    | some (some c) => match ixN c.length j with
      | some n => .ok () (μ.set k (some (c.set n x)))
      | none => .bad
    | _ => .bad
  | _, _, _ => .bad
def gSb (o i : Ev) : Gv := fun w ρ μ => (o ρ μ).bind fun ow μ1 => (i ρ μ1).bind fun iw μ2 => (setC ow iw w μ2).bind fun _ μ3 => .ok ρ μ3
/-- a, b = x, y without a pair -/
def sPar (i j : Nat) (as : Av) : Sv := fun ρ μ => liftO ρ (as ρ μ) fun ws μ1 => match ws with
  | [w, u] => .ok (.nx ((ρ.set i (some w)).set j (some u))) μ1
  | _ => .bad
/-- x.append(y), x.pop() -/
def gApp (o : Wv) (ws : List Wv) (μ : Mu) : Out Wv :=
  match o, ws with
  | .r k, [.d x] => match μ[k]? with
    | some (some c) => if c.length < 16777216 then .ok (.d .none) (μ.set k (some (c ++ [x]))) else .bad
    | _ => .bad
  | _, _ => .bad
def gPop (o : Wv) (μ : Mu) : Out Wv :=
  match o with
  | .r k => match μ[k]? with
    | some (some c) => match c[c.length - 1]? with
      | some x => .ok (.d x) (μ.set k (some c.dropLast))
      | none => .bad
    | _ => .bad
  | _ => .bad
/-- a cell is there -/
def live (w : Wv) (μ : Mu) : Bool :=
  match w with
  | .r k => match μ[k]? with
    | some (some _) => true
    | _ => false
  | _ => false
def eMeth1 (g : Wv → List Wv → Mu → Out Wv) (o : Ev) (as : Av) : Ev := fun ρ μ => (o ρ μ).bind fun w μ1 => if live w μ1 = true then (as ρ μ1).bind fun ws μ2 => calm (g w ws μ2) else .bad

section
variable {X : Cx} {W : WX}
theorem gp_lift {K : PySem.W.Frag} {mg : Str → Option Value} {γ : Type} {α : List Addr} {F H : Hp} {o : Out γ} {ρ : Rho} {σ : St} {k : γ → Mu → Out Fl} {D : Ends} {E : XK} (re : RepE K α F ρ σ) (h : gp K mg α F H (liftO ρ o k) (GS K mg W D) E) :
    gp K mg α F H o (fun c μ1 α1 F1 H1 => gp K mg α1 F1 H1 (k c μ1) (GS K mg W D) E) (fun c d H' => W c d σ H') := by
  cases o with
  | ok c μ1 => exact fun α1 F1 H1 x r => gp.base (o := k c μ1) h x
  | err y ws μ1 => exact fun α1 F1 H1 C d fs x r h1 h2 h2n h3 => h α1 F1 H1 x r σ C d fs (re.ext x) h1 h2 h2n h3
  | bad => exact h
theorem gp_lift0 {K : PySem.W.Frag} {mg : Str → Option Value} {γ : Type} {α : List Addr} {F H : Hp} {o : Out γ} {ρ : Rho} {σ : St} {k : γ → Mu → Out Fl} {D : Ends} {E : XK} (re : RepE K α F ρ σ) (h : gp K mg α F H (liftO ρ o k) (GS K mg W D) E) :
    gp K mg α F H o (fun c μ1 _ _ _ => gp K mg α F H (k c μ1) (GS K mg W D) E) (fun c d H' => W c d σ H') := by
  cases o with
  | ok c μ1 => exact fun α1 F1 H1 x r => h
  | err y ws μ1 => exact fun α1 F1 H1 C d fs x r h1 h2 h2n h3 => h α1 F1 H1 x r σ C d fs (re.ext x) h1 h2 h2n h3
  | bad => exact h
theorem ss_nil : SSs X W [] sNext := pss_nil.imp fun D σ H ⟨ρ, μ, α, F, r, re, q⟩ => q.now r σ re
theorem ss_pass {pos : Pos} : SS X W (.Pass pos) sNext := ps_pass.imp fun D σ H ⟨ρ, μ, α, F, r, re, q⟩ => q.now r σ re
theorem ss_break {pos : Pos} : SS X W (.Break pos) sBreak := ps_break.imp fun D σ H ⟨ρ, μ, α, F, r, re, q⟩ => q.now r σ re
theorem ss_continue {pos : Pos} : SS X W (.Continue pos) sCont := ps_continue.imp fun D σ H ⟨ρ, μ, α, F, r, re, q⟩ => q.now r σ re
theorem ss_never {st : Stmt} : SS X W st (fun _ _ => .bad) := ps_never.imp fun D σ H ⟨ρ, μ, α, F, r, re, q⟩ => q.elim
theorem gp_seq {K : PySem.W.Frag} {mg : Str → Option Value} {α : List Addr} {F H : Hp} {D : Ends} {a : Out Fl} {b : Sv} {E : XK} (h : gp K mg α F H (a.bind (seqK b)) (GS K mg W D) (fun _ _ _ => False)) :
    gp K mg α F H a (GS K mg W { D with nx := tS K mg W b D }) (fun _ _ _ => False) := by
  cases a with
  | bad => exact h
  | err x ws μ => exact h
  | ok fl μ =>
    intro α' F' H' x r
    cases fl with
    | nx ρ' => exact fun σ' re => ⟨ρ', μ, α', F', r, re, gp.base (o := b ρ' μ) h x⟩
    | bk ρ' => exact h α' F' H' x r
    | ct ρ' => exact h α' F' H' x r
    | rt w => exact h α' F' H' x r
    | er y ws ρ' => exact h α' F' H' x r
theorem ss_cons {st : Stmt} {rest : List Stmt} {a b : Sv} (h1 : SS X W st a) (h2 : SSs X W rest b) : SSs X W (st :: rest) (sSeq a b) := by
  refine (pss_cons h1 h2).imp fun D σ H ⟨ρ, μ, α, F, r, re, q⟩ => ?_
  exact ⟨ρ, μ, α, F, r, re, gp_seq (E := fun _ _ _ => False) q⟩
theorem ss_one {st : Stmt} {a : Sv} (h1 : SS X W st a) : SSs X W [st] a := pss_one h1
theorem ss_expr {e : Expr} {f : Ev} {pos : Pos} (he : SE X W e f) (hs : swapsWith e none pos.line X.env = pure false) : SS X W (.Expr e pos) (sExpr f) := by
  refine (ps_expr he hs).imp fun D σ H ⟨ρ, μ, α, F, r, re, q⟩ => ?_
  exact ⟨ρ, μ, α, F, r, re, (gp_lift re q).mono fun w μ1 α1 F1 H1 x1 r1 q1 v rv => q1.now r1 σ (re.ext x1)⟩
theorem ss_ret {e : Expr} {f : Ev} {pos : Pos} (he : SE X W e f) : SS X W (.Return (some e) pos) (sRet f) := by
  refine (ps_ret he).imp fun D σ H ⟨ρ, μ, α, F, r, re, q⟩ => ?_
  exact ⟨ρ, μ, α, F, r, re, (gp_lift re q).mono fun w μ1 α1 F1 H1 x1 r1 q1 v rv => q1.now r1 v rv⟩
theorem ss_retN {pos : Pos} : SS X W (.Return none pos) (fun _ μ => .ok (.rt (.d .none)) μ) :=
  ps_retN.imp fun D σ H ⟨ρ, μ, α, F, r, re, q⟩ => q.now r .non .non
theorem ss_retZ {e : Expr} {f : Ev} {pos : Pos} (he : SE X W e f) : SS X W (.Return (some e) pos) (sRetZ f) := by
  refine (ps_ret he).imp fun D σ H ⟨ρ, μ, α, F, r, re, q⟩ => ?_
  refine ⟨ρ, μ, α, F, r, re, (gp_lift re q).bind.mono fun w μ1 α1 F1 H1 x1 r1 q1 v rv => ?_⟩
  cases w with
  | d x => exact gp.now (gp.now (c := Wv.d x) q1 r1) r1 v rv
  | t ds => exact (show False from q1).elim
  | o _ => exact (show False from q1).elim
  | x _ _ _ => exact (show False from q1).elim
  | r k =>
    have q2 : gp X.K X.mg α1 F1 H1 (match μ1[k]? with
      | some (some c) => Out.ok (Wv.d (.list c)) (μ1.set k none)
      | _ => .bad) _ _ := q1
    split at q2
    · rename_i c e
      obtain ⟨F2, r2, x2, h2⟩ := r1.freeze (let ⟨_, _, _, h⟩ := rv; h) e
      exact gp.now (q2.at x2 r2) r2 v (h2 v rv)
    · exact q2.elim
theorem ss_if {c : Expr} {a b : List Stmt} {fc : Bv} {fa fb : Sv} {pos : Pos} (hc : ST X W c fc) (ha : SSs X W a fa) (hb : SSs X W b fb) : SS X W (.If c a b pos) (sIf fc fa fb) := by
  refine (ps_if hc ha hb).imp fun D σ H ⟨ρ, μ, α, F, r, re, q⟩ => ?_
  refine ⟨ρ, μ, α, F, r, re, (gp_lift re q).mono fun t μ1 α1 F1 H1 x1 r1 q1 => ?_⟩
  cases t with
  | true => exact ⟨ρ, μ1, α1, F1, r1, re.ext x1, q1⟩
  | false => exact ⟨ρ, μ1, α1, F1, r1, re.ext x1, q1⟩

/-! targets -/
theorem sg_name {i : Nat} {x : Str} {pos : Pos} (hN : X.N.Nodup) (hi : X.N[i]? = some x) (hx : Loc X.env.scope x) (hf : X.fn x = true ∨ X.env.scope.names.lookup x = some .local) : SG X (.Name x pos) (gNm i) :=
  (pg_name hN hi hx hf).imp fun v σ H Q ⟨ρ, μ, α, F, w, r, re, rv, q⟩ => q.now r _ (re.set i rv)
def tGs' (K : PySem.W.Frag) (mg : Str → Option Value) (ts : List Gv) : TGs := fun vs σ H Q => ∃ ρ μ α F ws, Rep K α F μ H ∧ RepE K α F ρ σ ∧ Rws K α F vs ws ∧ gp K mg α F H (gSeq ts ws ρ μ) (fun ρ' _ α' F' H' => ∀ σ', RepE K α' F' ρ' σ' → Q σ' H') (fun _ _ _ => False)
abbrev SGs (X : Cx) (es : List Expr) (ts : List Gv) : Prop := PGs X es (tGs' X.K X.mg ts)
theorem _root_.L2.PGs.imp {es : List Expr} {t t' : TGs} (h : PGs X es t) (i : ∀ vs σ H Q, t' vs σ H Q → t vs σ H Q) : PGs X es t' := ⟨fun pins s σ H vs us Q I r q => h.run pins s σ H vs us Q I r (i _ _ _ _ q)⟩
theorem sgs_nil : SGs X [] [] := pgs_nil.imp fun vs σ H Q ⟨ρ, μ, α, F, ws, r, re, rv, q⟩ => by
  cases ws with
  | nil =>
    cases rv
    exact ⟨rfl, q.now r σ re⟩
  | cons w ws => exact q.elim
theorem sgs_cons {e : Expr} {es : List Expr} {t : Gv} {ts : List Gv} (h1 : SG X e t) (h2 : SGs X es ts) (hs : (assignEach (e :: es) X.env).map (·.2) = assign e X.env :: (assignEach es X.env).map (·.2)) : SGs X (e :: es) (t :: ts) := by
  refine (pgs_cons h1 h2 hs).imp fun vs σ H Q ⟨ρ, μ, α, F, ws, r, re, rv, q⟩ => ?_
  cases ws with
  | nil => exact q.elim
  | cons w ws =>
    cases rv with
    | cons r1 r2 =>
      refine ⟨_, _, rfl, ρ, μ, α, F, w, r, re, r1, gp.bind q |>.mono fun ρ' μ' α' F' H' x' rp q' σ' re' => ?_⟩
      exact ⟨ρ', μ', α', F', ws, rp, re', Rws.ext r2 x', q'⟩
theorem Rws.of_all {K : PySem.W.Frag} {α : List Addr} {F : Hp} : ∀ {vs : List V} {c : Cell}, DqAll K F vs c → Rws K α F vs (c.map Wv.d)
  | _, _, .nil => .nil
  | _, _, .cons h t => .cons h (Rws.of_all t)
theorem sg_tup {es : List Expr} {k : Nat} {pos : Pos} {ts : List Gv} (hc : X.calm = true) (h : SGs X es ts) (hn : (assignEach es X.env).length = ts.length) (hst : (assignEach es X.env).findIdx? (·.1) = none) : SG X (.Tuple es k pos) (gTp ts) := by
  refine (pg_tup hc h hn hst).imp fun v σ H Q ⟨ρ, μ, α, F, w, r, re, rv, q⟩ => ?_
  unfold gTp at q
  split at q
  · rename_i xs
    split at q
    · rename_i hl
      cases rv with
      | @tup a vs _ t1 d1 => exact ⟨a, vs, rfl, sameT r.sub t1, by rw [d1.length, hl], ρ, μ, α, F, _, r, re, Rws.of_all d1, q⟩
    · exact q.elim
  · exact q.elim
theorem sg_sub {o i : Expr} {pos : Pos} {fo fi : Ev} (ho : SE X (fun _ _ _ _ => False) o fo) (hi : SE X (fun _ _ _ _ => False) i fi) (ha : ∀ v, assign (.Subscript o i pos) X.env v = (do
      let ov ← holding [v] (eval o X.env)
      let iv ← holding [v, ov] (eval i X.env)
      standAt pos
      holding [v, ov, iv] (setItem ov iv v)
      release [v, ov, iv] [])) : SG X (.Subscript o i pos) (gSb fo fi) := by
  refine (pg_sub ho hi set_list ha).imp fun v σ H Q ⟨ρ, μ, α, F, w, r, re, rv, q⟩ => ?_
  refine ⟨ρ, μ, α, F, r, re, q.bind.mono fun ow μ1 α1 F1 H1 x1 r1 q1 ov rov => ?_⟩
  refine ⟨ρ, μ1, α1, F1, r1, re.ext x1, q1.bind.mono fun iw μ2 α2 F2 H2 x2 r2 q2 iv riv => ?_⟩
  have q3 := q2.bind0
  have rw2 : Rw X.K α2 F2 v w := (rv.ext x1).ext x2
  unfold setC at q3
  split at q3
  · rename_i k j y
    split at q3
    · rename_i c ec
      split at q3
      · rename_i n en
        have q4 : gp X.K X.mg α2 F2 H2 (.ok ρ (μ2.set k (some (c.set n y)))) (fun ρ' _ α' F' H' => ∀ σ', RepE X.K α' F' ρ' σ' → Q σ' H') (fun _ _ _ => False) := by
          have z : setC (.r k) (.d (.int j)) (.d y) μ2 = .ok () (μ2.set k (some (c.set n y))) := by
            simp only [setC, ec, en]
          have q5 := q2
          rw [z] at q5
          exact q5
        obtain ⟨b, g1, rfl, hL⟩ := rov.ext x2
        obtain ⟨a, vs, h1, h2, h3, h4⟩ := r2.lcell hL ec
        rw [h1] at g1
        cases g1
        cases riv
        obtain ⟨rw', xw⟩ := r2.write hL ec h1 (h4.set rw2 n)
        exact ⟨_, vs, j, n, rfl, rfl, h2, by rw [h4.length]; exact en, q4.at xw rw' σ (((re.ext x1).ext x2).ext xw)⟩
      · exact q3.elim
    · exact q3.elim
  · exact q3.elim
theorem ss_asg {tg e : Expr} {f : Ev} {t : Gv} {pos : Pos} (he : SE X W e f) (hg : SG X tg t) (hs : swapsWithSole [tg] e pos.line X.env = pure false) (hw : swappedStores [tg] e X.env = pure none) (h1 : (assignEach [tg] X.env).map (·.2) = [assign tg X.env]) :
    SS X W (.Assign [tg] e pos) (sAsg f t) := by
  refine (ps_asg he hg hs hw h1).imp fun D σ H ⟨ρ, μ, α, F, r, re, q⟩ => ?_
  refine ⟨ρ, μ, α, F, r, re, (gp_lift re q).mono fun w μ1 α1 F1 H1 x1 r1 q1 v rv => ?_⟩
  exact ⟨ρ, μ1, α1, F1, w, r1, re.ext x1, rv, q1.bind.calm.mono fun ρ' μ2 α2 F2 H2 x2 r2 q2 σ' re' => q2.now r2 σ' re'⟩
theorem ss_set {i : Nat} {x : Str} {e : Expr} {f : Ev} {pos pos' : Pos} (hN : X.N.Nodup) (hi : X.N[i]? = some x) (hx : Loc X.env.scope x) (he : SE X W e f) (hs : swapsWith e (some (.Name x pos')) pos.line X.env = pure false) (hf : X.fn x = true ∨ X.env.scope.names.lookup x = some .local) :
    SS X W (.Assign [.Name x pos'] e pos) (sAsg f (gNm i)) := by
  refine (ps_set hN hi hx he hs hf).imp fun D σ H ⟨ρ, μ, α, F, r, re, q⟩ => ?_
  refine ⟨ρ, μ, α, F, r, re, (gp_lift re q).mono fun w μ1 α1 F1 H1 x1 r1 q1 v rv => ?_⟩
  exact q1.now r1 _ ((re.ext x1).set i rv)
theorem ss_par {i j : Nat} {x y : Str} {a b : Expr} {as : Av} {px py pt pos : Pos} {kt k2 : Nat} {pt2 : Pos} (hc : X.calm = true) (hN : X.N.Nodup) (hi : X.N[i]? = some x) (hj : X.N[j]? = some y) (hij : i ≠ j) (hx : X.env.scope.names.lookup x = some .local) (hy : X.env.scope.names.lookup y = some .local)
    (ha : SA X W [a, b] as) (hw : swappedStores [.Tuple [.Name x px, .Name y py] kt pt] (.Tuple [a, b] k2 pt2) X.env = pure (some [x, y])) (hs : swapsWithSole [.Tuple [.Name x px, .Name y py] kt pt] (.Tuple [a, b] k2 pt2) pos.line X.env = pure false) :
    SS X W (.Assign [.Tuple [.Name x px, .Name y py] kt pt] (.Tuple [a, b] k2 pt2) pos) (sPar i j as) := by
  refine (ps_par hc hN hi hj hij hx hy ha hw hs).imp fun D σ H ⟨ρ, μ, α, F, r, re, q⟩ => ?_
  refine ⟨ρ, μ, α, F, r, re, (gp_lift re q).mono fun ws μ1 α1 F1 H1 x1 r1 q1 vs rv => ?_⟩
  split at q1
  · obtain ⟨v, v', rfl, d, d'⟩ := rws2 rv
    exact ⟨v, v', rfl, q1.now r1 _ (((re.ext x1).set i d).set j d')⟩
  · exact q1.elim

/-! methods of cells -/
theorem rw_isL {K : PySem.W.Frag} {α : List Addr} {F : Hp} {k : Nat} {v : V} (q : Rw K α F v (.r k)) : isL k := let ⟨_, _, _, h⟩ := q; h
theorem cell_at {K : PySem.W.Frag} {α : List Addr} {F H : Hp} {μ : Mu} {k : Nat} {c : Cell} {v : V} (r : Rep K α F μ H) (e : μ[k]? = some (some c)) (q : Rw K α F v (.r k)) : ∃ a vs, v = .ref a ∧ α[k]? = some a ∧ H a = some (.lst vs) ∧ DqAll K F vs c := by
  obtain ⟨b, g1, rfl, hL⟩ := q
  obtain ⟨a, vs, h1, h2, h3, h4⟩ := r.lcell hL e
  rw [h1] at g1
  cases g1
  exact ⟨_, vs, rfl, h1, h2, h4⟩
section
variable {o e : Expr} {es : List Expr} {apos cpos : Pos} {fo : Ev} {as : Av}
theorem se_app (ho : SE X W o fo) (ha : SA X W (e :: es) as) (hb : attributeBase o "append" X.env (eval o X.env) = eval o X.env)
    (hfew : ((backTo cpos (starEach (e :: es) X.env)).all (fun x => !x.1) && (backToKw cpos (keywordEach [] X.env)).all (fun x => x.1.isSome) && decide ((e :: es).length + ([] : List Keyword).length + (if ([] : List Keyword).isEmpty then 0 else 1) < 30)) = true)
    (hl : (apos.endLine == cpos.line) = true) (hs : starEach (e :: es) X.env = (false, eval e X.env) :: starEach es X.env) (hp : (backTo cpos (starEach es X.env)).any (·.1) = false) :
    SE X W (.Call (.Attribute o "append" apos) (e :: es) [] cpos) (eMeth1 gApp fo as) := by
  refine (pe_bm PySem.F.plainAttrs_list PySem.F.slot_list_append PySem.F.type_list_append mt_append ho ha hb hfew hl hs hp).imp fun σ H Q ⟨ρ, μ, α, F, r, re, q⟩ => ?_
  refine ⟨ρ, μ, α, F, r, re, q.bind.mono fun w μ1 α1 F1 H1 x1 r1 q1 v rv => ?_⟩
  by_cases hw : live w μ1 = true
  · rw [if_pos hw] at q1
    have ty : tyV X.K "list" v H1 := by
      unfold live at hw
      split at hw
      · split at hw
        · rename_i k c ec
          obtain ⟨a, vs, rfl, h1, h2, h4⟩ := cell_at r1 ec rv
          exact .inl ⟨rfl, _, .inl (.inl h2)⟩
        · cases hw
      · cases hw
    refine ⟨ty, ρ, μ1, α1, F1, r1, re.ext x1, q1.bind.mono fun ws μ2 α2 F2 H2 x2 r2 q2 us rus => ?_⟩
    have q3 := q2.calm (X' := fun _ _ _ => False)
    have rv2 := rv.ext x2
    unfold gApp at q3
    split at q3
    · split at q3
      · split at q3
        · rename_i k y _ c ec hl
          obtain ⟨a, vs, rfl, h1, h2, h4⟩ := cell_at r2 ec rv2
          cases rus with
          | cons r1' t1 =>
            cases t1
            have r1' : Dq X.K F2 _ y := r1'
            obtain ⟨rw', xw⟩ := r2.write (rw_isL rv2) ec h1 (h4.append (.cons r1' .nil))
            exact ⟨a, vs, _, rfl, rfl, h2, by rw [h4.length, sizeLine_eq]; exact hl, q3.at xw rw' _ .non⟩
        · exact q3.elim
      · exact q3.elim
    · exact q3.elim
  · rw [if_neg hw] at q1
    exact q1.elim
theorem se_pop (ho : SE X W o fo) (hb : attributeBase o "pop" X.env (eval o X.env) = eval o X.env) (hl : (apos.endLine == cpos.line) = true) :
    SE X W (.Call (.Attribute o "pop" apos) [] [] cpos) (e1 gPop fo) := by
  refine (pe_bm0 PySem.F.plainAttrs_list PySem.F.slot_list_pop PySem.F.type_list_pop mt_pop ho hb hl).imp fun σ H Q ⟨ρ, μ, α, F, r, re, q⟩ => ?_
  refine ⟨ρ, μ, α, F, r, re, q.bind.mono fun w μ1 α1 F1 H1 x1 r1 q1 v rv => ?_⟩
  have q2 := q1.calm (X' := fun _ _ _ => False)
  unfold gPop at q2
  split at q2
  · split at q2
    · rename_i k c ec
      split at q2
      · rename_i y ey
        obtain ⟨a, vs, rfl, h1, h2, h4⟩ := cell_at r1 ec rv
        obtain ⟨y', e1, dy⟩ := h4.get ey
        obtain ⟨rw', xw⟩ := r1.write (rw_isL rv) ec h1 h4.dropLast
        refine ⟨.inl ⟨rfl, _, .inl (.inl h2)⟩, a, vs, y', rfl, rfl, h2, by rw [h4.length]; exact e1, q2.at xw rw' _ (dy.mono xw.fro)⟩
      · exact q2.elim
    · exact q2.elim
  · exact q2.elim
end
end
end TL
/-! TL9: what is walked over; for, while, list comprehensions. -/
namespace TL
variable [TabN]
open PySem PySem.Spec L2 PyProof.Rows RZ

/-- the items, and the cells that must not change meanwhile -/
structure Its where
  xs : Cell
  tie : List (Nat × Cell)
abbrev Iv := Rho → Mu → Out Its
def tied (i : Its) (μ : Mu) : Prop := ∀ p ∈ i.tie, μ[p.1]? = some (some p.2)
/-- as Ext, nothing said of other objects -/
structure ExtW (α : List Addr) (F : Hp) (α' : List Addr) (F' : Hp) : Prop where
  pre : ∃ β, α' = α ++ β
  fro : Same F F'
theorem Ext.w {α α' : List Addr} {F F' H H' : Hp} (e : Ext α F H α' F' H') : ExtW α F α' F' := ⟨e.pre, e.fro⟩
theorem ExtW.refl {α : List Addr} {F : Hp} : ExtW α F α F := ⟨⟨[], by simp⟩, Same.refl _⟩
theorem ExtW.trans {α α' α'' : List Addr} {F F' F'' : Hp} (e : ExtW α F α' F') (e' : ExtW α' F' α'' F'') : ExtW α F α'' F'' :=
  ⟨let ⟨β, h⟩ := e.pre; let ⟨γ, h'⟩ := e'.pre; ⟨β ++ γ, by rw [h', h, List.append_assoc]⟩, e.fro.trans e'.fro⟩
structure JOk (K : PySem.W.Frag) (α0 : List Addr) (F0 H0 : Hp) (J : It) (i : Its) : Prop where
  at_ : ∀ α F μ H, Rep K α F μ H → ExtW α0 F0 α F → tied i μ →
    (∀ n, n < i.xs.length → J.go n H) ∧ (∀ n, i.xs.length ≤ n → J.stop n H) ∧ ∀ n d x H', i.xs[n]? = some d → J.yld n H x H' → ∃ F', Rep K α F' μ H' ∧ Ext α F H α F' H' ∧ Dq K F' x d
def tI (K : PySem.W.Frag) (mg : Str → Option Value) (W : WX) (f : Iv) : TI := fun σ H R => ∃ ρ μ α F, Rep K α F μ H ∧ RepE K α F ρ σ ∧ gp K mg α F H (f ρ μ) (fun i _ α' F' H' => ∀ J, JOk K α' F' H' J i → R J H') (fun c d H' => W c d σ H')
abbrev SI (X : Cx) (W : WX) (tg e : Expr) (f : Iv) : Prop := PI X tg e (tI X.K X.mg W f)
theorem _root_.L2.PI.imp {X : Cx} {tg e : Expr} {t t' : TI} (h : PI X tg e t) (i : ∀ σ H R, t' σ H R → t σ H R) : PI X tg e t' := ⟨fun pins s σ H R I q => h.run pins s σ H R I (i _ _ _ q)⟩

/-! ### any list, tuple, text -/
def iDyn (K : PySem.W.Frag) (te : TE) : TI := fun σ H R => te σ H fun v H1 =>
  (∃ a, v = .ref a ∧ (∃ xs, SqL K H1 a xs) ∧ R (Itl K a) H1) ∨ (∃ a, v = .ref a ∧ (∃ xs, SqT K H1 a xs) ∧ R (Itt K a) H1) ∨ ∃ x, v = .str x ∧ R (L2.Its x) H1
theorem pi_dyn {X : Cx} {tg e : Expr} {te : TE} (he : PE X e te) : PI X tg e (iDyn X.K te) := by
  refine ⟨fun pins s σ H R I h => ?_⟩
  refine thn (he.run pins s σ H _ I h) fun v s1 ⟨y, H1, I1, r1, q1⟩ => ?_
  rcases q1 with ⟨a, rfl, ⟨xs, hq⟩, q⟩ | ⟨a, rfl, ⟨xs, hq⟩, q⟩ | ⟨x, rfl, q⟩
  · cases r1
    obtain ⟨its, rv, p, hz⟩ := I1.list hq
    refine wpAny_pyIter_list p.isList ?_
    exact pi_one (tk := s1.toks) I1 _ (turn_list a _) ⟨_, Heap.get?_push_size _ rfl, rfl, rfl⟩ q
  · cases r1
    obtain ⟨its, rv, p, hz⟩ := I1.tuple hq
    refine wpAny_pyIter_tuple (show s1.heap.IsTuple a its.toArray from p) ?_
    exact pi_one (tk := s1.toks) I1 _ (turn_tuple a _) ⟨_, Heap.get?_push_size _ rfl, rfl, rfl⟩ q
  · obtain ⟨t, rfl⟩ := r1
    cases ha : x.cps.all (· < 128)
    · exact wpAny_pyIter_wide ha (pi_one (tk := s1.toks) I1 _ (turn_str _ x t "str_iterator" (.inr rfl)) ⟨_, Heap.get?_push_size _ rfl, rfl, rfl⟩ q)
    · exact wpAny_pyIter_ascii ha (pi_one (tk := s1.toks) I1 _ (turn_str _ x t "str_ascii_iterator" (.inl rfl)) ⟨_, Heap.get?_push_size _ rfl, rfl, rfl⟩ q)
def strL (x : Str) : Cell := x.cps.toList.map fun c => .str ⟨#[c]⟩
def itsOf (w : Wv) (μ : Mu) : Option Its :=
  match w with
  | .d (.list c) => some ⟨c, []⟩
  | .d (.tuple c) => some ⟨c, []⟩
  | .d (.str x) => some ⟨strL x, []⟩
  | .r k => match μ[k]? with
    | some (some c) => some ⟨c, [(k, c)]⟩
    | _ => none
  | _ => none
def oOf {γ : Type} (o : Option γ) (μ : Mu) : Out γ := match o with
  | some c => .ok c μ
  | none => .bad
def iAny (f : Ev) : Iv := fun ρ μ => (f ρ μ).bind fun w μ1 => oOf (itsOf w μ1) μ1
section
variable {K : PySem.W.Frag} {α0 : List Addr} {F0 H0 : Hp}
theorem jok_list {a : Addr} {vs : List V} {c : Cell} (hF : Ls K F0 a vs) (d : DqAll K F0 vs c) : JOk K α0 F0 H0 (Itl K a) ⟨c, []⟩ := by
  refine ⟨fun α F μ H r e t => ?_⟩
  have hs : SqL K H a vs := (sameL (e.fro.trans r.sub) hF).sq
  have d' := d.mono e.fro
  refine ⟨fun n hn => ?_, fun n hn => ⟨vs, hs, by rw [d'.length]; exact hn⟩, fun n y x H' hy hyl => ?_⟩
  · have hn' : n < vs.length := by rw [d'.length]; exact hn
    exact ⟨vs, vs[n], hs, List.getElem?_eq_getElem hn'⟩
  · obtain ⟨rfl, q⟩ := hyl
    obtain ⟨v, e1, e2⟩ := d'.get hy
    have := q vs hs
    rw [e1] at this
    cases this
    exact ⟨F, r, .refl, e2⟩
theorem jok_tup {a : Addr} {vs : List V} {c : Cell} (hF : SqT K F0 a vs) (d : DqAll K F0 vs c) : JOk K α0 F0 H0 (Itt K a) ⟨c, []⟩ := by
  refine ⟨fun α F μ H r e t => ?_⟩
  have hs : SqT K H a vs := sameT (e.fro.trans r.sub) hF
  have d' := d.mono e.fro
  refine ⟨fun n hn => ?_, fun n hn => ⟨vs, hs, by rw [d'.length]; exact hn⟩, fun n y x H' hy hyl => ?_⟩
  · have hn' : n < vs.length := by rw [d'.length]; exact hn
    exact ⟨vs, vs[n], hs, List.getElem?_eq_getElem hn'⟩
  · obtain ⟨rfl, q⟩ := hyl
    obtain ⟨v, e1, e2⟩ := d'.get hy
    have := q vs hs
    rw [e1] at this
    cases this
    exact ⟨F, r, .refl, e2⟩
theorem jok_cell {a : Addr} {k : Nat} {c : Cell} (hL : isL k) (ha : α0[k]? = some a) : JOk K α0 F0 H0 (Itl K a) ⟨c, [(k, c)]⟩ := by
  refine ⟨fun α F μ H r e t => ?_⟩
  have tk : μ[k]? = some (some c) := t (k, c) List.mem_cons_self
  obtain ⟨b, vs, h1, h2, h3, d'⟩ := r.lcell hL tk
  obtain ⟨β, rfl⟩ := e.pre
  rw [List.getElem?_append_left (List.getElem?_eq_some_iff.mp ha).1, ha] at h1
  cases h1
  have hs : SqL K H a vs := .inl (.inl h2)
  refine ⟨fun n hn => ?_, fun n hn => ⟨vs, hs, by rw [d'.length]; exact hn⟩, fun n y x H' hy hyl => ?_⟩
  · have hn' : n < vs.length := by rw [d'.length]; exact hn
    exact ⟨vs, vs[n], hs, List.getElem?_eq_getElem hn'⟩
  · obtain ⟨rfl, q⟩ := hyl
    obtain ⟨v, e1, e2⟩ := d'.get hy
    have := q vs hs
    rw [e1] at this
    cases this
    exact ⟨F, r, .refl, e2⟩
theorem strL_get {x : Str} {n : Nat} {c : Nat} (h : x.cps[n]? = some c) : (strL x)[n]? = some (.str ⟨#[c]⟩) := by
  unfold strL
  rw [List.getElem?_map, Array.getElem?_toList, h]
  rfl
theorem strL_len {x : Str} : (strL x).length = x.cps.size := by
  unfold strL
  rw [List.length_map, Array.length_toList]
theorem jok_str {x : Str} : JOk K α0 F0 H0 (L2.Its x) ⟨strL x, []⟩ := by
  refine ⟨fun α F μ H r e t => ⟨fun n hn => ?_, fun n hn => ?_, fun n y v H' hy hyl => ?_⟩⟩
  · rw [strL_len] at hn
    exact hn
  · rw [strL_len] at hn
    exact hn
  · obtain ⟨rfl, c, hc, rfl⟩ := hyl
    have := strL_get hc
    rw [this] at hy
    cases hy
    exact ⟨F, r, .refl, .str _⟩
end
section
variable {X : Cx} {W : WX} {tg : Expr}
theorem si_any {e : Expr} {f : Ev} (he : SE X W e f) : SI X W tg e (iAny f) := by
  refine (pi_dyn he).imp fun σ H R ⟨ρ, μ, α, F, r, re, q⟩ => ?_
  refine ⟨ρ, μ, α, F, r, re, q.bind.mono fun w μ1 α1 F1 H1 x1 r1 q1 v rv => ?_⟩
  unfold itsOf at q1
  split at q1
  · have rv : Dq X.K F1 v _ := rv
    cases rv with
    | lst h d => exact .inl ⟨_, rfl, ⟨_, (sameL r1.sub h).sq⟩, q1.now r1 _ (jok_list h d)⟩
  · have rv : Dq X.K F1 v _ := rv
    cases rv with
    | tup h d => exact .inr (.inl ⟨_, rfl, ⟨_, sameT r1.sub h⟩, q1.now r1 _ (jok_tup h d)⟩)
  · have rv : Dq X.K F1 v _ := rv
    cases rv
    exact .inr (.inr ⟨_, rfl, q1.now r1 _ jok_str⟩)
  · split at q1
    · rename_i k c ec
      obtain ⟨a, vs, rfl, h1, h2, h4⟩ := cell_at r1 ec rv
      exact .inl ⟨_, rfl, ⟨_, .inl (.inl h2)⟩, q1.now r1 _ (jok_cell (rw_isL rv) h1)⟩
    · exact q1.elim
  · exact q1.elim

/-! ### range, enumerate, zip -/
def intL (lo : Int) (n : Nat) (c : Int) : Cell := (List.range n).map fun (i : Nat) => .int (lo + (i : Int) * c)
theorem intL_len {lo c : Int} {n : Nat} : (intL lo n c).length = n := by
  unfold intL
  rw [List.length_map, List.length_range]
theorem intL_get {lo c : Int} {n i : Nat} {d : PyData} (h : (intL lo n c)[i]? = some d) : d = .int (lo + (i : Int) * c) := by
  unfold intL at h
  rw [List.getElem?_map] at h
  cases e : (List.range n)[i]? with
  | none =>
    rw [e] at h
    cases h
  | some j =>
    rw [e] at h
    have := (List.getElem?_eq_some_iff.mp e).2
    rw [List.getElem_range] at this
    subst this
    cases h
    rfl
theorem jok_rng {K : PySem.W.Frag} {α0 : List Addr} {F0 H0 : Hp} {lo : Int} {n : Nat} : JOk K α0 F0 H0 (Itr lo n) ⟨intL lo n 1, []⟩ := by
  refine ⟨fun α F μ H r e t => ⟨fun i hn => ?_, fun i hn => ?_, fun i y v H' hy hyl => ?_⟩⟩
  · rw [intL_len] at hn
    exact hn
  · rw [intL_len] at hn
    exact hn
  · obtain ⟨rfl, rfl⟩ := hyl
    rw [intL_get hy, Int.mul_one]
    exact ⟨F, r, .refl, .int _⟩
theorem jok_rngC {K : PySem.W.Frag} {α0 : List Addr} {F0 H0 : Hp} {lo c : Int} {n : Nat} : JOk K α0 F0 H0 (Itc lo c n) ⟨intL lo n c, []⟩ := by
  refine ⟨fun α F μ H r e t => ⟨fun i hn => ?_, fun i hn => ?_, fun i y v H' hy hyl => ?_⟩⟩
  · rw [intL_len] at hn
    exact hn
  · rw [intL_len] at hn
    exact hn
  · obtain ⟨rfl, rfl⟩ := hyl
    rw [intL_get hy]
    exact ⟨F, r, .refl, .int _⟩
noncomputable def smallI (j : Int) : Bool := @decide (-4611686018427387904 ≤ j) (Classical.propDecidable _) && @decide (j < 4611686018427387904) (Classical.propDecidable _)
theorem smallI_ok {j : Int} (h : smallI j = true) : -(2 ^ 62) ≤ j ∧ j < 2 ^ 62 := by
  unfold smallI at h
  rw [Bool.and_eq_true] at h
  have h1 := @of_decide_eq_true _ (Classical.propDecidable _) h.1
  have h2 := @of_decide_eq_true _ (Classical.propDecidable _) h.2
  exact ⟨by omega, by omega⟩
theorem smallI_is {j : Int} (h1 : -4611686018427387904 ≤ j) (h2 : j < 4611686018427387904) : smallI j = true := by
  unfold smallI
  rw [Bool.and_eq_true]
  exact ⟨@decide_eq_true _ (Classical.propDecidable _) h1, @decide_eq_true _ (Classical.propDecidable _) h2⟩
noncomputable def iR1 (as : Av) : Iv := fun ρ μ => (as ρ μ).bind fun ws μ1 => match ws with
  | [.d (.int j)] => if smallI j = true then .ok ⟨intL 0 j.toNat 1, []⟩ μ1 else .bad
  | _ => .bad
noncomputable def iR2 (as : Av) : Iv := fun ρ μ => (as ρ μ).bind fun ws μ1 => match ws with
  | [.d (.int i), .d (.int j)] => if (smallI i && smallI j) = true then .ok ⟨intL i (j - i).toNat 1, []⟩ μ1 else .bad
  | _ => .bad
/-- downwards -/
noncomputable def iR3 (as : Av) : Iv := fun ρ μ => (as ρ μ).bind fun ws μ1 => match ws with
  | [.d (.int i), .d (.int j), .d (.int (-1))] => if (smallI i && smallI j) = true then .ok ⟨intL i (i - j).toNat (-1), []⟩ μ1 else .bad
  | _ => .bad
theorem si_r1 {a : Expr} {as : Av} {p pos : Pos} (hg : Gl X "range") (hm : X.mg "range" = none) (ha : SA X W [a] as) (hs : starEach [a] X.env = [(false, eval a X.env)]) : SI X W tg (.Call (.Name "range" p) [a] [] pos) (iR1 as) := by
  refine (pi_range1 hg hm ha hs).imp fun σ H R ⟨ρ, μ, α, F, r, re, q⟩ => ?_
  refine ⟨ρ, μ, α, F, r, re, q.bind.mono fun ws μ1 α1 F1 H1 x1 r1 q1 vs rv => ?_⟩
  split at q1
  · rename_i j
    split at q1
    · rename_i h
      cases rv with
      | cons a1 t1 =>
        cases t1
        cases a1
        obtain ⟨h1, h2⟩ := smallI_ok h
        exact ⟨j, rfl, h1, h2, q1.now r1 _ jok_rng⟩
    · exact q1.elim
  · exact q1.elim
theorem si_r2 {a b : Expr} {as : Av} {p pos : Pos} (hg : Gl X "range") (hm : X.mg "range" = none) (ha : SA X W [a, b] as) (hs : starEach [a, b] X.env = [(false, eval a X.env), (false, eval b X.env)]) (hs2 : starEach [b] X.env = [(false, eval b X.env)]) :
    SI X W tg (.Call (.Name "range" p) [a, b] [] pos) (iR2 as) := by
  refine (pi_range2 hg hm ha hs hs2).imp fun σ H R ⟨ρ, μ, α, F, r, re, q⟩ => ?_
  refine ⟨ρ, μ, α, F, r, re, q.bind.mono fun ws μ1 α1 F1 H1 x1 r1 q1 vs rv => ?_⟩
  split at q1
  · rename_i i j
    split at q1
    · rename_i h
      rw [Bool.and_eq_true] at h
      cases rv with
      | cons a1 t1 =>
        cases t1 with
        | cons a2 t2 =>
          cases t2
          cases a1
          cases a2
          obtain ⟨h1, h2⟩ := smallI_ok h.1
          obtain ⟨h3, h4⟩ := smallI_ok h.2
          exact ⟨i, j, rfl, ⟨h1, h2, h3, h4⟩, q1.now r1 _ jok_rng⟩
    · exact q1.elim
  · exact q1.elim
theorem si_r3 {a b c : Expr} {as : Av} {p pos : Pos} (hg : Gl X "range") (hm : X.mg "range" = none) (ha : SA X W [a, b, c] as)
    (hs : starEach [a, b, c] X.env = (false, eval a X.env) :: starEach [b, c] X.env) (hpl : (backTo pos (starEach [b, c] X.env)).any (·.1) = false) :
    SI X W tg (.Call (.Name "range" p) [a, b, c] [] pos) (iR3 as) := by
  refine (pi_range3 hg hm ha hs hpl).imp fun σ H R ⟨ρ, μ, α, F, r, re, q⟩ => ?_
  refine ⟨ρ, μ, α, F, r, re, q.bind.mono fun ws μ1 α1 F1 H1 x1 r1 q1 vs rv => ?_⟩
  split at q1
  · rename_i i j
    split at q1
    · rename_i h
      rw [Bool.and_eq_true] at h
      cases rv with
      | cons a1 t1 =>
        cases t1 with
        | cons a2 t2 =>
          cases t2 with
          | cons a3 t3 =>
            cases t3
            cases a1
            cases a2
            cases a3
            obtain ⟨h1, h2⟩ := smallI_ok h.1
            obtain ⟨h3, h4⟩ := smallI_ok h.2
            exact ⟨i, j, -1, _, rfl, .neg h1 h2 h3 h4, q1.now r1 _ jok_rngC⟩
    · exact q1.elim
  · exact q1.elim
/-- a list: its items, its ties -/
def lstOf (w : Wv) (μ : Mu) : Option Its :=
  match w with
  | .d (.list c) => some ⟨c, []⟩
  | .r k => match μ[k]? with
    | some (some c) => some ⟨c, [(k, c)]⟩
    | _ => none
  | _ => none
def tupOf (w : Wv) : Option Its :=
  match w with
  | .d (.tuple c) => some ⟨c, []⟩
  | _ => none
/-- what is known of a list while it is tied -/
structure LKn (K : PySem.W.Frag) (α0 : List Addr) (F0 H0 : Hp) (a : Addr) (i : Its) : Prop where
  at_ : ∀ α F μ H, Rep K α F μ H → ExtW α0 F0 α F → tied i μ → ∃ vs, SqL K H a vs ∧ DqAll K F vs i.xs
theorem lkn {K : PySem.W.Frag} {α : List Addr} {F H : Hp} {μ : Mu} {w : Wv} {v : V} {i : Its} (r : Rep K α F μ H) (rv : Rw K α F v w) (e : lstOf w μ = some i) : ∃ a, v = .ref a ∧ (∃ vs, SqL K H a vs) ∧ LKn K α F H a i := by
  unfold lstOf at e
  split at e
  · cases e
    have rv : Dq K F v _ := rv
    cases rv with
    | lst h d => exact ⟨_, rfl, ⟨_, (sameL r.sub h).sq⟩, ⟨fun α' F' μ' H' r' x t => ⟨_, (sameL (x.fro.trans r'.sub) h).sq, d.mono x.fro⟩⟩⟩
  · split at e
    · rename_i k _ c ec
      cases e
      obtain ⟨a, vs, rfl, h1, h2, h4⟩ := cell_at r ec rv
      refine ⟨a, rfl, ⟨_, .inl (.inl h2)⟩, ⟨fun α' F' μ' H' r' x t => ?_⟩⟩
      have tk : μ'[k]? = some (some c) := t (k, c) List.mem_cons_self
      obtain ⟨b, us, g1, g2, g3, d'⟩ := r'.lcell (rw_isL rv) tk
      obtain ⟨β, rfl⟩ := x.pre
      rw [List.getElem?_append_left (List.getElem?_eq_some_iff.mp h1).1, h1] at g1
      cases g1
      exact ⟨us, .inl (.inl g2), d'⟩
    · cases e
  · cases e
structure TKn (K : PySem.W.Frag) (α0 : List Addr) (F0 H0 : Hp) (a : Addr) (i : Its) : Prop where
  at_ : ∀ α F μ H, Rep K α F μ H → ExtW α0 F0 α F → tied i μ → ∃ vs, SqT K H a vs ∧ DqAll K F vs i.xs
theorem tkn {K : PySem.W.Frag} {α : List Addr} {F H : Hp} {μ : Mu} {w : Wv} {v : V} {i : Its} (r : Rep K α F μ H) (rv : Rw K α F v w) (e : tupOf w = some i) : ∃ a, v = .ref a ∧ (∃ vs, SqT K H a vs) ∧ TKn K α F H a i := by
  unfold tupOf at e
  split at e
  · cases e
    have rv : Dq K F v _ := rv
    cases rv with
    | tup h d => exact ⟨_, rfl, ⟨_, sameT r.sub h⟩, ⟨fun α' F' μ' H' r' x t => ⟨_, sameT (x.fro.trans r'.sub) h, d.mono x.fro⟩⟩⟩
  · cases e
def enumL (c : Cell) : Cell := c.mapIdx fun n x => .tuple [.int n, x]
def zipL (c d : Cell) : Cell := List.zipWith (fun x y => PyData.tuple [x, y]) c d
def iEnumS (as : Av) : Iv := fun ρ μ => (as ρ μ).bind fun ws μ1 => match ws with
  | [w] => (oOf (lstOf w μ1) μ1).bind fun i μ2 => .ok ⟨enumL i.xs, i.tie⟩ μ2
  | _ => .bad
theorem tied_app {xs ys : Cell} {t1 t2 : List (Nat × Cell)} {μ : Mu} {zs : Cell} (h : tied ⟨zs, t1 ++ t2⟩ μ) : tied ⟨xs, t1⟩ μ ∧ tied ⟨ys, t2⟩ μ :=
  ⟨fun p hp => h p (List.mem_append_left _ hp), fun p hp => h p (List.mem_append_right _ hp)⟩
theorem jok_enum {K : PySem.W.Frag} {α0 : List Addr} {F0 H0 : Hp} {a : Addr} {i : Its} (k : LKn K α0 F0 H0 a i) : JOk K α0 F0 H0 (Ite K a) ⟨enumL i.xs, i.tie⟩ := by
  refine ⟨fun α F μ H r e t => ?_⟩
  obtain ⟨vs, hs, d⟩ := k.at_ α F μ H r e t
  have hl : (enumL i.xs).length = i.xs.length := by unfold enumL; rw [List.length_mapIdx]
  refine ⟨fun n hn => ?_, fun n hn => ⟨vs, hs, by rw [d.length, ← hl]; exact hn⟩, fun n y x H' hy hyl => ?_⟩
  · have hn' : n < vs.length := by rw [d.length, ← hl]; exact hn
    exact ⟨vs, vs[n], hs, List.getElem?_eq_getElem hn'⟩
  · obtain ⟨T, u, rfl, hT, rfl, q⟩ := hyl
    have hu := q vs hs
    obtain ⟨z, hz, dz⟩ := d.getV hu
    have hy : (enumL i.xs)[n]? = some y := hy
    unfold enumL at hy
    rw [List.getElem?_mapIdx, hz] at hy
    cases hy
    obtain ⟨r2, x2⟩ := r.new (o := .tup [.int (n : Nat), u]) hT
    exact ⟨_, r2, x2, .tup (.inl (.inl upd_same)) (.cons (.int _) (.cons (dz.mono x2.fro) .nil))⟩
theorem si_enum {e : Expr} {as : Av} {p pos tpos : Pos} {elts : List Expr} {kk : Nat} (hg : Gl X "enumerate") (hm : X.mg "enumerate" = none) (ha : SA X W [e] as) (hs : starEach [e] X.env = [(false, eval e X.env)]) :
    SI X W (.Tuple elts kk tpos) (.Call (.Name "enumerate" p) [e] [] pos) (iEnumS as) := by
  refine (pi_enum hg hm ha hs).imp fun σ H R ⟨ρ, μ, α, F, r, re, q⟩ => ?_
  refine ⟨ρ, μ, α, F, r, re, q.bind.mono fun ws μ1 α1 F1 H1 x1 r1 q1 vs rv => ?_⟩
  split at q1
  · rename_i w
    cases rv with
    | cons a1 t1 =>
      cases t1
      cases e1 : lstOf w μ1 with
      | none =>
        rw [e1] at q1
        exact q1.elim
      | some i =>
        rw [e1] at q1
        obtain ⟨a, rfl, ⟨us, hu⟩, k⟩ := lkn r1 a1 e1
        exact ⟨a, us, rfl, hu, gp.now (c := (⟨enumL i.xs, i.tie⟩ : Its)) q1 r1 _ (jok_enum k)⟩
  · exact q1.elim
def iZipS (as : Av) : Iv := fun ρ μ => (as ρ μ).bind fun ws μ1 => match ws with
  | [w, u] => match lstOf w μ1, lstOf u μ1, tupOf w, tupOf u with
    | some i, some j, _, _ => .ok ⟨zipL i.xs j.xs, i.tie ++ j.tie⟩ μ1
    | _, _, some i, some j => .ok ⟨zipL i.xs j.xs, i.tie ++ j.tie⟩ μ1
    | _, _, _, _ => .bad
  | _ => .bad
theorem zipL_len {c d : Cell} : (zipL c d).length = min c.length d.length := by unfold zipL; rw [List.length_zipWith]
theorem jok_zip {K : PySem.W.Frag} {α0 : List Addr} {F0 H0 : Hp} {a b : Addr} {i j : Its} (k : LKn K α0 F0 H0 a i) (k2 : LKn K α0 F0 H0 b j) : JOk K α0 F0 H0 (Itz K a b) ⟨zipL i.xs j.xs, i.tie ++ j.tie⟩ := by
  refine ⟨fun α F μ H r e t => ?_⟩
  obtain ⟨t1, t2⟩ := tied_app (xs := i.xs) (ys := j.xs) t
  obtain ⟨vs, hs, d⟩ := k.at_ α F μ H r e t1
  obtain ⟨us, hs2, d2⟩ := k2.at_ α F μ H r e t2
  have hl := zipL_len (c := i.xs) (d := j.xs)
  have l1 := d.length
  have l2 := d2.length
  refine ⟨fun n hn => ?_, fun n hn => ⟨vs, us, hs, hs2, ?_⟩, fun n y x H' hy hyl => ?_⟩
  · have hn : n < (zipL i.xs j.xs).length := hn
    have hn1 : n < vs.length := by omega
    have hn2 : n < us.length := by omega
    exact ⟨vs, us, vs[n], us[n], hs, hs2, List.getElem?_eq_getElem hn1, List.getElem?_eq_getElem hn2⟩
  · have hn : (zipL i.xs j.xs).length ≤ n := hn
    omega
  · obtain ⟨T, u, u2, rfl, hT, rfl, q, q2⟩ := hyl
    obtain ⟨z, hz, dz⟩ := d.getV (q vs hs)
    obtain ⟨z2, hz2, dz2⟩ := d2.getV (q2 us hs2)
    have hy : (zipL i.xs j.xs)[n]? = some y := hy
    unfold zipL at hy
    rw [List.getElem?_zipWith, hz, hz2] at hy
    cases hy
    obtain ⟨r2, x2⟩ := r.new (o := .tup [u, u2]) hT
    exact ⟨_, r2, x2, .tup (.inl (.inl upd_same)) (.cons (dz.mono x2.fro) (.cons (dz2.mono x2.fro) .nil))⟩
theorem jok_zipT {K : PySem.W.Frag} {α0 : List Addr} {F0 H0 : Hp} {a b : Addr} {i j : Its} (k : TKn K α0 F0 H0 a i) (k2 : TKn K α0 F0 H0 b j) : JOk K α0 F0 H0 (ItzT K a b) ⟨zipL i.xs j.xs, i.tie ++ j.tie⟩ := by
  refine ⟨fun α F μ H r e t => ?_⟩
  obtain ⟨t1, t2⟩ := tied_app (xs := i.xs) (ys := j.xs) t
  obtain ⟨vs, hs, d⟩ := k.at_ α F μ H r e t1
  obtain ⟨us, hs2, d2⟩ := k2.at_ α F μ H r e t2
  have hl := zipL_len (c := i.xs) (d := j.xs)
  have l1 := d.length
  have l2 := d2.length
  refine ⟨fun n hn => ?_, fun n hn => ⟨vs, us, hs, hs2, ?_⟩, fun n y x H' hy hyl => ?_⟩
  · have hn : n < (zipL i.xs j.xs).length := hn
    have hn1 : n < vs.length := by omega
    have hn2 : n < us.length := by omega
    exact ⟨vs, us, vs[n], us[n], hs, hs2, List.getElem?_eq_getElem hn1, List.getElem?_eq_getElem hn2⟩
  · have hn : (zipL i.xs j.xs).length ≤ n := hn
    omega
  · obtain ⟨T, u, u2, rfl, hT, rfl, q, q2⟩ := hyl
    obtain ⟨z, hz, dz⟩ := d.getV (q vs hs)
    obtain ⟨z2, hz2, dz2⟩ := d2.getV (q2 us hs2)
    have hy : (zipL i.xs j.xs)[n]? = some y := hy
    unfold zipL at hy
    rw [List.getElem?_zipWith, hz, hz2] at hy
    cases hy
    obtain ⟨r2, x2⟩ := r.new (o := .tup [u, u2]) hT
    exact ⟨_, r2, x2, .tup (.inl (.inl upd_same)) (.cons (dz.mono x2.fro) (.cons (dz2.mono x2.fro) .nil))⟩
theorem si_zip {e e2 : Expr} {as : Av} {p pos tpos : Pos} {elts : List Expr} {kk : Nat} (hg : Gl X "zip") (hm : X.mg "zip" = none) (ha : SA X W [e, e2] as)
    (hs : starEach [e, e2] X.env = (false, eval e X.env) :: starEach [e2] X.env) (hpl : (backTo pos (starEach [e2] X.env)).any (·.1) = false) :
    SI X W (.Tuple elts kk tpos) (.Call (.Name "zip" p) [e, e2] [] pos) (iZipS as) := by
  refine (pi_zipA hg hm ha hs hpl).imp fun σ H R ⟨ρ, μ, α, F, r, re, q⟩ => ?_
  refine ⟨ρ, μ, α, F, r, re, q.bind.mono fun ws μ1 α1 F1 H1 x1 r1 q1 vs rv => ?_⟩
  split at q1
  · rename_i w u
    obtain ⟨v, v', rfl, d, d'⟩ := rws2 rv
    split at q1
    · rename_i i j e1 e2
      obtain ⟨a, rfl, ⟨us, hu⟩, k⟩ := lkn r1 d e1
      obtain ⟨b, rfl, ⟨us2, hu2⟩, k2⟩ := lkn r1 d' e2
      exact ⟨a, b, us, us2, rfl, .inl ⟨hu, hu2, q1.now r1 _ (jok_zip k k2)⟩⟩
    · rename_i i j e1 e2 _
      obtain ⟨a, rfl, ⟨us, hu⟩, k⟩ := tkn r1 d e1
      obtain ⟨b, rfl, ⟨us2, hu2⟩, k2⟩ := tkn r1 d' e2
      exact ⟨a, b, us, us2, rfl, .inr ⟨hu, hu2, q1.now r1 _ (jok_zipT k k2)⟩⟩
    · exact q1.elim
  · exact q1.elim
end
end TL
/-! TL10: for, while, list comprehensions. -/
namespace TL
variable [TabN]
open PySem PySem.Spec L2 PyProof.Rows
open Classical in
noncomputable def loopF (i : Its) (t : Gv) (b : Sv) : Cell → Rho → Mu → Out Fl
  | [], ρ, μ => if tied i μ then .ok (.nx ρ) μ else .bad
  | x :: xs, ρ, μ => if tied i μ then (calm (t (.d x) ρ μ)).bind fun ρ1 μ1 => (calm (b ρ1 μ1)).bind fun fl μ2 =>
      match fl with
      | .nx ρ2 => loopF i t b xs ρ2 μ2
      | .ct ρ2 => loopF i t b xs ρ2 μ2
      | .bk ρ2 => .ok (.nx ρ2) μ2
      | .rt w => .ok (.rt w) μ2
      | .er x us ρ2 => .ok (.er x us ρ2) μ2
    else .bad
noncomputable def sFor (it : Iv) (t : Gv) (b : Sv) : Sv := fun ρ μ => liftO ρ (it ρ μ) fun i μ1 => loopF i t b i.xs ρ μ1
def loopW (c : Bv) (b : Sv) : Nat → Rho → Mu → Out Fl
  | 0, _, _ => .bad
  | n + 1, ρ, μ => liftO ρ (c ρ μ) fun z μ1 => if z = true then (calm (b ρ μ1)).bind fun fl μ2 =>
      match fl with
      | .nx ρ2 => loopW c b n ρ2 μ2
      | .ct ρ2 => loopW c b n ρ2 μ2
      | .bk ρ2 => .ok (.nx ρ2) μ2
      | .rt w => .ok (.rt w) μ2
      | .er x us ρ2 => .ok (.er x us ρ2) μ2
    else .ok (.nx ρ) μ1
open Classical in
noncomputable def sWhile (c : Bv) (b : Sv) : Sv := fun ρ μ => if h : ∃ n, loopW c b n ρ μ ≠ .bad then loopW c b (Classical.choose h) ρ μ else .bad
theorem loopW_succ (c : Bv) (b : Sv) : ∀ (n : Nat) (ρ : Rho) (μ : Mu), loopW c b n ρ μ ≠ .bad → loopW c b (n + 1) ρ μ = loopW c b n ρ μ
  | 0, ρ, μ, h => absurd rfl h
  | n + 1, ρ, μ, h => by
    unfold loopW at h ⊢
    cases e : c ρ μ with
    | bad => rfl
    | err x ws μ1 => rfl
    | ok z μ1 =>
      rw [e] at h
      simp only [liftO_ok] at h ⊢
      by_cases hz : z = true
      · rw [if_pos hz] at h ⊢
        rw [if_pos hz]
        cases e2 : calm (b ρ μ1) with
        | bad => rfl
        | err x ws μ2 => rfl
        | ok fl μ2 =>
          rw [e2] at h
          cases fl with
          | nx ρ2 => exact loopW_succ c b n ρ2 μ2 h
          | ct ρ2 => exact loopW_succ c b n ρ2 μ2 h
          | _ => rfl
      · rw [if_neg hz, if_neg hz]
theorem loopW_add (c : Bv) (b : Sv) (n : Nat) (ρ : Rho) (μ : Mu) (h : loopW c b n ρ μ ≠ .bad) : ∀ k, loopW c b (n + k) ρ μ = loopW c b n ρ μ
  | 0 => rfl
  | k + 1 => by
    have ih := loopW_add c b n ρ μ h k
    rw [← Nat.add_assoc, loopW_succ c b (n + k) ρ μ (by rw [ih]; exact h), ih]
/-- any number of turns that is enough -/
theorem sWhile_at {c : Bv} {b : Sv} {ρ : Rho} {μ : Mu} {o : Out Fl} (n : Nat) (h : loopW c b n ρ μ = o) (hb : o ≠ .bad) : sWhile c b ρ μ = o := by
  have ex : ∃ n, loopW c b n ρ μ ≠ .bad := ⟨n, by rw [h]; exact hb⟩
  unfold sWhile
  rw [dif_pos ex]
  have h1 := loopW_add c b _ ρ μ (Classical.choose_spec ex) n
  have h2 := loopW_add c b n ρ μ (by rw [h]; exact hb) (Classical.choose ex)
  rw [Nat.add_comm] at h2
  rw [← h1, h2, h]

section
variable {X : Cx} {W : WX}
section
variable {K : PySem.W.Frag} {mg : Str → Option Value} {γ δ : Type} {α0 α : List Addr} {F0 H0 F H : Hp} {o : Out γ} {E : XK}
/-- the computation goes on elsewhere; the rest is told from the old place -/
theorem gp.keep {k : γ → Mu → Out δ} {G : δ → Mu → List Addr → Hp → Hp → Prop} (h : gp K mg α0 F0 H0 (o.bind k) G E) (x : Ext α0 F0 H0 α F H) : gp K mg α F H o (fun c μ' _ _ _ => gp K mg α0 F0 H0 (k c μ') G E) E := h.bind0.base x
end
theorem turns {i : Its} {t : Gv} {b : Sv} {D : Ends} {tg : TG} {tb : TS} (hg : tg = tG X.K X.mg t) (hb : tb = tS X.K X.mg W b) {ρ : Rho} {σ : St} {μ : Mu} {α : List Addr} {F H : Hp} {J : It} (r : Rep X.K α F μ H) (re : RepE X.K α F ρ σ) (j : JOk X.K α F H J i)
    (q : gp X.K X.mg α F H (loopF i t b i.xs ρ μ) (GS X.K X.mg W D) (fun _ _ _ => False)) :
    ∃ V : Nat → Nat → St → Hp → Prop, (∃ m, V 0 m σ H) ∧ ∀ n m σ H, V n m σ H →
      (J.stop n H ∧ D.nx σ H) ∨ (J.go n H ∧ ∃ N : St → Hp → Prop, (∀ σ' H', N σ' H' → ∃ m', m' < m ∧ V (n + 1) m' σ' H') ∧ ∀ x H', J.yld n H x H' → tg x σ H' fun σ2 H2 => tb { D with nx := N, ct := N, bk := D.nx } σ2 H2) := by
  subst hg hb
  refine ⟨fun n m σ' H' => m + n = i.xs.length ∧ ∃ ρ' μ' α' F', Rep X.K α' F' μ' H' ∧ RepE X.K α' F' ρ' σ' ∧ Ext α F H α' F' H' ∧ gp X.K X.mg α' F' H' (loopF i t b (i.xs.drop n) ρ' μ') (GS X.K X.mg W D) (fun _ _ _ => False), ⟨i.xs.length, rfl, ρ, μ, α, F, r, re, .refl, q⟩, ?_⟩
  rintro n m σ1 H1 ⟨hm, ρ1, μ1, α1, F1, r1, re1, x1, q1⟩
  by_cases hn : n < i.xs.length
  · rw [List.drop_eq_getElem_cons hn] at q1
    unfold loopF at q1
    split at q1
    · rename_i ht
      obtain ⟨jg, js, jy⟩ := j.at_ α1 F1 μ1 H1 r1 x1.w ht
      refine .inr ⟨jg n hn, fun σ' H' => ∃ ρ' μ' α' F', Rep X.K α' F' μ' H' ∧ RepE X.K α' F' ρ' σ' ∧ Ext α F H α' F' H' ∧ gp X.K X.mg α' F' H' (loopF i t b (i.xs.drop (n + 1)) ρ' μ') (GS X.K X.mg W D) (fun _ _ _ => False), fun σ' H' nx => ⟨m - 1, by omega, by omega, nx⟩, fun x H2 hy => ?_⟩
      obtain ⟨F2, r2, x2, d2⟩ := jy n i.xs[n] x H2 (List.getElem?_eq_getElem hn) hy
      have q2 := (q1.base x2).bind.calm (X' := fun _ _ _ => False)
      refine ⟨ρ1, μ1, α1, F2, .d i.xs[n], r2, re1.ext x2, d2, q2.mono fun ρ3 μ3 α3 F3 H3 x3 r3 q3 σ3 re3 => ?_⟩
      refine ⟨ρ3, μ3, α3, F3, r3, re3, ?_⟩
      have q4 := q3.bind.calm (X' := fun _ _ _ => False)
      refine q4.mono fun fl μ4 α4 F4 H4 x4 r4 q5 => ?_
      have xx : Ext α F H α4 F4 H4 := ((x1.trans x2).trans x3).trans x4
      cases fl with
      | nx ρ4 => exact fun σ4 re4 => ⟨ρ4, μ4, α4, F4, r4, re4, xx, q5⟩
      | ct ρ4 => exact fun σ4 re4 => ⟨ρ4, μ4, α4, F4, r4, re4, xx, q5⟩
      | bk ρ4 => exact fun σ4 re4 => gp.now (G := GS X.K X.mg W D) (X := fun _ _ _ => False) (c := Fl.nx ρ4) q5 r4 σ4 re4
      | rt w => exact gp.now (G := GS X.K X.mg W D) (X := fun _ _ _ => False) (c := Fl.rt w) q5 r4
      | er y us ρ4 => exact gp.now (G := GS X.K X.mg W D) (X := fun _ _ _ => False) (c := Fl.er y us ρ4) q5 r4
    · exact q1.elim
  · have hn' : i.xs.length ≤ n := Nat.le_of_not_lt hn
    rw [List.drop_eq_nil_of_le hn'] at q1
    unfold loopF at q1
    split at q1
    · rename_i ht
      obtain ⟨jg, js, jy⟩ := j.at_ α1 F1 μ1 H1 r1 x1.w ht
      exact .inl ⟨js n hn', gp.now (G := GS X.K X.mg W D) (X := fun _ _ _ => False) (c := Fl.nx ρ1) q1 r1 σ1 re1⟩
    · exact q1.elim
theorem ss_for {tg iter : Expr} {body : List Stmt} {fi : Iv} {t : Gv} {b : Sv} {pos : Pos} (hp : PassesOwn (model X.prog X.w) X.A X.env X.xe) (hc : X.calm = true) (hi : SI X W tg iter fi) (hg : SG X tg t) (hb : SSs X W body b)
    (hs : ∀ x, foldedSetIterable iter X.env x = pure x) : SS X W (.For tg iter body [] pos) (sFor fi t b) := by
  refine (ps_for hp hc hi hg hb hs).imp fun D σ H ⟨ρ, μ, α, F, r, re, q⟩ => ?_
  refine ⟨ρ, μ, α, F, r, re, (gp_lift re q).mono fun i μ1 α1 F1 H1 x1 r1 q1 J j => ?_⟩
  exact turns rfl rfl r1 (re.ext x1) j q1
theorem ss_whileN {c : Expr} {body : List Stmt} {fc : Bv} {b : Sv} {pos : Pos} (hp : PassesOwn (model X.prog X.w) X.A X.env X.xe) (hc : ST X W c fc) (hb : SSs X W body b) : SS X W (.While c body [] pos) (sWhile fc b) := by
  refine (ps_while hp hc hb).imp fun D σ H ⟨ρ, μ, α, F, r, re, q⟩ => ?_
  have q' : gp X.K X.mg α F H (sWhile fc b ρ μ) (GS X.K X.mg W D) (fun _ _ _ => False) := q
  unfold sWhile at q'
  split at q'
  · rename_i ex
    generalize Classical.choose ex = n0 at q'
    refine ⟨fun m σ' H' => ∃ ρ' μ' α' F', Rep X.K α' F' μ' H' ∧ RepE X.K α' F' ρ' σ' ∧ gp X.K X.mg α' F' H' (loopW fc b m ρ' μ') (GS X.K X.mg W D) (fun _ _ _ => False), ⟨n0, ρ, μ, α, F, r, re, q'⟩, ?_⟩
    rintro m σ1 H1 ⟨ρ1, μ1, α1, F1, r1, re1, q1⟩
    cases m with
    | zero => exact q1.elim
    | succ m =>
      unfold loopW at q1
      refine ⟨ρ1, μ1, α1, F1, r1, re1, (gp_lift re1 q1).mono fun z μ2 α2 F2 H2 x2 r2 q2 => ?_⟩
      cases z with
      | false => exact gp.now (G := GS X.K X.mg W D) (X := fun _ _ _ => False) (c := Fl.nx ρ1) q2 r2 σ1 (re1.ext x2)
      | true =>
        refine ⟨fun σ' H' => ∃ ρ' μ' α' F', Rep X.K α' F' μ' H' ∧ RepE X.K α' F' ρ' σ' ∧ gp X.K X.mg α' F' H' (loopW fc b m ρ' μ') (GS X.K X.mg W D) (fun _ _ _ => False), fun σ' H' nx => ⟨m, Nat.lt_succ_self m, nx⟩, ?_⟩
        refine ⟨ρ1, μ2, α2, F2, r2, re1.ext x2, ?_⟩
        have q4 := (gp.bind q2).calm (X' := fun _ _ _ => False)
        refine q4.mono fun fl μ4 α4 F4 H4 x4 r4 q5 => ?_
        cases fl with
        | nx ρ4 => exact fun σ4 re4 => ⟨ρ4, μ4, α4, F4, r4, re4, q5⟩
        | ct ρ4 => exact fun σ4 re4 => ⟨ρ4, μ4, α4, F4, r4, re4, q5⟩
        | bk ρ4 => exact fun σ4 re4 => gp.now (G := GS X.K X.mg W D) (X := fun _ _ _ => False) (c := Fl.nx ρ4) q5 r4 σ4 re4
        | rt w => exact gp.now (G := GS X.K X.mg W D) (X := fun _ _ _ => False) (c := Fl.rt w) q5 r4
        | er y us ρ4 => exact gp.now (G := GS X.K X.mg W D) (X := fun _ _ _ => False) (c := Fl.er y us ρ4) q5 r4
  · exact q'.elim

/-! ### list comprehensions -/
def wipeR (ρ : Rho) : List Nat → Rho
  | [] => ρ
  | v :: vs => (wipeR ρ vs).set v none
theorem wipeR_len (ρ : Rho) : ∀ vs, (wipeR ρ vs).length = ρ.length
  | [] => rfl
  | v :: vs => by
    unfold wipeR
    rw [List.length_set, wipeR_len ρ vs]
theorem RepE.wipe {K : PySem.W.Frag} {α : List Addr} {F : Hp} {ρ : Rho} {σ : St} (h : RepE K α F ρ σ) : ∀ vs, RepE K α F (wipeR ρ vs) (L2.wipe σ vs)
  | [] => h
  | v :: vs => by
    have ih := RepE.wipe h vs
    refine ⟨by rw [wipeR_len, wipe_length]; exact h.len, fun i w e => ?_⟩
    unfold wipeR at e
    unfold L2.wipe
    by_cases hi : v = i
    · subst hi
      by_cases hl : v < (wipeR ρ vs).length
      · rw [List.getElem?_set_self hl] at e
        cases e
      · rw [List.getElem?_eq_none (by rw [List.length_set]; omega)] at e
        cases e
    · rw [List.getElem?_set_ne hi] at e ⊢
      exact ih.at_ i w e
theorem wipe_set (σ : St) (i : Nat) (v : Option V) : ∀ vs : List Nat, i ∈ vs → L2.wipe (σ.set i v) vs = L2.wipe σ vs
  | [], h => by cases h
  | u :: vs, h => by
    unfold L2.wipe
    by_cases hm : i ∈ vs
    · rw [wipe_set σ i v vs hm]
    · have hu : i = u := by
        rcases List.mem_cons.mp h with e | e
        · exact e
        · exact absurd e hm
      subst hu
      have far : ∀ (τ : St) (vs : List Nat), i ∉ vs → L2.wipe (τ.set i v) vs = (L2.wipe τ vs).set i v := by
        intro τ vs
        induction vs with
        | nil => intro _; rfl
        | cons z zs ih =>
          intro hz
          rw [List.mem_cons, not_or] at hz
          unfold L2.wipe
          rw [ih hz.2, List.set_comm _ _ (Ne.symm hz.1)]
      rw [far σ vs hm, List.set_set]
/-- a target of a block: own names only -/
def tGw (K : PySem.W.Frag) (mg : Str → Option Value) (os : List Nat) (t : Gv) : TG := fun v σ H Q => ∃ ρ μ α F w, Rep K α F μ H ∧ RepE K α F ρ σ ∧ Rw K α F v w ∧ gp K mg α F H (t w ρ μ) (fun ρ' _ α' F' H' => ∀ σ', RepE K α' F' ρ' σ' → L2.wipe σ' os = L2.wipe σ os → Q σ' H') (fun _ _ _ => False)
abbrev SGw (X : Cx) (os : List Nat) (tg : Expr) (t : Gv) : Prop := PG X tg (tGw X.K X.mg os t)
theorem sgw_name {os : List Nat} {i : Nat} {x : Str} {pos : Pos} (hN : X.N.Nodup) (hi : X.N[i]? = some x) (hx : Loc X.env.scope x) (hf : X.fn x = true ∨ X.env.scope.names.lookup x = some .local) (ho : i ∈ os) : SGw X os (.Name x pos) (gNm i) :=
  (pg_name hN hi hx hf).imp fun v σ H Q ⟨ρ, μ, α, F, w, r, re, rv, q⟩ => q.now r _ (re.set i rv) (wipe_set σ i _ os ho)
def tGsw (K : PySem.W.Frag) (mg : Str → Option Value) (os : List Nat) (ts : List Gv) : TGs := fun vs σ H Q => ∃ ρ μ α F ws, Rep K α F μ H ∧ RepE K α F ρ σ ∧ Rws K α F vs ws ∧ gp K mg α F H (gSeq ts ws ρ μ) (fun ρ' _ α' F' H' => ∀ σ', RepE K α' F' ρ' σ' → L2.wipe σ' os = L2.wipe σ os → Q σ' H') (fun _ _ _ => False)
abbrev SGsw (X : Cx) (os : List Nat) (es : List Expr) (ts : List Gv) : Prop := PGs X es (tGsw X.K X.mg os ts)
theorem sgsw_nil {os : List Nat} : SGsw X os [] [] := pgs_nil.imp fun vs σ H Q ⟨ρ, μ, α, F, ws, r, re, rv, q⟩ => by
  cases ws with
  | nil =>
    cases rv
    exact ⟨rfl, q.now r σ re rfl⟩
  | cons w ws => exact q.elim
theorem sgsw_cons {os : List Nat} {e : Expr} {es : List Expr} {t : Gv} {ts : List Gv} (h1 : SGw X os e t) (h2 : SGsw X os es ts) (hs : (assignEach (e :: es) X.env).map (·.2) = assign e X.env :: (assignEach es X.env).map (·.2)) : SGsw X os (e :: es) (t :: ts) := by
  refine (pgs_cons h1 h2 hs).imp fun vs σ H Q ⟨ρ, μ, α, F, ws, r, re, rv, q⟩ => ?_
  cases ws with
  | nil => exact q.elim
  | cons w ws =>
    cases rv with
    | cons r1 r2 =>
      refine ⟨_, _, rfl, ρ, μ, α, F, w, r, re, r1, gp.bind q |>.mono fun ρ' μ' α' F' H' x' rp q' σ' re' e' => ?_⟩
      exact ⟨ρ', μ', α', F', ws, rp, re', Rws.ext r2 x', q'.mono fun ρ2 μ2 α2 F2 H2 x2 rp2 q2 σ2 re2 e2 => q2 σ2 re2 (e2.trans e')⟩
theorem sgw_tup {os : List Nat} {es : List Expr} {k : Nat} {pos : Pos} {ts : List Gv} (hc : X.calm = true) (h : SGsw X os es ts) (hn : (assignEach es X.env).length = ts.length) (hst : (assignEach es X.env).findIdx? (·.1) = none) : SGw X os (.Tuple es k pos) (gTp ts) := by
  refine (pg_tup hc h hn hst).imp fun v σ H Q ⟨ρ, μ, α, F, w, r, re, rv, q⟩ => ?_
  unfold gTp at q
  split at q
  · rename_i xs
    split at q
    · rename_i hl
      cases rv with
      | @tup a vs _ t1 d1 => exact ⟨a, vs, rfl, sameT r.sub t1, by rw [d1.length, hl], ρ, μ, α, F, _, r, re, Rws.of_all d1, q⟩
    · exact q.elim
  · exact q.elim
/-- one turn's item -/
def lcPut (acc : Cell) (w : Wv) (μ : Mu) : Out Cell := match w with
  | .d y => if acc.length < 16777216 then .ok (acc ++ [y]) μ else .bad
  | _ => .bad
open Classical in
noncomputable def loopC (i : Its) (t : Gv) (c : Bv) (e : Ev) (ρ : Rho) : Cell → Cell → Mu → Out Cell
  | [], acc, μ => if tied i μ then .ok acc μ else .bad
  | x :: xs, acc, μ => if tied i μ then (calm (t (.d x) ρ μ)).bind fun ρ1 μ1 => (calm (c ρ1 μ1)).bind fun b μ2 =>
      if b = true then ((calm (e ρ1 μ2)).bind (lcPut acc)).bind fun acc' μ3 => loopC i t c e ρ xs acc' μ3 else loopC i t c e ρ xs acc μ2
    else .bad
noncomputable def lLc (it : Iv) (t : Gv) (c : Bv) (e : Ev) (os : List Nat) : Lv := fun ρ μ => (it ρ μ).bind fun i μ1 => loopC i t c e (wipeR ρ os) i.xs [] μ1
def bYes : Bv := fun _ μ => .ok true μ
theorem Rep.poke {K : PySem.W.Frag} {α : List Addr} {F H : Hp} {μ : Mu} {D : Addr} {o : HO} (r : Rep K α F μ H) (hF : F D = none) (hn : D ∉ α) (hL : ∀ ps, H D ≠ some (.tbl ps)) : Rep K α F μ (upd H D o) := by
  refine ⟨r.len, fun b u q => ?_, r.len0, fun k c q => ?_, r.inj, fun a m => ?_, r.tab.step (fun _ _ z => z) (fun b ps z => tbl_keep hL z) (fun b ps z => z)⟩
  · rw [upd_ne (ne_of_none q hF)]
    exact r.sub _ _ q
  · obtain ⟨a, h1, h3, h4⟩ := r.cell k c q
    exact ⟨a, h1, h3, h4.mono (fun u z => by rw [upd_ne (fun (e : a = D) => hn (e ▸ List.mem_of_getElem? h1))]; exact z) (Same.refl _) fun _ _ _ z => z⟩
  · exact Fr.put (r.had a m) fun (e : a = D) => hn (e ▸ m)
theorem Ext.poke {α0 α : List Addr} {F0 H0 F H : Hp} {D : Addr} {o : HO} (e : Ext α0 F0 H0 α F H) (h : Fr H0 D) : Ext α0 F0 H0 α F (upd H D o) := by
  refine ⟨e.pre, e.fro, fun a u q n nt => ?_, fun a q => ?_, e.newF, e.newA⟩
  · rw [upd_ne (fun (z : a = D) => h.no (z ▸ q) nt)]
    exact e.frame a u q n nt
  · by_cases z : a = D
    · rw [z]
      exact h
    · exact e.keep a fun u hu => q u (by rw [upd_ne z]; exact hu)
abbrev STs (X : Cx) (W : WX) (es : List Expr) (f : Bv) : Prop := PTs X es (tT X.K X.mg W f)
theorem sts_nil : STs X W [] bYes := ⟨fun pins s σ H Q I ⟨_, _, _, _, r, _, q⟩ => pts_nil.run pins s σ H Q I (q.now r)⟩
theorem sts_one {c : Expr} {f : Bv} (h : ST X W c f) : STs X W [c] f := pts_one h
/-- the accumulator between two turns -/
structure LcAt (X : Cx) (α0 : List Addr) (F0 H0 : Hp) (H1 : Hp) (D : Addr) (i : Its) (t : Gv) (c : Bv) (e : Ev) (ρ0 : Rho) (Q : VK) (E : XK) (n : Nat) (H : Hp) : Prop where
  ex : ∃ μ α F acc vs, Rep X.K α F μ H ∧ Ext α0 F0 H0 α F H ∧ H D = some (.lst vs) ∧ F D = none ∧ D ∉ α ∧ DqAll X.K F vs acc ∧ gp X.K X.mg α0 F0 H0 (loopC i t c e ρ0 (i.xs.drop n) acc μ) (Gl' X.K H1 Q) E
theorem away {α α' : List Addr} {F F' H H' : Hp} {D : Addr} (x : Ext α F H α' F' H') {vs : List V} (h : H D = some (.lst vs)) (hF : F D = none) (hn : D ∉ α) : H' D = some (.lst vs) ∧ F' D = none ∧ D ∉ α' := by
  refine ⟨x.frame D _ h hn (fun _ z => by cases z), ?_, fun m => ?_⟩
  · cases z : F' D with
    | none => rfl
    | some u =>
      rcases x.newF D _ h (.lst vs) (by rw [z]; exact fun z => nomatch z) with q | q
      · exact absurd hF q
      · exact absurd q hn
  · rcases x.newA D m with q | q
    · exact hn q
    · exact q.no h
theorem lc_turns {i : Its} {t : Gv} {c : Bv} {e : Ev} {Q : VK} {E : XK} {os : List Nat} {ρ : Rho} {σ : St} {μ : Mu} {α : List Addr} {F H Hz : Hp} {J : It} (r : Rep X.K α F μ H) (re : RepE X.K α F ρ σ) (hz : ∀ a, Fr H a → Fr Hz a) (j : JOk X.K α F H J i)
    (q : gp X.K X.mg α F H (loopC i t c e (wipeR ρ os) i.xs [] μ) (Gl' X.K Hz Q) E) (D : Addr) (hD : H D = none) :
    ∃ V : Nat → Nat → Hp → Prop, (∃ m, V 0 m (upd H D (.lst []))) ∧ ∀ n m H, V n m H →
      (J.stop n H ∧ Q (.ref D) H) ∨ (J.go n H ∧ ∃ Nx : Hp → Prop, (∀ H', Nx H' → ∃ m', m' < m ∧ V (n + 1) m' H') ∧ ∀ x H', J.yld n H x H' → tGw X.K X.mg os t x (L2.wipe σ os) H' fun σ2 H2 => L2.wipe σ2 os = L2.wipe σ os ∧ tT X.K X.mg (fun _ _ _ _ => False) c σ2 H2 fun b H3 =>
        if b = true then tE X.K X.mg (fun _ _ _ _ => False) e σ2 H3 fun y H4 => ∃ acc, H4 D = some (.lst acc) ∧ acc.length < sizeLine ∧ Nx (upd H4 D (.lst (acc ++ [y]))) else Nx H3) := by
  have wipe2 : ∀ τ : St, L2.wipe (L2.wipe τ os) os = L2.wipe τ os := by
    intro τ
    have : ∀ vs : List Nat, (∀ v ∈ vs, v ∈ os) → L2.wipe (L2.wipe τ vs) os = L2.wipe τ os := by
      intro vs
      induction vs with
      | nil => intro _; rfl
      | cons v vs ih =>
        intro h
        show L2.wipe ((L2.wipe τ vs).set v none) os = _
        rw [wipe_set _ _ _ _ (h v List.mem_cons_self), ih fun u hu => h u (List.mem_cons_of_mem _ hu)]
    exact this os fun v h => h
  have fp : F D = none := r.sub.free hD
  have na : D ∉ α := fun m => r.had D m (.of hD)
  obtain ⟨rs, xs⟩ := r.side (o := .lst []) hD
  refine ⟨fun n m H' => m + n = i.xs.length ∧ LcAt X α F H Hz D i t c e (wipeR ρ os) Q E n H', ⟨i.xs.length, rfl, ⟨μ, α, F, [], [], rs, xs, upd_same, fp, na, .nil, q⟩⟩, ?_⟩
  rintro n m H1 ⟨hm, ⟨μ1, α1, F1, acc, vs, r1, x1, h1, f1, n1, d1, q1⟩⟩
  by_cases hn : n < i.xs.length
  · rw [List.drop_eq_getElem_cons hn] at q1
    unfold loopC at q1
    split at q1
    · rename_i ht
      obtain ⟨jg, js, jy⟩ := j.at_ α1 F1 μ1 H1 r1 x1.w ht
      refine .inr ⟨jg n hn, LcAt X α F H Hz D i t c e (wipeR ρ os) Q E (n + 1), fun H' nx => ⟨m - 1, by omega, by omega, nx⟩, fun x H2 hy => ?_⟩
      obtain ⟨F2, r2, x2, d2⟩ := jy n i.xs[n] x H2 (List.getElem?_eq_getElem hn) hy
      have re2 : RepE X.K α1 F2 (wipeR ρ os) (L2.wipe σ os) := ((re.wipe os).ext x1).ext x2
      refine ⟨wipeR ρ os, μ1, α1, F2, .d i.xs[n], r2, re2, d2, ((q1.keep (x1.trans x2)).calm (X' := fun _ _ _ => False)).mono fun ρ3 μ3 α3 F3 H3 x3 r3 q3 σ3 re3 e3 => ?_⟩
      have x13 := (x1.trans x2).trans x3
      refine ⟨e3.trans (wipe2 σ), ρ3, μ3, α3, F3, r3, re3, ((q3.keep x13).calm (X' := fun _ _ _ => False)).mono fun b μ4 α4 F4 H4 x4 r4 q4 => ?_⟩
      have x14 := x13.trans x4
      have x24 := (x2.trans x3).trans x4
      obtain ⟨g1, g2, g3⟩ := away x24 h1 f1 n1
      have d4 := d1.mono x24.fro
      cases b with
      | false => exact ⟨μ4, α4, F4, acc, vs, r4, x14, g1, g2, g3, d4, q4⟩
      | true =>
        refine ⟨ρ3, μ4, α4, F4, r4, re3.ext x4, ((gp.keep (gp.bind0 q4) .refl |>.base x14).calm (X' := fun _ _ _ => False)).mono fun w μ5 α5 F5 H5 x5 r5 q5 v rv => ?_⟩
        obtain ⟨k1, k2, k3⟩ := away x5 g1 g2 g3
        unfold lcPut at q5
        split at q5
        · rename_i y
          split at q5
          · rename_i hl
            have d5 := d4.mono x5.fro
            refine ⟨vs, k1, by rw [d5.length, sizeLine_eq]; exact hl, ⟨μ5, α5, F5, acc ++ [y], vs ++ [v], r5.poke k2 k3 (by rw [k1]; exact fun _ z => nomatch z), (x14.trans x5).poke (.of hD), upd_same, k2, k3, d5.append (.cons rv .nil), ?_⟩⟩
            exact q5.at (x14.trans x5) r5
          · exact q5.elim
        · exact q5.elim
    · exact q1.elim
  · have hn' : i.xs.length ≤ n := Nat.le_of_not_lt hn
    rw [List.drop_eq_nil_of_le hn'] at q1
    unfold loopC at q1
    split at q1
    · rename_i ht
      obtain ⟨jg, js, jy⟩ := j.at_ α1 F1 μ1 H1 r1 x1.w ht
      refine .inl ⟨js n hn', ?_⟩
      have : Fr Hz D := hz D (.of hD)
      exact (gp.at q1 x1 r1) D vs this h1 f1 n1 d1
    · exact q1.elim
section
variable {elt tg iter : Expr} {ifs : List Expr} {scope : Scope} {own : List (Str × Nat)} {pos : Pos} {fi : Iv} {t : Gv} {c : Bv} {e : Ev}
/-- X, as the block of a comprehension sees it -/
abbrev Bk (X : Cx) (scope : Scope) (s : Shared) (H : Hp) (C : Addr) (cl : List (Str × Addr)) (fp : List Addr) : Cx := X.blk s H scope (compEnvC scope cl C X.env) fp
abbrev W0 : WX := fun _ _ _ _ => False
theorem lc_read {D : Ends} {os : List Nat} {σ : St} {H : Hp} {Q : VK} (h : tL X.K X.mg W (lLc fi t c e os) σ H Q) : tLc (tI X.K X.mg W fi) (tGw X.K X.mg os t) (tT X.K X.mg W0 c) (tE X.K X.mg W0 e) os σ H Q := by
  obtain ⟨ρ, μ, α, F, r, re, q⟩ := h
  have q' := gp.bind0 q
  refine ⟨ρ, μ, α, F, r, re, ?_⟩
  refine (show gp X.K X.mg α F H (fi ρ μ) _ _ from q').mono fun i μ1 α1 F1 H1 x1 r1 q1 J j => ?_
  intro D hD
  exact lc_turns r1 (re.ext x1) x1.keep j (q1.base x1) D hD
theorem sl_lc (hc : X.calm = true) (hN : X.N.Nodup) (hi : SI X W tg iter fi) (ok : BlkOk X.N X.env.scope scope own)
    (hg : ∀ s H C cl fp, SGw (Bk X scope s H C cl fp) (own.map (·.2)) tg t) (ht : ∀ s H C cl fp, STs (Bk X scope s H C cl fp) W0 ifs c) (he : ∀ s H C cl fp, SE (Bk X scope s H C cl fp) W0 elt e)
    (hs : ∀ x, foldedSetIterable iter X.env x = pure x) : SL X W (.ListComp elt [⟨tg, iter, ifs, 0⟩] scope pos) (lLc fi t c e (own.map (·.2))) :=
  (pe_lc (g := tGw X.K X.mg (own.map (·.2)) t) (tt := tT X.K X.mg W0 c) (te := tE X.K X.mg W0 e) hc hN hi ok hg ht he hs).imp fun σ H Q h => lc_read (D := ⟨fun _ _ => True, fun _ _ => True, fun _ _ => True, fun _ _ => True⟩) h
/-- name = [..] on one line -/
theorem ss_setLcN {i : Nat} {y : Str} {py spos : Pos} (hc : X.calm = true) (hN : X.N.Nodup) (hy : X.N[i]? = some y) (hyl : X.env.scope.names.lookup y = some .local)
    (hsw : swapsWith (.ListComp elt [⟨tg, iter, ifs, 0⟩] scope pos) (some (.Name y py)) spos.line X.env = pure true) (hi : SI X W tg iter fi) (ok : BlkOk X.N X.env.scope scope own)
    (hg : ∀ s H C cl fp, SGw (Bk X scope s H C cl fp) (own.map (·.2)) tg t) (ht : ∀ s H C cl fp, STs (Bk X scope s H C cl fp) W0 ifs c) (he : ∀ s H C cl fp, SE (Bk X scope s H C cl fp) W0 elt e)
    (hs : ∀ x, foldedSetIterable iter X.env x = pure x) : SS X W (.Assign [.Name y py] (.ListComp elt [⟨tg, iter, ifs, 0⟩] scope pos) spos) (sAsg (eNew (lLc fi t c e (own.map (·.2)))) (gNm i)) := by
  refine (ps_setLc (g := tGw X.K X.mg (own.map (·.2)) t) (tt := tT X.K X.mg W0 c) (te := tE X.K X.mg W0 e) hc hN hy hyl hsw hi ok hg ht he hs).imp fun D σ H ⟨ρ, μ, α, F, r, re, q⟩ => ?_
  refine lc_read (D := D) ⟨ρ, μ, α, F, r, re, ?_⟩
  have q1 := gp_lift re q
  refine gp.mono (gp.bind0 (show gp X.K X.mg α F H ((lLc fi t c e (own.map (·.2)) ρ μ).bind fun c μ1 => .ok (Wv.r μ1.length) (μ1 ++ [some c])) _ _ from q1)) fun z μ1 α1 F1 H1 x1 r1 q2 A vs hD hD1 hF hn dq => ?_
  have r2 := r1.cellSide hD1 hF hn dq
  have q3 := q2.at (x1.celled hD) r2
  refine gp.now (G := GS X.K X.mg W D) (X := fun _ _ _ => False) (c := Fl.nx (ρ.set i (some (Wv.r μ1.length)))) q3 r2 _ ((re.ext (x1.celled hD)).set i ⟨A, ?_, rfl, isL_of (by rw [r1.len]; exact r1.len0)⟩)
  rw [r1.len, List.getElem?_append_right (Nat.le_refl _), Nat.sub_self]
  rfl
/-- name = [..] on one line -/
theorem ss_setLcF {i : Nat} {y : Str} {py spos : Pos} (hc : X.calm = true) (hN : X.N.Nodup) (hy : X.N[i]? = some y) (hyl : X.env.scope.names.lookup y = some .local)
    (hsw : swapsWith (.ListComp elt [⟨tg, iter, ifs, 0⟩] scope pos) (some (.Name y py)) spos.line X.env = pure true) (hi : SI X W tg iter fi) (ok : BlkOk X.N X.env.scope scope own)
    (hg : ∀ s H C cl fp, SGw (Bk X scope s H C cl fp) (own.map (·.2)) tg t) (ht : ∀ s H C cl fp, STs (Bk X scope s H C cl fp) W0 ifs c) (he : ∀ s H C cl fp, SE (Bk X scope s H C cl fp) W0 elt e)
    (hs : ∀ x, foldedSetIterable iter X.env x = pure x) : SS X W (.Assign [.Name y py] (.ListComp elt [⟨tg, iter, ifs, 0⟩] scope pos) spos) (sAsg (eFrz (lLc fi t c e (own.map (·.2)))) (gNm i)) := by
  refine (ps_setLc (g := tGw X.K X.mg (own.map (·.2)) t) (tt := tT X.K X.mg W0 c) (te := tE X.K X.mg W0 e) hc hN hy hyl hsw hi ok hg ht he hs).imp fun D σ H ⟨ρ, μ, α, F, r, re, q⟩ => ?_
  refine lc_read (D := D) ⟨ρ, μ, α, F, r, re, ?_⟩
  have q1 := gp_lift re q
  refine gp.mono (gp.bind0 (show gp X.K X.mg α F H ((lLc fi t c e (own.map (·.2)) ρ μ).bind fun c μ1 => .ok (Wv.d (.list c)) μ1) _ _ from q1)) fun z μ1 α1 F1 H1 x1 r1 q2 A vs hD hD1 hF hn dq => ?_
  have r2 := r1.freezeSide hD1 hF hn
  have q3 := q2.at (x1.frozen hD hF) r2
  exact gp.now (G := GS X.K X.mg W D) (X := fun _ _ _ => False) (c := Fl.nx (ρ.set i (some (Wv.d (.list z))))) q3 r2 _ ((re.ext (x1.frozen hD hF)).set i (Dq.lst (.of upd_same) (dq.mono (same_frozen hF))))
end
end
end TL
/-! TL11: lists put together; {}. -/
namespace TL
variable [TabN]
open PySem PySem.Spec L2 PyProof.Rows RZ
def gPlus (a b : Wv) (μ : Mu) : Out Wv :=
  match dataOf μ a, dataOf μ b with
  | some (.list xs), some (.list ys) => if xs.length + ys.length ≤ 16777216 then .ok (.d (.list (xs ++ ys))) μ else .bad
  | _, _ => gAdd a b μ
/-- told so that no computing of it starts by itself -/
noncomputable def repOk (n : Nat) (k : Int) : Bool := @decide (k < 16777216 ∧ -16777216 ≤ k ∧ n * k.toNat ≤ 16777216) (Classical.propDecidable _)
theorem repOk_ok {n : Nat} {k : Int} (h : repOk n k = true) : k < 16777216 ∧ -16777216 ≤ k ∧ n * k.toNat ≤ 16777216 := @of_decide_eq_true _ (Classical.propDecidable _) h
theorem repOk_is {n : Nat} {k : Int} (h : k < 16777216 ∧ -16777216 ≤ k ∧ n * k.toNat ≤ 16777216) : repOk n k = true := @decide_eq_true _ (Classical.propDecidable _) h
noncomputable def gTimes (a b : Wv) (μ : Mu) : Out Wv :=
  match dataOf μ a, b with
  | some (.list xs), .d (.int k) => if repOk xs.length k = true then .ok (.d (.list (List.replicate k.toNat xs).flatten)) μ else .bad
  | _, _ => gMul a b μ
theorem DqAll.times {K : PySem.W.Frag} {F : Hp} {vs : List V} {c : Cell} (d : DqAll K F vs c) : ∀ k : Nat, DqAll K F (List.replicate k vs).flatten (List.replicate k c).flatten
  | 0 => .nil
  | k + 1 => by
    rw [List.replicate_succ, List.replicate_succ, List.flatten_cons, List.flatten_cons]
    exact d.append (DqAll.times d k)
section
variable {X : Cx} {W : WX}
def rCatR (K : PySem.W.Frag) : R2 := fun x y H Q => ∃ l b xs zs, x = .ref l ∧ y = .ref b ∧ Ls K H l xs ∧ Ls K H b zs ∧ xs.length + zs.length ≤ sizeLine ∧ ∀ p, H p = none → Q (.ref p) (upd H p (.lst (xs ++ zs)))
theorem op_catR : OpR X (binaryOp .Add) (rCatR X.K) := by
  intro pins s σ H x y v u Q I rx ry h
  obtain ⟨l, b, xs, zs, rfl, rfl, hH, hB, hz, q⟩ := h
  cases rx
  cases ry
  obtain ⟨z, its, n, r, e⟩ := hH.ob I
  obtain ⟨z2, its2, n2, r2, e2⟩ := hB.ob I
  have hl := r.length
  have hl2 := r2.length
  refine PySem.P.add_list e e2 ?_ (by rw [List.size_toArray, List.size_toArray]; omega)
  have ea : its.toArray ++ its2.toArray = (its ++ its2).toArray := by simp
  rw [ea]
  exact ⟨.ref _, _, I.lnew (t' := s.toks) (r.append r2) (by rw [List.length_append]; omega), rfl, q _ I.fresh⟩
def rRepR (K : PySem.W.Frag) : R2 := fun x y H Q => ∃ l k xs, x = .ref l ∧ y = .int k ∧ Ls K H l xs ∧ -(2 ^ 63) ≤ k ∧ k < 2 ^ 63 ∧ xs.length * k.toNat ≤ sizeLine ∧
  ∀ p, H p = none → Q (.ref p) (upd H p (.lst (List.replicate k.toNat xs).flatten))
theorem op_repR : OpR X (binaryOp .Mult) (rRepR X.K) := by
  intro pins s σ H x y v u Q I rx ry h
  obtain ⟨l, k, xs, rfl, rfl, hH, h1, h2, hz, q⟩ := h
  cases rx
  obtain ⟨t, rfl⟩ := ry
  obtain ⟨z, its, n, r, e⟩ := hH.ob I
  have hl := r.length
  have hlen : its.toArray.size * k.toNat ≤ sizeLine := by rw [List.size_toArray, ← hl]; exact hz
  have hcap : ¬ its.toArray.size * k.toNat > (2 ^ 63 - 1) / 8 := by
    have : (sizeLine : Nat) ≤ (2 ^ 63 - 1) / 8 := by decide
    omega
  have hfit : ¬ (!Builtin.List.listFitsIndex k) = true := by
    rw [fitsIndex_both h1 h2]
    exact Bool.false_ne_true
  have hlong : ¬ Builtin.List.listTooLong (its.toArray.size * k.toNat) = true := by
    rw [notLongL hlen]
    exact Bool.false_ne_true
  have hnew : List.foldl (fun x1 x2 => x1 ++ x2) #[] (List.replicate (if its.toArray.isEmpty = true then 0 else k.toNat) its.toArray) = (List.replicate k.toNat its).flatten.toArray := by
    have f0 : ∀ m : Nat, List.foldl (fun x1 x2 => x1 ++ x2) #[] (List.replicate m its.toArray) = (List.replicate m its).flatten.toArray := fun m => by
      have := foldl_rep its m []
      rw [List.nil_append] at this
      exact this
    rw [f0]
    cases its with
    | nil => simp
    | cons a r' => rw [if_neg (by simp)]
  refine wpAny_binaryOp_repeat_ref (T := "list") (U := "int") (by decide) ⟨_, e, rfl⟩ (fun s' => typeIs_int s' k t) noFill_list_mul F.fills_int_mul F.slot_int_rmul repeat_list F.slot_int_index.lookup
    (call_meets F.slot_int_rmul (typeIs_int s k t) F.entry_int_rmul (F.args_int_rmul_2 _ _) (int___rmul___int_list k t l its.toArray n)
      ⟨e, rfl, ⟨_, e, rfl⟩, call_meets F.slot_list_mul ⟨_, e, rfl⟩ F.entry_list_mul (F.args_list_mul_2 _ _) (AutoListH.list___mul___list_int_3 l its.toArray n k t hfit hcap hlong) ⟨e, ?_⟩⟩)
  rw [hnew]
  exact ⟨.ref _, _, I.lnew (t' := s.toks) (r.rep k.toNat) (by rw [PyProof.Rows.lm_len_rep_flat, Nat.mul_comm]; exact hz), rfl, q _ I.fresh⟩
theorem op_gPlus : OpR X (binaryOp .Add) (r2G X.K X.mg gPlus) := by
  intro pins s σ H x y v u Q I rx ry ⟨μ, α, F, w1, w2, r, h1, h2, q⟩
  unfold gPlus at q
  split at q
  · rename_i xs ys e1 e2
    split at q
    · rename_i hl
      obtain ⟨a, vs, rfl, hA, d1⟩ := items_of r e1 h1
      obtain ⟨b, us, rfl, hB, d2⟩ := items_of r e2 h2
      refine op_catR pins s σ H _ _ v u Q I rx ry ⟨a, b, vs, us, rfl, rfl, hA, hB, ?_, fun p hp => ?_⟩
      · rw [d1.length, d2.length]
        exact le_line hl
      · obtain ⟨r2, x2⟩ := r.new (o := .lst (vs ++ us)) hp
        exact q.at x2 r2 _ (.lst (.of upd_same) ((d1.mono x2.fro).append (d2.mono x2.fro)))
    · exact q.elim
  · exact op_gAdd pins s σ H x y v u Q I rx ry ⟨μ, α, F, w1, w2, r, h1, h2, q⟩
theorem op_gTimes : OpR X (binaryOp .Mult) (r2G X.K X.mg gTimes) := by
  intro pins s σ H x y v u Q I rx ry ⟨μ, α, F, w1, w2, r, h1, h2, q⟩
  unfold gTimes at q
  split at q
  · rename_i xs k e1
    split at q
    · rename_i hl
      have hl := repOk_ok hl
      obtain ⟨a, vs, rfl, hA, d1⟩ := items_of r e1 h1
      cases h2
      refine op_repR pins s σ H _ _ v u Q I rx ry ⟨a, k, vs, rfl, rfl, hA, by omega, by omega, ?_, fun p hp => ?_⟩
      · rw [d1.length]
        exact le_line hl.2.2
      · obtain ⟨r2, x2⟩ := r.new (o := .lst (List.replicate k.toNat vs).flatten) hp
        exact q.at x2 r2 _ (.lst (.of upd_same) (DqAll.times (d1.mono x2.fro) k.toNat))
    · exact q.elim
  · exact op_gMul pins s σ H x y v u Q I rx ry ⟨μ, α, F, w1, _, r, h1, h2, q⟩
/-- a list that nobody else has -/
def lCat (a b : Ev) : Lv := fun ρ μ => (a ρ μ).bind fun w μ1 => (b ρ μ1).bind fun u μ2 => match dataOf μ2 w, dataOf μ2 u with
  | some (.list xs), some (.list ys) => if xs.length + ys.length ≤ 16777216 then .ok (xs ++ ys) μ2 else .bad
  | _, _ => .bad
noncomputable def lRep (a b : Ev) : Lv := fun ρ μ => (a ρ μ).bind fun w μ1 => (b ρ μ1).bind fun u μ2 => match dataOf μ2 w, u with
  | some (.list xs), .d (.int k) => if repOk xs.length k = true then .ok (List.replicate k.toNat xs).flatten μ2 else .bad
  | _, _ => .bad
theorem side_at {K : PySem.W.Frag} {mg : Str → Option Value} {α0 α : List Addr} {F0 H0 F H : Hp} {μ : Mu} {c : Cell} {Q : VK} {E : XK} {vs : List V} {p : Addr} (q : gp K mg α F H (.ok c μ) (Gl' K H0 Q) E) (r : Rep K α F μ H) (x : Ext α0 F0 H0 α F H) (hp : H p = none) (d : DqAll K F vs c) : Q (.ref p) (upd H p (.lst vs)) := by
  obtain ⟨r2, x2⟩ := r.side (o := .lst vs) hp
  have hF : F p = none := r.sub.free hp
  have hH : Fr H0 p := x.keep p (.of hp)
  exact q.at x2 r2 p vs hH upd_same hF (fun m => r.had p m (.of hp)) d
theorem sl_cat {a b : Expr} {pos : Pos} {fa fb : Ev} (ha : SE X W a fa) (hb : SE X W b fb) : SL X W (.BinOp a .Add b pos) (lCat fa fb) := by
  refine (pe_op op_catR ha hb).imp fun σ H Q ⟨ρ, μ, α, F, r, re, q⟩ => ?_
  refine ⟨ρ, μ, α, F, r, re, q.bind.mono fun w μ1 α1 F1 H1 x1 r1 q1 v rv => ?_⟩
  refine ⟨ρ, μ1, α1, F1, r1, re.ext x1, q1.bind.mono fun u μ2 α2 F2 H2 x2 r2 q2 v' rv' => ?_⟩
  split at q2
  · rename_i xs ys e1 e2
    split at q2
    · rename_i hl
      obtain ⟨a, vs, rfl, hA, d1⟩ := items_of r2 e1 (rv.ext x2)
      obtain ⟨b, us, rfl, hB, d2⟩ := items_of r2 e2 rv'
      refine ⟨a, b, vs, us, rfl, rfl, hA, hB, ?_, fun p hp => side_at q2 r2 (x1.trans x2) hp (d1.append d2)⟩
      rw [d1.length, d2.length]
      exact le_line hl
    · exact q2.elim
  · exact q2.elim
theorem sl_rep {a b : Expr} {pos : Pos} {fa fb : Ev} (ha : SE X W a fa) (hb : SE X W b fb) : SL X W (.BinOp a .Mult b pos) (lRep fa fb) := by
  refine (pe_op op_repR ha hb).imp fun σ H Q ⟨ρ, μ, α, F, r, re, q⟩ => ?_
  refine ⟨ρ, μ, α, F, r, re, q.bind.mono fun w μ1 α1 F1 H1 x1 r1 q1 v rv => ?_⟩
  refine ⟨ρ, μ1, α1, F1, r1, re.ext x1, q1.bind.mono fun u μ2 α2 F2 H2 x2 r2 q2 v' rv' => ?_⟩
  split at q2
  · rename_i xs k e1
    split at q2
    · rename_i hl
      have hl := repOk_ok hl
      obtain ⟨a, vs, rfl, hA, d1⟩ := items_of r2 e1 (rv.ext x2)
      cases rv'
      refine ⟨a, k, vs, rfl, rfl, hA, by omega, by omega, ?_, fun p hp => side_at q2 r2 (x1.trans x2) hp (DqAll.times d1 k.toNat)⟩
      rw [d1.length]
      exact le_line hl.2.2
    · exact q2.elim
  · exact q2.elim
/-- {} -/
def eDic : Ev := fun _ μ => .ok (.d (.dict [])) μ
theorem se_dic {pos : Pos} : SE X W (.Dict [] [] pos) eDic := by
  refine pe_dnewK.imp fun σ H Q ⟨ρ, μ, α, F, r, re, q⟩ => ?_
  intro p hp
  obtain ⟨r2, x2⟩ := r.new (o := .dK []) hp
  exact q.at x2 r2 _ (.dic upd_same)
end
end TL
/-! TL12: rules with their small conditions filled; what a def of the text is; the law's head. -/
namespace TL
variable [TabN]
open PySem PySem.Spec L2 PyProof.Rows RZ

abbrev GF := List Wv → Mu → Out Wv
/-- a def of the text at its place, and its promise -/
structure Has (P : Program) (w : World) (K : PySem.W.Frag) (mg : Str → Option Value) (base : Heap) (j : Nat) (x : Str) (st : Stmt) (ps : List Str) (n : Nat) (g : GF) (f : Addr) (fd : FuncData) : Prop where
  m : mg x = some (.ref f)
  F : Fun K x x st f fd
  b : Binds K fd ps []
  G : FnG P w K mg base j f fd ps (spG K mg n g)
theorem fng_bad {P : Program} {w : World} {K : PySem.W.Frag} {mg : Str → Option Value} {base : Heap} {j n : Nat} {f : Addr} {fd : FuncData} {ps : List Str} (hn : ps.length = n) : FnG P w K mg base j f fd ps (spG K mg n fun _ _ => .bad) := by
  refine ⟨fun vs H Q E h => by rw [h.len, hn], fun A outer s H args us vs Q E hr hg he hb hv h => ?_⟩
  obtain ⟨ws, μ, α, F, r, rv, q⟩ := h
  unfold arity at q
  split at q <;> exact q.elim
def cF (n : Nat) (g : GF) (as : Av) : Ev := fun ρ μ => (as ρ μ).bind fun ws μ1 => if ws.length = n then g ws μ1 else .bad
section
variable {X : Cx} {W : WX} {x : Str} {p pos : Pos} {e : Expr} {es : List Expr} {as : Av} {j k n : Nat} {st : Stmt} {ps : List Str} {g : GF} {f : Addr} {fd : FuncData}
theorem xV (i : Nat) (hN : X.N[i]? = some x := by rfl) (hv : Vis X.env.scope x := by first | exact Or.inl rfl | exact Or.inr (Or.inl rfl) | exact Or.inr (Or.inr rfl)) (hd : (x == ("__debug__" : Str)) = false := by decide) (hcd : (x == ("__classdict__" : Str)) = false := by decide) : SE X W (.Name x pos) (eVar i) := se_var hN hv hd hcd
theorem xCall (h : Has X.prog X.w X.K X.mg X.base j x st ps n g f fd) (hj : j ≤ k) (hr : Room k X.A) (hg : X.A.guards = some []) (tk : Takes X W) (gl : Gl X x) (ha : SA X W (e :: es) as)
    (hdb : (x == ("__debug__" : Str)) = false := by decide) (he : starEach (e :: es) X.env = (false, eval e X.env) :: starEach es X.env := by rfl) (hpl : (backTo pos (starEach es X.env)).any (·.1) = false := by rfl) :
    SE X W (.Call (.Name x p) (e :: es) [] pos) (cF n g as) := by
  have z := se_call (p := p) (pos := pos) (dv := []) (ds := []) (ws0 := []) (h.G.up hj) hr hg gl h.m h.F.kp h.b .nil (fun _ _ => .nil) tk ha hdb he hpl
  have e : eCall (fun ws μ => arity n g (ws ++ []) μ) as = cF n g as := by
    unfold eCall cF arity
    simp only [List.append_nil]
  rw [e] at z
  exact z
theorem xCall0 (h : Has X.prog X.w X.K X.mg X.base j x st ps n g f fd) (hj : j ≤ k) (hr : Room k X.A) (hg : X.A.guards = some []) (tk : Takes X W) (gl : Gl X x)
    (hdb : (x == ("__debug__" : Str)) = false := by decide) : SE X W (.Call (.Name x p) [] [] pos) (cF n g aNil) := by
  have z := se_call0 (p := p) (pos := pos) (dv := []) (ds := []) (ws0 := []) (h.G.up hj) hr hg gl h.m h.F.kp h.b .nil (fun _ _ => .nil) tk hdb
  have e : eCall (fun ws μ => arity n g (ws ++ []) μ) aNil = cF n g aNil := by
    unfold eCall cF arity
    simp only [List.append_nil]
  rw [e] at z
  exact z
/-- by keywords, in the order pm -/
def cFK (pm : List Nat) (n : Nat) (g : GF) (as : Av) : Ev := fun ρ μ => (as ρ μ).bind fun ws μ1 => if (permL pm ws).length = n then g (permL pm ws) μ1 else .bad
theorem xCallK {kws : List Keyword} {ks : List Str} {pm : List Nat} (h : Has X.prog X.w X.K X.mg X.base j x st ps n g f fd) (kb : KwBinds X.K fd ps ks pm []) (hj : j ≤ k) (hr : Room k X.A) (hg : X.A.guards = some []) (tk : Takes X W) (gl : Gl X x) (ha : SK X W kws as)
    (hall : (backToKw pos (keywordEach kws X.env)).all (·.1.isSome) = true := by rfl) (hks : (backToKw pos (keywordEach kws X.env)).filterMap (·.1) = ks := by rfl) (hdb : (x == ("__debug__" : Str)) = false := by decide)
    (hpl : ((backTo pos (starEach [] X.env)).any (·.1) || (backToKw pos (keywordEach kws X.env)).any (·.1.isNone)) = false := by rfl) : SE X W (.Call (.Name x p) [] kws pos) (cFK pm n g as) := by
  have z := se_callK (p := p) (pos := pos) (dv := []) (ds := []) (ws0 := []) (h.G.up hj) hr hg gl h.m h.F.kp kb .nil (fun _ _ => .nil) tk ha hall hks hdb hpl
  have e : eCall (fun ws μ => arity n g (permL pm (ws ++ [])) μ) as = cFK pm n g as := by
    unfold eCall cFK arity
    simp only [List.append_nil]
  rw [e] at z
  exact z
theorem xBi {id : String} {g : GF} (hc : CallR X (.builtin id) (rnG X.K X.mg g)) (hv : bootBuiltins x = some (.builtin id)) (hm : X.mg x = none) (hg : Gl X x) (ha : SA X W (e :: es) as) (hn : x ≠ "__name__" := by decide) (hdb : (x == ("__debug__" : Str)) = false := by decide)
    (he : starEach (e :: es) X.env = (false, eval e X.env) :: starEach es X.env := by rfl) (hpl : (backTo pos (starEach es X.env)).any (·.1) = false := by rfl) : SE X W (.Call (.Name x p) (e :: es) [] pos) (en g as) := se_bi hc hg hm hv ha hn hdb he hpl
theorem xTy {T : String} {g : GF} (hc : CallR X (.type T) (rnG X.K X.mg g)) (hv : bootBuiltins x = some (.type T)) (hm : X.mg x = none) (hg : Gl X x) (ha : SA X W (e :: es) as) (hn : x ≠ "__name__" := by decide) (hdb : (x == ("__debug__" : Str)) = false := by decide)
    (he : starEach (e :: es) X.env = (false, eval e X.env) :: starEach es X.env := by rfl) (hpl : (backTo pos (starEach es X.env)).any (·.1) = false := by rfl) : SE X W (.Call (.Name x p) (e :: es) [] pos) (en g as) := se_ty hc hg hm hv ha hn hdb he hpl
theorem xList (hm : X.mg "list" = none) (hg : Gl X "list") (ha : SA X W (e :: es) as)
    (he : starEach (e :: es) X.env = (false, eval e X.env) :: starEach es X.env := by rfl) (hpl : (backTo pos (starEach es X.env)).any (·.1) = false := by rfl) : SL X W (.Call (.Name "list" p) (e :: es) [] pos) (lList as) := TL.sl_list hg hm (by decide +kernel) ha (by decide) (by decide) he hpl
theorem bt_len : bootBuiltins "len" = some (.builtin "len") := by decide +kernel
theorem bt_abs : bootBuiltins "abs" = some (.builtin "abs") := by decide +kernel
theorem bt_max : bootBuiltins "max" = some (.builtin "max") := by decide +kernel
theorem bt_min : bootBuiltins "min" = some (.builtin "min") := by decide +kernel
theorem bt_sum : bootBuiltins "sum" = some (.builtin "sum") := by decide +kernel
theorem bt_all : bootBuiltins "all" = some (.builtin "all") := by decide +kernel
theorem bt_any : bootBuiltins "any" = some (.builtin "any") := by decide +kernel
theorem bt_repr : bootBuiltins "repr" = some (.builtin "repr") := by decide +kernel
theorem bt_divmod : bootBuiltins "divmod" = some (.builtin "divmod") := by decide +kernel
theorem bt_int : bootBuiltins "int" = some (.type "int") := by decide +kernel
theorem bt_str : bootBuiltins "str" = some (.type "str") := by decide +kernel
theorem bt_bool : bootBuiltins "bool" = some (.type "bool") := by decide +kernel
theorem bt_tuple : bootBuiltins "tuple" = some (.type "tuple") := by decide +kernel
theorem bt_list : bootBuiltins "list" = some (.type "list") := by decide +kernel
theorem xIsi {T : String} {f : Ev} {p2 : Pos} {y : Str} (hvT : bootBuiltins y = some (.type T)) (hm : X.mg "isinstance" = none) (hmT : X.mg y = none) (hg : Gl X "isinstance") (hgT : Gl X y) (he : SE X W e f) (hn : y ≠ "__name__" := by decide) (hdb : (y == ("__debug__" : Str)) = false := by decide)
    (h1 : starEach (e :: [.Name y p2]) X.env = (false, eval e X.env) :: starEach [.Name y p2] X.env := by rfl) : SE X W (.Call (.Name "isinstance" p) [e, .Name y p2] [] pos) (e1 (gIsi T) f) := se_isi hg hm hgT hmT hvT hn hdb he h1
theorem xA {a : Ev} (ha : SE X W e a) (hr : SA X W es as) (hs : starEach (e :: es) X.env = (false, eval e X.env) :: starEach es X.env := by rfl) : SA X W (e :: es) (aCons a as) := sa_cons ha hr hs
theorem xCmp {a b : Expr} {op : CmpOp} {g : Wv → Wv → Mu → Out Wv} {fa fb : Ev} (ho : OpR X (compareOp op) (r2G X.K X.mg g)) (ha : SE X W a fa) (hb : SE X W b fb) (hm : behindInMarks op b = false := by first | rfl | exact nomark _) : SE X W (.Compare a [op] [b] pos) (e2 g fa fb) := se_cmp ho ha hb hm
theorem xtCmp {a b : Expr} {op : CmpOp} {g : Wv → Wv → Mu → Out Wv} {fa fb : Ev} (ho : OpR X (compareOp op) (r2G X.K X.mg g)) (ha : SE X W a fa) (hb : SE X W b fb) (hm : behindInMarks op b = false := by first | rfl | exact nomark _) : ST X W (.Compare a [op] [b] pos) (tB' (e2 g fa fb)) := st_cmp ho ha hb hm
theorem xtVal {f : Ev} (h : SE X W e f) (he : ∀ whole, isTrue e X.env whole = (do let v ← whole; standAt e.pos; holding [v] (truthy v)) := by intro _; rfl) : ST X W e (tB' f) := st_val h he
theorem xIx {a b : Expr} {fa fb : Ev} (ha : SE X W a fa) (hb : SE X W b fb) (hs : PlainIx b := by intro _ _; rfl) : SE X W (.Subscript a b pos) (e2 gIx fa fb) := se_ix ha hb hs
theorem xSet (i : Nat) {f : Ev} {pos' : Pos} (hN : X.N.Nodup) (he : SE X W e f) (hi : X.N[i]? = some x := by rfl) (hx : Loc X.env.scope x := by first | exact Or.inl rfl | exact Or.inr rfl) (hs : swapsWith e (some (.Name x pos')) pos.line X.env = pure false := by rfl)
    (hf : X.fn x = true ∨ X.env.scope.names.lookup x = some .local := by first | exact Or.inl rfl | exact Or.inr rfl) : SS X W (.Assign [.Name x pos'] e pos) (sAsg f (gNm i)) := ss_set hN hi hx he hs hf
theorem xNm (i : Nat) (hN : X.N.Nodup) (hi : X.N[i]? = some x := by rfl) (hx : Loc X.env.scope x := by first | exact Or.inl rfl | exact Or.inr rfl) (hf : X.fn x = true ∨ X.env.scope.names.lookup x = some .local := by first | exact Or.inl rfl | exact Or.inr rfl) : SG X (.Name x pos) (gNm i) := sg_name hN hi hx hf
theorem xwNm (i : Nat) {os : List Nat} (hN : X.N.Nodup) (hi : X.N[i]? = some x := by rfl) (hx : Loc X.env.scope x := by first | exact Or.inl rfl | exact Or.inr rfl) (hf : X.fn x = true ∨ X.env.scope.names.lookup x = some .local := by first | exact Or.inl rfl | exact Or.inr rfl) (ho : i ∈ os := by decide) : SGw X os (.Name x pos) (gNm i) := sgw_name hN hi hx hf ho
theorem xG {t : Gv} {ts : List Gv} (h1 : SG X e t) (h2 : SGs X es ts) (hs : (assignEach (e :: es) X.env).map (·.2) = assign e X.env :: (assignEach es X.env).map (·.2) := by rfl) : SGs X (e :: es) (t :: ts) := sgs_cons h1 h2 hs
theorem xGT {kk : Nat} {ts : List Gv} (hc : X.calm = true) (h : SGs X es ts) (hn : (assignEach es X.env).length = ts.length := by rfl) (hst : (assignEach es X.env).findIdx? (·.1) = none := by rfl) : SG X (.Tuple es kk pos) (gTp ts) := sg_tup hc h hn hst
theorem xwG {os : List Nat} {t : Gv} {ts : List Gv} (h1 : SGw X os e t) (h2 : SGsw X os es ts) (hs : (assignEach (e :: es) X.env).map (·.2) = assign e X.env :: (assignEach es X.env).map (·.2) := by rfl) : SGsw X os (e :: es) (t :: ts) := sgsw_cons h1 h2 hs
theorem xwGT {os : List Nat} {kk : Nat} {ts : List Gv} (hc : X.calm = true) (h : SGsw X os es ts) (hn : (assignEach es X.env).length = ts.length := by rfl) (hst : (assignEach es X.env).findIdx? (·.1) = none := by rfl) : SGw X os (.Tuple es kk pos) (gTp ts) := sgw_tup hc h hn hst
theorem xGS {o i : Expr} {fo fi : Ev} (ho : SE X (fun _ _ _ _ => False) o fo) (hi : SE X (fun _ _ _ _ => False) i fi) (ha : ∀ v, assign (.Subscript o i pos) X.env v = (do
      let ov ← holding [v] (eval o X.env)
      let iv ← holding [v, ov] (eval i X.env)
      standAt pos
      holding [v, ov, iv] (setItem ov iv v)
      release [v, ov, iv] []) := by intro _; rfl) : SG X (.Subscript o i pos) (gSb fo fi) := sg_sub ho hi ha
theorem xAsg {tg : Expr} {f : Ev} {t : Gv} (he : SE X W e f) (hg : SG X tg t) (hs : swapsWithSole [tg] e pos.line X.env = pure false := by rfl) (hw : swappedStores [tg] e X.env = pure none := by rfl) (h1 : (assignEach [tg] X.env).map (·.2) = [assign tg X.env] := by rfl) :
    SS X W (.Assign [tg] e pos) (sAsg f t) := ss_asg he hg hs hw h1
theorem xExpr {f : Ev} (he : SE X W e f) (hs : swapsWith e none pos.line X.env = pure false := by rfl) : SS X W (.Expr e pos) (sExpr f) := ss_expr he hs
theorem xFor {tg : Expr} {body : List Stmt} {fi : Iv} {t : Gv} {b : Sv} (hp : PassesOwn (model X.prog X.w) X.A X.env X.xe) (hc : X.calm = true) (hi : SI X W tg e fi) (hg : SG X tg t) (hb : SSs X W body b) (hs : ∀ x, foldedSetIterable e X.env x = pure x := by intro _; rfl) : SS X W (.For tg e body [] pos) (sFor fi t b) := ss_for hp hc hi hg hb hs
theorem xR1 {tg a : Expr} (hm : X.mg "range" = none) (hg : Gl X "range") (ha : SA X W [a] as) (hs : starEach [a] X.env = [(false, eval a X.env)] := by rfl) : SI X W tg (.Call (.Name "range" p) [a] [] pos) (iR1 as) := si_r1 hg hm ha hs
theorem xR2 {tg a b : Expr} (hm : X.mg "range" = none) (hg : Gl X "range") (ha : SA X W [a, b] as) (hs : starEach [a, b] X.env = [(false, eval a X.env), (false, eval b X.env)] := by rfl) (hs2 : starEach [b] X.env = [(false, eval b X.env)] := by rfl) : SI X W tg (.Call (.Name "range" p) [a, b] [] pos) (iR2 as) := si_r2 hg hm ha hs hs2
theorem xR3 {tg a b c : Expr} (hm : X.mg "range" = none) (hg : Gl X "range") (ha : SA X W [a, b, c] as) (hs : starEach [a, b, c] X.env = (false, eval a X.env) :: starEach [b, c] X.env := by rfl) (hpl : (backTo pos (starEach [b, c] X.env)).any (·.1) = false := by rfl) :
    SI X W tg (.Call (.Name "range" p) [a, b, c] [] pos) (iR3 as) := si_r3 hg hm ha hs hpl
theorem xEnum {elts : List Expr} {kk : Nat} {tpos : Pos} (hm : X.mg "enumerate" = none) (hg : Gl X "enumerate") (ha : SA X W [e] as) (hs : starEach [e] X.env = [(false, eval e X.env)] := by rfl) : SI X W (.Tuple elts kk tpos) (.Call (.Name "enumerate" p) [e] [] pos) (iEnumS as) := si_enum hg hm ha hs
theorem xZip {e2 : Expr} {elts : List Expr} {kk : Nat} {tpos : Pos} (hm : X.mg "zip" = none) (hg : Gl X "zip") (ha : SA X W [e, e2] as) (hs : starEach [e, e2] X.env = (false, eval e X.env) :: starEach [e2] X.env := by rfl) (hpl : (backTo pos (starEach [e2] X.env)).any (·.1) = false := by rfl) :
    SI X W (.Tuple elts kk tpos) (.Call (.Name "zip" p) [e, e2] [] pos) (iZipS as) := si_zip hg hm ha hs hpl
theorem xLc {elt tg iter : Expr} {ifs : List Expr} {scope : Scope} {fi : Iv} {t : Gv} {c : Bv} {v : Ev} (own : List (Str × Nat)) (hc : X.calm = true) (hN : X.N.Nodup) (hi : SI X W tg iter fi)
    (hg : ∀ s H C cl fp, SGw (Bk X scope s H C cl fp) (own.map (·.2)) tg t) (ht : ∀ s H C cl fp, STs (Bk X scope s H C cl fp) W0 ifs c) (he : ∀ s H C cl fp, SE (Bk X scope s H C cl fp) W0 elt v)
    (ok : BlkOk X.N X.env.scope scope own := by exact blkOk_by (by decide +kernel)) (hs : ∀ x, foldedSetIterable iter X.env x = pure x := by intro _; rfl) : SL X W (.ListComp elt [⟨tg, iter, ifs, 0⟩] scope pos) (lLc fi t c v (own.map (·.2))) := sl_lc hc hN hi ok hg ht he hs
theorem xSetLcN (i : Nat) {y : Str} {py spos : Pos} {elt tg iter : Expr} {ifs : List Expr} {scope : Scope} {fi : Iv} {t : Gv} {c : Bv} {v : Ev} (own : List (Str × Nat)) (hc : X.calm = true) (hN : X.N.Nodup) (hi : SI X W tg iter fi)
    (hg : ∀ s H C cl fp, SGw (Bk X scope s H C cl fp) (own.map (·.2)) tg t) (ht : ∀ s H C cl fp, STs (Bk X scope s H C cl fp) W0 ifs c) (he : ∀ s H C cl fp, SE (Bk X scope s H C cl fp) W0 elt v)
    (hy : X.N[i]? = some y := by rfl) (hyl : X.env.scope.names.lookup y = some .local := by rfl) (hsw : swapsWith (.ListComp elt [⟨tg, iter, ifs, 0⟩] scope pos) (some (.Name y py)) spos.line X.env = pure true := by rfl)
    (ok : BlkOk X.N X.env.scope scope own := by exact blkOk_by (by decide +kernel)) (hs : ∀ x, foldedSetIterable iter X.env x = pure x := by intro _; rfl) : SS X W (.Assign [.Name y py] (.ListComp elt [⟨tg, iter, ifs, 0⟩] scope pos) spos) (sAsg (eNew (lLc fi t c v (own.map (·.2)))) (gNm i)) := ss_setLcN hc hN hy hyl hsw hi ok hg ht he hs
theorem xSetLcF (i : Nat) {y : Str} {py spos : Pos} {elt tg iter : Expr} {ifs : List Expr} {scope : Scope} {fi : Iv} {t : Gv} {c : Bv} {v : Ev} (own : List (Str × Nat)) (hc : X.calm = true) (hN : X.N.Nodup) (hi : SI X W tg iter fi)
    (hg : ∀ s H C cl fp, SGw (Bk X scope s H C cl fp) (own.map (·.2)) tg t) (ht : ∀ s H C cl fp, STs (Bk X scope s H C cl fp) W0 ifs c) (he : ∀ s H C cl fp, SE (Bk X scope s H C cl fp) W0 elt v)
    (hy : X.N[i]? = some y := by rfl) (hyl : X.env.scope.names.lookup y = some .local := by rfl) (hsw : swapsWith (.ListComp elt [⟨tg, iter, ifs, 0⟩] scope pos) (some (.Name y py)) spos.line X.env = pure true := by rfl)
    (ok : BlkOk X.N X.env.scope scope own := by exact blkOk_by (by decide +kernel)) (hs : ∀ x, foldedSetIterable iter X.env x = pure x := by intro _; rfl) : SS X W (.Assign [.Name y py] (.ListComp elt [⟨tg, iter, ifs, 0⟩] scope pos) spos) (sAsg (eFrz (lLc fi t c v (own.map (·.2)))) (gNm i)) := ss_setLcF hc hN hy hyl hsw hi ok hg ht he hs
theorem xApp {o : Expr} {apos cpos : Pos} {fo : Ev} (ho : SE X W o fo) (ha : SA X W (e :: es) as) (hb : attributeBase o "append" X.env (eval o X.env) = eval o X.env := by rfl)
    (hfew : ((backTo cpos (starEach (e :: es) X.env)).all (fun x => !x.1) && (backToKw cpos (keywordEach [] X.env)).all (fun x => x.1.isSome) && decide ((e :: es).length + ([] : List Keyword).length + (if ([] : List Keyword).isEmpty then 0 else 1) < 30)) = true := by rfl)
    (hl : (apos.endLine == cpos.line) = true := by rfl) (hs : starEach (e :: es) X.env = (false, eval e X.env) :: starEach es X.env := by rfl) (hp : (backTo cpos (starEach es X.env)).any (·.1) = false := by rfl) :
    SE X W (.Call (.Attribute o "append" apos) (e :: es) [] cpos) (eMeth1 gApp fo as) := se_app ho ha hb hfew hl hs hp
theorem xPop {o : Expr} {apos cpos : Pos} {fo : Ev} (ho : SE X W o fo) (hb : attributeBase o "pop" X.env (eval o X.env) = eval o X.env := by rfl) (hl : (apos.endLine == cpos.line) = true := by rfl) : SE X W (.Call (.Attribute o "pop" apos) [] [] cpos) (e1 gPop fo) := se_pop ho hb hl
end

/-! ### the law's head -/
theorem DqAll.ofInts {K : PySem.W.Frag} {H : Hp} : ∀ ns : List Int, DqAll K H (ns.map V.int) (ns.map PyData.int)
  | [] => .nil
  | n :: r => .cons (.int n) (DqAll.ofInts r)
section
variable {P : Program} {w : World} {K : PySem.W.Frag} {mg mb : Str → Option Value} {k : Nat} {fa a : Addr} {fd : FuncData} {x : Str} {g : GF} {s₁ : Shared} {vs : List Value} {ns : List Int}
theorem head_call (noT : TabN.T = [] ∧ TabN.O = []) (inK : K.In s₁.heap) (gl : s₁.heap.Ns mainGlobals mg) (bl : s₁.heap.Ns builtinsNs mb) (bb : ∀ y : Str, y ≠ "__name__" → mb y = bootBuiltins y) (nl : s₁.heap.NoLimit) (ng : s₁.gens = #[])
    (ob : s₁.heap.get? a = some { cls := .type "list", data := .seq vs.toArray }) (isI : IntsAre vs ns) (len : ns.length ≤ sizeLine) (room : Room k callerA)
    (F : ∀ base : Heap, K.In base → base.Ns mainGlobals mg → FnG P w K mg base k fa fd [x] (spG K mg 1 g)) (bind : ∀ (s : Shared) (u : Value), BindsTo s fd ⟨[u], []⟩ [(x, u)])
    (sem : arity 1 g [.d (.list (ns.map PyData.int))] [] = .ok (.d (.bool true)) []) :
    codeAny (model P w) callerA (.call (.ref fa) ⟨[.ref a], []⟩) (fun r s' => r = .ok (.ret (.bool true)) ∧ OldK s₁.heap s'.heap ∧ s'.os = s₁.os ∧ AllBare s'.gens) s₁ := by
  have rel := vals_ints isI
  have cnt := isI.length
  have go : ∀ H : Hp, (∀ b, H b ≠ none → b = a) → (H a ≠ none → K.lookup a = none) → HOk P w H s₁.heap → Only H → Ls K H a (ns.map V.int) →
      codeAny (model P w) callerA (.call (.ref fa) ⟨[.ref a], []⟩) (fun r s' => r = .ok (.ret (.bool true)) ∧ OldK s₁.heap s'.heap ∧ s'.os = s₁.os ∧ AllBare s'.gens) s₁ := by
    intro H alone apart hk only lies
    have far : ∀ {b : Addr} {o : Obj}, s₁.heap.get? b = some o → b ≠ a → (hidT s₁.heap H).get? b = some o := fun {b o} got ne => hidT_get got (Classical.byContradiction fun z => ne (alone b z))
    have space : ∀ {b : Addr} {m : Str → Option Value}, s₁.heap.Ns b m → (hidT s₁.heap H).Ns b m := by
      rintro b m ⟨o, es, ep, got, dat, rest⟩
      refine ⟨o, es, ep, far got fun eq => ?_, dat, rest⟩
      rw [eq, ob] at got
      cases got
      exact nomatch dat
    have known : K.In (hidT s₁.heap H) := by
      intro b o kb
      by_cases eq : b = a
      · subst eq
        refine hidT_get (inK _ o kb) (Classical.byContradiction fun z => ?_)
        rw [apart z] at kb
        exact nomatch kb
      · exact far (inK b o kb) eq
    have lim : (hidT s₁.heap H).NoLimit := by
      obtain ⟨mc, l1, l2⟩ := nl
      exact ⟨mc, space l1, l2⟩
    have md : Mod K mg (hidT s₁.heap H) := ⟨known, space gl, ⟨mb, space bl, bb⟩, lim⟩
    have en0 : Env0 P w K mg (hidT s₁.heap H) callerA [] s₁ H :=
      ⟨rfl, md, fun b o z => of_hidT z, Nat.le_of_eq (hidT_size _ _), trivial, fun b z => (nomatch (show b ∈ ([] : List Addr) from z)), hk, .of_eq ng⟩
    have data : Dq K H (.ref a) (.list (ns.map PyData.int)) := .lst lies (DqAll.ofInts ns)
    have want : spG K mg 1 g [.ref a] H (fun v _ => v = .bl true) (fun _ _ _ => False) := by
      refine ⟨[.d (.list (ns.map PyData.int))], [], [], H, ⟨rfl, Same.refl _, by rw [noT.2]; exact Nat.le_refl _, fun i c z => ?_, fun i j b c c' z => ?_, fun b z => (nomatch z), ⟨fun p hp => (by rw [noT.1] at hp; cases hp), fun z => absurd noT.1 z⟩⟩, .cons data .nil, ?_⟩
      · simp at z
      · simp at z
      · rw [sem]
        intro α' F' H' _ _ v rv
        have rv : Dq K F' v (.bool true) := rv
        cases rv
        rfl
    refine codeAny_mono ((F _ known (space gl)).run callerA [] s₁ H ⟨[.ref a], []⟩ [.ref a] [.ref a] _ _ room rfl en0 (bind s₁ (.ref a)) (.cons rfl .nil) want) fun r s' got => ?_
    rcases r with er | fl
    · obtain ⟨_, _, _, _, _, _, _, _, _, _, _, _, z⟩ := got
      exact z.elim
    · cases fl with
      | ret u =>
        obtain ⟨v, H', os, bare, un, hk', ru, rfl⟩ := got
        cases (show u = Value.bool true from ru)
        refine ⟨rfl, OldK.of_keep fun b o z => ?_, os, bare⟩
        rcases only b with n | ⟨o', xs, fz⟩
        · exact un.keep b o z n (fun y => nomatch (show b ∈ ([] : List Addr) from y)) (by simp)
        · have fz' := un.frzs b o' _ fz
          have g1 := (hk b _ fz).1
          have g2 := (hk' b _ fz').1
          rw [g1] at z
          cases z
          exact g2
      | _ => exact False.elim got
  cases lk : K.lookup a with
  | some o =>
    have got := inK a o lk
    rw [ob] at got
    cases got
    exact go (fun _ => none) (fun b z => absurd rfl z) (fun z => absurd rfl z) (fun b u z => nomatch (show (none : Option HO) = some u from z)) (fun _ => .inl rfl)
      (.inr ⟨vs, _, lk, by rw [List.length_map]; exact len, rel⟩)
  | none =>
    have at_ : ∀ b u, (if b = a then some (HO.frz { cls := .type "list", data := .seq vs.toArray } (.lst (ns.map V.int))) else none) = some u → b = a ∧ u = HO.frz { cls := .type "list", data := .seq vs.toArray } (.lst (ns.map V.int)) := fun b u z => by
      split at z
      · exact ⟨by assumption, (Option.some.inj z).symm⟩
      · exact nomatch z
    refine go (fun b => if b = a then some (.frz { cls := .type "list", data := .seq vs.toArray } (.lst (ns.map V.int))) else none) (fun b z => ?_) (fun _ => lk) (fun b u z => ?_) (fun b => ?_) (.inl (.inr ⟨_, if_pos rfl⟩))
    · by_cases eq : b = a
      · exact eq
      · exact absurd (if_neg eq) z
    · obtain ⟨rfl, rfl⟩ := at_ b u z
      exact ⟨ob, by rw [List.length_map]; exact len, vs, _, rel, ob⟩
    · by_cases eq : b = a
      · exact .inr ⟨_, _, if_pos eq⟩
      · exact .inl (if_neg eq)
/-- what is left of a law behind k_head: each def's promise, and that the law's own function tells True -/
theorem walk_G {l : PySem.W.OpenLaw} {n k : Nat} {q : Program} {loose : List Str} {XP : (Str → Option Value) → Heap → Prop} {YP : World → Heap → Prop} {d : DefRec} {K : Params → PySem.W.Frag} {x : Str} {g : GF}
    (noT : TabN.T = [] ∧ TabN.O = []) (hn : l.most = some n) (hn2 : n ≤ sizeLine) (hdf : d.params.defaults = []) (room : Room k callerA) (hY : ∀ (w : World) (h : Heap), YP w h → (K w.params).In h)
    (F : ∀ (w : World) (mg : Str → Option Value) (fa : Addr) (h : Heap), (K w.params).In h → h.Ns mainGlobals mg → mg d.name = some (.ref fa) →
      ∃ fd : FuncData, (∀ (s : Shared) (u : Value), BindsTo s fd ⟨[u], []⟩ [(x, u)]) ∧ ∀ base : Heap, (K w.params).In base → base.Ns mainGlobals mg → FnG l.prog w (K w.params) mg base k fa fd [x] (spG (K w.params) mg 1 g))
    (sem : ∀ ns : List Int, ns.length ≤ n → (∀ z ∈ ns, Builtin.Int.intBits z ≤ 1048576) → arity 1 g [.d (.list (ns.map PyData.int))] [] = .ok (.d (.bool true)) []) :
    PySem.W.WalkO q loose XP YP l.row.toRowW d [] (fun f vs => PySem.call f vs) := by
  refine Att.attach_callB hn hdf fun w s₀ s₁ mg mb fa o pm cd doc a vs ns G Y _ _ _ named obj isI many bits gens => ?_
  have inK := hY w _ Y
  obtain ⟨fd, bind, prom⟩ := F w mg fa _ inK G.T.g named
  exact head_call noT inK G.T.g G.T.b G.T.builtins G.T.nolimit gens obj isI (Nat.le_trans many hn2) room prom bind (sem ns many bits)
end
end TL
/-! TL13: tuple * int, gcd, pairs, constants of the module, defaults. -/
namespace TL
variable [TabN]
open PySem PySem.Spec L2 PyProof.Rows RZ
/-- one time, or nothing to repeat: the object itself -/
theorem tuple_mul_same (l : Addr) (items : Array Value) (n : Nat) (dd : Option Addr) (sl : Array (Option Value)) (x : Int) (u : Tok) (c0 : (decide (x < -(2 ^ 63)) || decide (x ≥ 2 ^ 63)) = false) (c1 : (items.isEmpty || x == 1) = true) :
    Meets (Builtin.«tuple.__mul__» ⟨[.ref l, .int x u], []⟩) (fun _ R s => s.heap.get? l = some { cls := .type "tuple", dict := dd, data := .seq items n, slots := sl } ∧ R (.ok (.ret (Value.ref l))) s) :=
  .of_wp fun prog w A R s h => by
    obtain ⟨hp, g, d, tk, os⟩ := s
    obtain ⟨hl, h⟩ := h
    have f1 := AutoSeq1.idx_int
    wp_walk using wpAny_loadPart' hl
    repeat (first
      | (refine wpAny_ite_false (decide_eq_false (by rw [c0]; exact Bool.false_ne_true)) ?_; wp_walk using wpAny_loadPart' hl)
      | (refine wpAny_ite_true (decide_eq_true c1) ?_; wp_walk using wpAny_loadPart' hl))
    exact ⟨_, rfl, h⟩
theorem tuple_mul_none (l : Addr) (items : Array Value) (n : Nat) (dd : Option Addr) (sl : Array (Option Value)) (x : Int) (u : Tok) (c0 : (decide (x < -(2 ^ 63)) || decide (x ≥ 2 ^ 63)) = false) (c1 : (items.isEmpty || x == 1) = false) (c2 : (decide (x ≤ 0) || items.isEmpty) = true) :
    Meets (Builtin.«tuple.__mul__» ⟨[.ref l, .int x u], []⟩) (fun _ R s => s.heap.get? l = some { cls := .type "tuple", dict := dd, data := .seq items n, slots := sl } ∧
      R (.ok (.ret (Value.ref s.heap.objs.size))) { s with heap := s.heap.push { cls := Value.type "tuple", data := Data.seq #[] }, toks := s.toks }) :=
  .of_wp fun prog w A R s h => by
    obtain ⟨hp, g, d, tk, os⟩ := s
    obtain ⟨hl, h⟩ := h
    have f1 := AutoSeq1.idx_int
    wp_walk using wpAny_loadPart' hl
    repeat (first
      | (refine wpAny_ite_false (decide_eq_false (by rw [c0]; exact Bool.false_ne_true)) ?_; wp_walk using wpAny_loadPart' hl)
      | (refine wpAny_ite_false (decide_eq_false (by rw [c1]; exact Bool.false_ne_true)) ?_; wp_walk using wpAny_loadPart' hl)
      | (refine wpAny_ite_true (decide_eq_true c2) ?_; wp_walk using wpAny_loadPart' hl))
    exact ⟨_, rfl, h⟩
noncomputable def gTimesT (a b : Wv) (μ : Mu) : Out Wv :=
  match a, b with
  | .d (.tuple xs), .d (.int k) => if -1000 ≤ k ∧ k ≤ 1000 ∧ xs.length ≤ 1000 then .ok (.d (.tuple (List.replicate k.toNat xs).flatten)) μ else .bad
  | _, _ => gTimes a b μ
section
variable {X : Cx} {W : WX}
theorem op_gTimesT : OpR X (binaryOp .Mult) (r2G X.K X.mg gTimesT) := by
  intro pins s σ H x y v u Q I rx ry ⟨μ, α, Fz, w1, w2, r, h1, h2, q⟩
  unfold gTimesT at q
  split at q
  · rename_i xs k
    split at q
    · rename_i hk
      cases h1 with
      | @tup a vs _ t1 d1 =>
        cases h2
        have tH := sameT r.sub t1
        by_cases hbig : xs ≠ [] ∧ 2 ≤ k
        · refine op_repT pins s σ H _ _ v u Q I rx ry ⟨a, k, vs, rfl, rfl, tH, fun e => hbig.1 ?_, hbig.2, hk.2.1, by rw [d1.length]; exact hk.2.2, fun p hp => ?_⟩
          · have := d1.length
            rw [e] at this
            exact List.eq_nil_of_length_eq_zero this.symm
          · obtain ⟨r2, x2⟩ := r.new (o := .tup (List.replicate k.toNat vs).flatten) hp
            exact q.at x2 r2 _ (.tup (.inl (.inl upd_same)) (DqAll.times (d1.mono x2.fro) k.toNat))
        · cases rx
          obtain ⟨t, rfl⟩ := ry
          obtain ⟨its, ri, ⟨⟨cls, dd, data, sl⟩, ho, hc, n, hd⟩, hs⟩ := I.tuple tH
          simp only at hc hd
          subst hc hd
          have hle : its.length = xs.length := by rw [← ri.length, d1.length]
          have c0 : (decide (k < -(2 ^ 63)) || decide (k ≥ 2 ^ 63)) = false := by
            rw [decide_eq_false (by omega), decide_eq_false (by omega)] <;> rfl
          by_cases h1 : (its.toArray.isEmpty || k == 1) = true
          · have hval : (List.replicate k.toNat xs).flatten = xs := by
              rcases Bool.or_eq_true_iff.mp h1 with e | e
              · have e0 : its.length = 0 := by simpa [Array.isEmpty] using e
                have : xs = [] := List.eq_nil_of_length_eq_zero (by omega)
                subst this
                simp
              · have : k = 1 := by simpa using e
                subst this
                simp
            rw [hval] at q
            refine wpAny_binaryOp_repeat_ref (T := "tuple") (U := "int") (by decide) ⟨_, ho, rfl⟩ (fun s' => typeIs_int s' k t) L2.noFill_tuple_mul F.fills_int_mul F.slot_int_rmul L2.repeat_tuple F.slot_int_index.lookup
              (call_meets F.slot_int_rmul (typeIs_int s k t) F.entry_int_rmul (F.args_int_rmul_2 _ _) (L2.int_rmul_tuple k t a its.toArray n dd sl)
                ⟨ho, rfl, ⟨_, ho, rfl⟩, call_meets F.slot_tuple_mul ⟨_, ho, rfl⟩ F.entry_tuple_mul (F.args_tuple_mul_2 _ _) (tuple_mul_same a its.toArray n dd sl k t c0 h1) ⟨ho, ?_⟩⟩)
            exact ⟨V.ref a, H, I, rfl, q.now r _ (.tup t1 d1)⟩
          · rw [Bool.not_eq_true] at h1
            have hne : its.toArray.isEmpty = false := by
              cases z : its.toArray.isEmpty with
              | false => rfl
              | true => rw [z] at h1; cases h1
            have hxs : xs ≠ [] := fun e => by
              rw [e] at hle
              have : its = [] := List.eq_nil_of_length_eq_zero hle
              rw [this] at hne
              cases hne
            have hk1 : k ≠ 1 := fun e => by
              rw [e] at h1
              simp at h1
            have hk0 : k ≤ 0 := by
              have : ¬ 2 ≤ k := fun z => hbig ⟨hxs, z⟩
              omega
            have hval : (List.replicate k.toNat xs).flatten = [] := by
              have : k.toNat = 0 := by omega
              rw [this]
              rfl
            rw [hval] at q
            have c2 : (decide (k ≤ 0) || its.toArray.isEmpty) = true := by
              rw [decide_eq_true hk0]
              rfl
            refine wpAny_binaryOp_repeat_ref (T := "tuple") (U := "int") (by decide) ⟨_, ho, rfl⟩ (fun s' => typeIs_int s' k t) L2.noFill_tuple_mul F.fills_int_mul F.slot_int_rmul L2.repeat_tuple F.slot_int_index.lookup
              (call_meets F.slot_int_rmul (typeIs_int s k t) F.entry_int_rmul (F.args_int_rmul_2 _ _) (L2.int_rmul_tuple k t a its.toArray n dd sl)
                ⟨ho, rfl, ⟨_, ho, rfl⟩, call_meets F.slot_tuple_mul ⟨_, ho, rfl⟩ F.entry_tuple_mul (F.args_tuple_mul_2 _ _) (tuple_mul_none a its.toArray n dd sl k t c0 h1 c2) ⟨ho, ?_⟩⟩)
            have nf := I.hok.fresh (Nat.le_refl s.heap.objs.size)
            obtain ⟨r2, x2⟩ := r.new (o := .tup []) nf
            refine ⟨.ref s.heap.objs.size, _, I.laid (t' := s.toks) (o := .tup []) (fun b ob q => Heap.get?_push_of_some _ q) (Nat.le_refl _) ?_, rfl, q.at x2 r2 _ (.tup (.inl (.inl upd_same)) .nil)⟩
            exact ⟨Nat.zero_le _, [], .nil, IsTup.new _ _⟩
    · exact q.elim
  · exact op_gTimes pins s σ H x y v u Q I rx ry ⟨μ, α, Fz, w1, w2, r, h1, h2, q⟩

/-! ### a function of the library bound at the top; pairs -/
variable {x y : Str} {p pos : Pos} {e : Expr} {es : List Expr} {as : Av}
theorem xBif {id : String} {g : GF} (hc : CallR X (.builtin id) (rnG X.K X.mg g)) (hm : X.mg x = some (.builtin id)) (hg : Gl X x) (ha : SA X W (e :: es) as) (hdb : (x == ("__debug__" : Str)) = false := by decide)
    (he : starEach (e :: es) X.env = (false, eval e X.env) :: starEach es X.env := by rfl) (hpl : (backTo pos (starEach es X.env)).any (·.1) = false := by rfl) : SE X W (.Call (.Name x p) (e :: es) [] pos) (en g as) := se_bif hc hg hm ha hdb he hpl
theorem xPar (i j : Nat) {a b : Expr} {px py pt : Pos} {kt k2 : Nat} {pt2 : Pos} (hc : X.calm = true) (hN : X.N.Nodup) (ha : SA X W [a, b] as) (hi : X.N[i]? = some x := by rfl) (hj : X.N[j]? = some y := by rfl) (hij : i ≠ j := by decide)
    (hx : X.env.scope.names.lookup x = some .local := by rfl) (hy : X.env.scope.names.lookup y = some .local := by rfl)
    (hw : swappedStores [.Tuple [.Name x px, .Name y py] kt pt] (.Tuple [a, b] k2 pt2) X.env = pure (some [x, y]) := by rfl) (hs : swapsWithSole [.Tuple [.Name x px, .Name y py] kt pt] (.Tuple [a, b] k2 pt2) pos.line X.env = pure false := by rfl) :
    SS X W (.Assign [.Tuple [.Name x px, .Name y py] kt pt] (.Tuple [a, b] k2 pt2) pos) (sPar i j as) := ss_par hc hN hi hj hij hx hy ha hw hs
def sNever : Sv := fun _ _ => .bad
theorem ss_nev {st : Stmt} : SS X W st sNever := ss_never
/-- a constant of the module -/
def Con (K : PySem.W.Frag) (mg : Str → Option Value) (x : Str) (c : PyData) : Prop := ∃ v u, mg x = some u ∧ RelV v u ∧ ∀ F, Dq K F v c
theorem xCon {c : PyData} (h : Con X.K X.mg x c) (hg : Gl X x) (hd : (x == ("__debug__" : Str)) = false := by decide) : SE X W (.Name x pos) (eK c) := by
  obtain ⟨v, u, hm, r, hc⟩ := h
  exact se_glob hg hm r hc hd
end
end TL
/-! TL14: enumerate over a tuple. -/
namespace TL
variable [TabN]
open PySem PySem.Spec L2 PyProof.Rows RZ
open AutoSeq1 (wpAny_loadPart')
theorem meets_enum_tup (l : Addr) (items : Array Value) (n : Nat) (dct : Option Addr) (sl : Array (Option Value)) :
    Meets (Builtin.«enumerate.__new__» ⟨[.type "enumerate", .ref l], []⟩) (fun _ R s => s.heap.get? l = some { cls := .type "tuple", dict := dct, data := .seq items n, slots := sl } ∧
      R (.ok (.ret (.ref (s.heap.push { cls := .type "tuple_iterator", data := .fields #[.ref l, .int 0 0] }).objs.size)))
        { s with heap := (s.heap.push { cls := .type "tuple_iterator", data := .fields #[.ref l, .int 0 0] }).push { cls := .type "enumerate", data := .fields #[.none, .bool false, .ref s.heap.objs.size, rawInt 0, .none, .none] } }) :=
  .of_wp fun prog w A R s h => by
    obtain ⟨hp, g, d, tk, os⟩ := s
    obtain ⟨hl, h⟩ := h
    have hsub := sub_enumerate
    have hT : Heap.IsTuple (Shared.heap ⟨hp, g, d, tk, os⟩) l items := ⟨_, hl, rfl, n, rfl⟩
    wp_walk using wpAny_loadPart' hl
    refine wpAny_stack_any fun st => wpAny_pure ?_
    split
    · rename_i c _ _ _ _ _
      cases (c == Value.type "enumerate")
      · wp_walk using wpAny_loadPart' hl, wpAny_pyIter_tuple hT
        exact ⟨_, rfl, h⟩
      · wp_walk using wpAny_loadPart' hl, wpAny_pyIter_tuple hT
        exact ⟨_, rfl, h⟩
    · wp_walk using wpAny_loadPart' hl, wpAny_pyIter_tuple hT
      exact ⟨_, rfl, h⟩
theorem call_enum_tup {prog : Program} {w : World} {A : Around} {E : Value → Shared → Prop} {s : Shared} {l : Addr} {items : Array Value} {Q : Value → Shared → Prop} (hT : s.heap.IsTuple l items)
    (h : ∀ h', IsEnum h' (s.heap.objs.size + 1) s.heap.objs.size 0 .none → h'.IsTupleIter s.heap.objs.size l 0 → h'.objs.size = s.heap.objs.size + 2 →
      (∀ b o, s.heap.get? b = some o → h'.get? b = some o) → Q (.ref (s.heap.objs.size + 1)) { s with heap := h' }) :
    wpAny (model prog w) A (call (.type "enumerate") [.ref l]) Q E s := by
  obtain ⟨⟨c, dct, dt, sl⟩, hl, hc, n, hd⟩ := hT
  simp only at hc hd
  subst hc hd
  refine callType_new F.called_enumerate (by decide) (F.typeCall_enumerate_1 _) (F.newCall_enumerate_1 _) (fun obj => F.args_object_init_2 obj _) F.entry_enumerate_new
    (meets_enum_tup l items n dct sl) ⟨hl, ?_⟩
  have two : ((s.heap.push { cls := .type "tuple_iterator", data := .fields #[.ref l, .int 0 0] }).push { cls := .type "enumerate", data := .fields #[.none, .bool false, .ref s.heap.objs.size, rawInt 0, .none, .none] }).get? (s.heap.objs.size + 1) =
      some { cls := .type "enumerate", data := .fields #[.none, .bool false, .ref s.heap.objs.size, rawInt 0, .none, .none] } := by
    have := Heap.get?_push_size (s.heap.push { cls := .type "tuple_iterator", data := .fields #[.ref l, .int 0 0] }) (o := { cls := .type "enumerate", data := .fields #[.none, .bool false, .ref s.heap.objs.size, rawInt 0, .none, .none] }) rfl
    rw [Heap.size_push] at this
    exact this
  show _ ∧ _
  rw [Heap.size_push]
  exact ⟨⟨_, two, rfl⟩, h _ two ⟨_, Heap.get?_push_of_some _ (Heap.get?_push_size _ rfl), rfl, rfl⟩ (by rw [Heap.size_push, Heap.size_push]) fun b o x => Heap.get?_push_of_some _ (Heap.get?_push_of_some _ x)⟩
/-- the tuple at a, each item in a new pair -/
def IteT (K : PySem.W.Frag) (a : Addr) : It :=
  ⟨fun i H => ∃ (xs : List V) (x : V), SqT K H a xs ∧ xs[i]? = some x, fun i H v H' => ∃ T x, v = .ref T ∧ H T = none ∧ H' = upd H T (.tup [.int (i : Nat), x]) ∧ ∀ xs, SqT K H a xs → xs[i]? = some x, fun i H => ∃ xs : List V, SqT K H a xs ∧ xs.length ≤ i⟩
theorem turn_enumT {P : Program} {w : World} {K : PySem.W.Frag} {elts : List Expr} {kk : Nat} {tpos : Pos} (a e it : Addr) (hae : a ≠ e) (hai : a ≠ it) :
    Turn P w K (.Tuple elts kk tpos) (IteT K a) [e, it] e (fun i h => (∃ old, IsEnum h e it ((i : Nat) : Int) old) ∧ h.IsTupleIter it a i ∧ e ≠ it) where
  mem := by simp
  obj := fun i h st b hb => by
    obtain ⟨⟨old, he⟩, ⟨o, ho, hc, hd⟩, _⟩ := st
    have two : b = e ∨ b = it := by simpa using hb
    rcases two with z | z
    · rw [z]
      exact ⟨_, he, fun v q => nomatch q⟩
    · rw [z]
      exact ⟨o, ho, fun v q => by rw [hd] at q; cases q⟩
  keep := fun i h h' st k => ⟨⟨st.1.choose, k e (by simp) _ st.1.choose_spec⟩, st.2.1.at fun o q => k it (by simp) o q, st.2.2⟩
  item := by
    intro X hP hw hK hc i pins s σ H E I hf st hg
    subst hP hw hK
    obtain ⟨⟨old, he⟩, hit, hne⟩ := st
    obtain ⟨xs, x, hq, hx⟩ := hg
    obtain ⟨its, rv, p, hz⟩ := I.tuple hq
    obtain ⟨u, hu, ru⟩ := rv.get hx
    have hel : e < s.heap.objs.size := Heap.lt_size he
    have hil : it < s.heap.objs.size := by
      obtain ⟨_, q, _⟩ := hit
      exact Heap.lt_size q
    have pT : s.heap.IsTuple a its.toArray := p
    have D := Draws.tuple (prog := X.prog) (w := X.w) (A := X.A.in1) (by rw [show X.A.in1.handled = X.A.handled from rfl]; exact I.ok.hd hc) it a hai its.toArray
    have hlt : i < its.toArray.size := by
      rw [List.size_toArray]
      exact (List.getElem?_eq_some_iff.mp hu).1
    refine wpAny_pyNext_enum_itemD D he ⟨hit, pT⟩ hlt hne (by simp; exact ⟨hne, Ne.symm hae⟩) fun y h' tk hy ho st' hT hsz hk => ?_
    have ey : y = u := by
      have hy : its.toArray[i]? = some y := hy
      rw [List.getElem?_toArray, hu] at hy
      exact (Option.some.inj hy).symm
    subst ey
    refine ⟨_, rfl, wpAny_letOwnedTupleGo_enum (s := { s with heap := h', toks := tk + 1 }) ho fun h2 he2 sb => ?_⟩
    have hT2 : h2.get? s.heap.objs.size = some { cls := .type "tuple", data := .seq #[.int i tk, y] } := (sb.2 _ (Nat.ne_of_gt hel)).trans hT
    have new : ObjOk X.prog X.w (upd H s.heap.objs.size (.tup [.int (i : Nat), x])) h2 s.heap.objs.size (.tup [.int (i : Nat), x]) :=
      ⟨by show 2 ≤ sizeLine; decide, [.int i tk, y], .cons ⟨_, rfl⟩ (.cons ru .nil), ⟨_, hT2, rfl, _, rfl⟩⟩
    have I1 : Inv X pins σ (upd H s.heap.objs.size (.tup [.int (i : Nat), x])) { s with heap := h2, toks := tk + 1 } :=
      I.turnedNew (ch := [e, it]) (fun b ob hb q => (sb.2 b (fun z => hb (by simp [z]))).trans (hk b ob (fun z => hb (by simp [z])) (fun z => hb (by simp [z])) q)) hf (Nat.le_refl _) new
    refine ⟨.ref s.heap.objs.size, _, I1, rfl, ⟨_, x, rfl, I.hok.fresh (Nat.le_refl _), rfl, fun ys hy => by rw [I.tuple_inj hy hq]; exact hx⟩, ⟨⟨y, ?_⟩, st'.1.at fun o q => (sb.2 it (Ne.symm hne)).trans q, hne⟩, fun b hb => ?_⟩
    · have e1 : ((i + 1 : Nat) : Int) = (i : Int) + 1 := by omega
      rw [e1]
      exact he2
    · have two : b = e ∨ b = it := by simpa using hb
      have hb' : b < s.heap.objs.size := by
        rcases two with z | z
        · rw [z]; exact hel
        · rw [z]; exact hil
      rw [upd_ne (Nat.ne_of_lt hb')]
      exact (hf b hb).1
  done := by
    intro X hP hw hK hc i pins s σ H E I hf st hg
    subst hP hw hK
    obtain ⟨⟨old, he⟩, hit, hne⟩ := st
    obtain ⟨xs, hq, hx⟩ := hg
    obtain ⟨its, rv, p, hz⟩ := I.tuple hq
    have pT : s.heap.IsTuple a its.toArray := p
    have hl := rv.length
    have over : its.toArray[i]? = none := by
      simp
      omega
    have D : Draws X.prog X.w X.A.in1 it [it, a] i (fun _ _ => False) (fun j h => j = i ∧ h.IsTupleIter it a i ∧ h.IsTuple a its.toArray) :=
      { live := fun _ _ st => let ⟨o, ho, _⟩ := st.2.1; ⟨o, ho⟩
        frame := fun _ _ _ st hk => ⟨st.1, st.2.1.at fun o e => hk it (by simp) o e, st.2.2.at fun o e => hk a (by simp) o e⟩
        item := fun j s Q E hj st hQ => absurd st.1 (by omega)
        done := fun s Q E st hE => wpAny_nextOf_tuple_end (by rw [show X.A.in1.handled = X.A.handled from rfl]; exact I.ok.hd hc) st.2.1 st.2.2 over hE }
    refine wpAny_pyNext_enum_endD D he ⟨rfl, hit, pT⟩ fun h' eb => ⟨rfl, I.turned (t' := s.toks) (fun b o hb q => eb b o hb q) (hf it (by simp)).1 (hf it (by simp)).2.1 (hf it (by simp)).2.2.2.1 (hf it (by simp)).2.2.2.2.1 (hf it (by simp)).2.2.2.2.2⟩
  self := fun A i s Q E st h => wpAny_pyIter_enum st.1.choose_spec h
def iEnumA (K : PySem.W.Frag) (ta : TA) : TI := fun σ H R => ta σ H fun vs H1 => ∃ a xs, vs = [.ref a] ∧ ((SqL K H1 a xs ∧ R (Ite K a) H1) ∨ (SqT K H1 a xs ∧ R (IteT K a) H1))
theorem pi_enumA {X : Cx} {e : Expr} {ta : TA} {p pos tpos : Pos} {elts : List Expr} {kk : Nat} (hg : Gl X "enumerate") (hm : X.mg "enumerate" = none) (ha : PA X [e] ta) (hs : starEach [e] X.env = [(false, eval e X.env)]) :
    PI X (.Tuple elts kk tpos) (.Call (.Name "enumerate" p) [e] [] pos) (iEnumA X.K ta) := by
  refine ⟨fun pins s σ H R I h => ?_⟩
  refine Call_ (ld_blt I hg hm boot_enumerate (PyProof.Rows.callWith_type1 (thn (ha.run pos pins s σ H _ I h) fun us s1 ⟨vs, H1, I1, r1, q1⟩ => ?_) hs rfl))
  obtain ⟨a, xs, ex, q1⟩ := q1
  subst ex
  cases r1 with
  | cons r rr =>
    cases rr
    cases r
    have own : ∀ b, b ∈ [s1.heap.objs.size + 1, s1.heap.objs.size] → FpOk X pins H1 b := fun b hb => by
      have two : b = s1.heap.objs.size + 1 ∨ b = s1.heap.objs.size := by simpa using hb
      have hle : s1.heap.objs.size ≤ b := by omega
      exact I1.fpOk hle (I1.hok.fresh hle)
    rcases q1 with ⟨hq, q⟩ | ⟨hq, q⟩
    · obtain ⟨its, rv, p', hz⟩ := I1.list hq
      exact call_enumerate_list p'.isList fun h' he hit hsz hk => wpAny_pyIter_enum he
        ⟨_, [s1.heap.objs.size + 1, s1.heap.objs.size], _, _, H1, rfl, I1.kept (t' := s1.toks) hk, turn_enum a (s1.heap.objs.size + 1) s1.heap.objs.size, ⟨⟨.none, he⟩, hit, Nat.succ_ne_self _⟩, own, q⟩
    · obtain ⟨its, rv, p', hz⟩ := I1.tuple hq
      have pT : s1.heap.IsTuple a its.toArray := p'
      have la : a < s1.heap.objs.size := by
        obtain ⟨o, ho, _⟩ := pT
        exact Heap.lt_size ho
      exact call_enum_tup pT fun h' he hit hsz hk => wpAny_pyIter_enum he
        ⟨_, [s1.heap.objs.size + 1, s1.heap.objs.size], _, _, H1, rfl, I1.kept (t' := s1.toks) hk, turn_enumT a (s1.heap.objs.size + 1) s1.heap.objs.size (Nat.ne_of_lt (Nat.lt_succ_of_lt la)) (Nat.ne_of_lt la), ⟨⟨.none, he⟩, hit, Nat.succ_ne_self _⟩, own, q⟩
def seqOf (w : Wv) (μ : Mu) : Option Its :=
  match w with
  | .d (.tuple c) => some ⟨c, []⟩
  | _ => lstOf w μ
def iEnumT (as : Av) : Iv := fun ρ μ => (as ρ μ).bind fun ws μ1 => match ws with
  | [w] => (oOf (seqOf w μ1) μ1).bind fun i μ2 => .ok ⟨enumL i.xs, i.tie⟩ μ2
  | _ => .bad
theorem jok_enumT {K : PySem.W.Frag} {α0 : List Addr} {F0 H0 : Hp} {a : Addr} {i : Its} (k : TKn K α0 F0 H0 a i) : JOk K α0 F0 H0 (IteT K a) ⟨enumL i.xs, i.tie⟩ := by
  refine ⟨fun α F μ H r e t => ?_⟩
  obtain ⟨vs, hs, d⟩ := k.at_ α F μ H r e t
  have hl : (enumL i.xs).length = i.xs.length := by unfold enumL; rw [List.length_mapIdx]
  refine ⟨fun n hn => ?_, fun n hn => ⟨vs, hs, by rw [d.length, ← hl]; exact hn⟩, fun n y x H' hy hyl => ?_⟩
  · have hn' : n < vs.length := by rw [d.length, ← hl]; exact hn
    exact ⟨vs, vs[n], hs, List.getElem?_eq_getElem hn'⟩
  · obtain ⟨T, u, rfl, hT, rfl, q⟩ := hyl
    obtain ⟨z, hz, dz⟩ := d.getV (q vs hs)
    have hy : (enumL i.xs)[n]? = some y := hy
    unfold enumL at hy
    rw [List.getElem?_mapIdx, hz] at hy
    cases hy
    obtain ⟨r2, x2⟩ := r.new (o := .tup [.int (n : Nat), u]) hT
    exact ⟨_, r2, x2, .tup (.inl (.inl upd_same)) (.cons (.int _) (.cons (dz.mono x2.fro) .nil))⟩
section
variable {X : Cx} {W : WX}
theorem xEnumT {e : Expr} {as : Av} {p pos tpos : Pos} {elts : List Expr} {kk : Nat} (hm : X.mg "enumerate" = none) (hg : Gl X "enumerate") (ha : SA X W [e] as) (hs : starEach [e] X.env = [(false, eval e X.env)] := by rfl) :
    SI X W (.Tuple elts kk tpos) (.Call (.Name "enumerate" p) [e] [] pos) (iEnumT as) := by
  refine (pi_enumA hg hm ha hs).imp fun σ H R ⟨ρ, μ, α, F, r, re, q⟩ => ?_
  refine ⟨ρ, μ, α, F, r, re, q.bind.mono fun ws μ1 α1 F1 H1 x1 r1 q1 vs rv => ?_⟩
  split at q1
  · rename_i w
    cases rv with
    | cons a1 t1 =>
      cases t1
      unfold seqOf at q1
      split at q1
      · obtain ⟨a, rfl, ⟨us, hu⟩, k⟩ := tkn r1 a1 rfl
        exact ⟨a, us, rfl, .inr ⟨hu, gp.now (c := (⟨enumL _, []⟩ : Its)) q1 r1 _ (jok_enumT k)⟩⟩
      · cases e1 : lstOf w μ1 with
        | none =>
          rw [e1] at q1
          exact q1.elim
        | some i =>
          rw [e1] at q1
          obtain ⟨a, rfl, ⟨us, hu⟩, k⟩ := lkn r1 a1 e1
          exact ⟨a, us, rfl, .inl ⟨hu, gp.now (c := (⟨enumL i.xs, i.tie⟩ : Its)) q1 r1 _ (jok_enum k)⟩⟩
  · exact q1.elim
end
end TL
/-! TLP: what the combinators do, as rules for simp; loops over data. -/
namespace TL
variable [TabN]
open PySem PySem.Spec L2
section
variable {ρ : Rho} {μ : Mu}
@[simp] theorem x_next : sNext ρ μ = .ok (.nx ρ) μ := rfl
@[simp] theorem x_seq {a b : Sv} : sSeq a b ρ μ = (a ρ μ).bind (seqK b) := rfl
@[simp] theorem x_seqn {b : Sv} {ρ' : Rho} : seqK b (.nx ρ') μ = b ρ' μ := rfl
@[simp] theorem x_seqr {b : Sv} {w : Wv} : seqK b (.rt w) μ = .ok (.rt w) μ := rfl
@[simp] theorem x_seqb {b : Sv} {ρ' : Rho} : seqK b (.bk ρ') μ = .ok (.bk ρ') μ := rfl
@[simp] theorem x_seqc {b : Sv} {ρ' : Rho} : seqK b (.ct ρ') μ = .ok (.ct ρ') μ := rfl
@[simp] theorem x_seqe {b : Sv} {x : Str} {ws : List Wv} {ρ' : Rho} : seqK b (.er x ws ρ') μ = .ok (.er x ws ρ') μ := rfl
@[simp] theorem x_ret {f : Ev} : sRet f ρ μ = liftO ρ (f ρ μ) fun w μ1 => .ok (.rt w) μ1 := rfl
@[simp] theorem x_retZ {f : Ev} : sRetZ f ρ μ = liftO ρ ((f ρ μ).bind frz) fun w μ1 => .ok (.rt w) μ1 := rfl
@[simp] theorem x_expr {f : Ev} : sExpr f ρ μ = liftO ρ (f ρ μ) fun _ μ1 => .ok (.nx ρ) μ1 := rfl
@[simp] theorem x_if {c : Bv} {a b : Sv} : sIf c a b ρ μ = liftO ρ (c ρ μ) fun t μ1 => if t = true then a ρ μ1 else b ρ μ1 := rfl
@[simp] theorem x_asg {f : Ev} {t : Gv} : sAsg f t ρ μ = liftO ρ (f ρ μ) fun w μ1 => (calm (t w ρ μ1)).bind fun ρ' μ2 => .ok (.nx ρ') μ2 := rfl
@[simp] theorem x_nm {i : Nat} {w : Wv} : gNm i w ρ μ = .ok (ρ.set i (some w)) μ := rfl
@[simp] theorem x_calm {γ : Type} {c : γ} : calm (.ok c μ) = .ok c μ := rfl
@[simp] theorem x_calmb {γ : Type} : calm (.bad : Out γ) = .bad := rfl
@[simp] theorem x_tp {ts : List Gv} {xs : List PyData} : gTp ts (.d (.tuple xs)) ρ μ = if xs.length = ts.length then gSeq ts (xs.map Wv.d) ρ μ else .bad := rfl
@[simp] theorem x_sq0 : gSeq [] [] ρ μ = .ok ρ μ := rfl
@[simp] theorem x_sq1 {t : Gv} {ts : List Gv} {w : Wv} {ws : List Wv} : gSeq (t :: ts) (w :: ws) ρ μ = (t w ρ μ).bind fun ρ' μ' => gSeq ts ws ρ' μ' := rfl
@[simp] theorem x_sb {o i : Ev} {w : Wv} : gSb o i w ρ μ = (o ρ μ).bind fun ow μ1 => (i ρ μ1).bind fun iw μ2 => (setC ow iw w μ2).bind fun _ μ3 => .ok ρ μ3 := rfl
@[simp] theorem x_k {x : PyData} : eK x ρ μ = .ok (.d x) μ := rfl
@[simp] theorem x_e1 {g : Wv → Mu → Out Wv} {a : Ev} : e1 g a ρ μ = (a ρ μ).bind fun w μ1 => calm (g w μ1) := rfl
@[simp] theorem x_e2 {g : Wv → Wv → Mu → Out Wv} {a b : Ev} : e2 g a b ρ μ = (a ρ μ).bind fun w μ1 => (b ρ μ1).bind fun u μ2 => calm (g w u μ2) := rfl
@[simp] theorem x_en {g : GF} {as : Av} : en g as ρ μ = (as ρ μ).bind fun ws μ1 => calm (g ws μ1) := rfl
@[simp] theorem x_nil : aNil ρ μ = .ok [] μ := rfl
@[simp] theorem x_cons {a : Ev} {as : Av} : aCons a as ρ μ = (a ρ μ).bind fun w μ1 => (as ρ μ1).bind fun ws μ2 => .ok (w :: ws) μ2 := rfl
@[simp] theorem x_cF {n : Nat} {g : GF} {as : Av} : cF n g as ρ μ = (as ρ μ).bind fun ws μ1 => if ws.length = n then g ws μ1 else .bad := rfl
@[simp] theorem x_cFK {pm : List Nat} {n : Nat} {g : GF} {as : Av} : cFK pm n g as ρ μ = (as ρ μ).bind fun ws μ1 => if (permL pm ws).length = n then g (permL pm ws) μ1 else .bad := rfl
@[simp] theorem x_tup {as : Av} : eTup as ρ μ = (lDisp as ρ μ).bind fun c μ1 => .ok (.d (.tuple c)) μ1 := rfl
@[simp] theorem x_frz {l : Lv} : eFrz l ρ μ = (l ρ μ).bind fun c μ1 => .ok (.d (.list c)) μ1 := rfl
@[simp] theorem x_new {l : Lv} : eNew l ρ μ = (l ρ μ).bind fun c μ1 => .ok (.r μ1.length) (μ1 ++ [some c]) := rfl
@[simp] theorem x_disp {as : Av} : lDisp as ρ μ = (as ρ μ).bind fun ws μ1 => match allD ws with
  | some c => if c.length ≤ 16777216 then .ok c μ1 else .bad
  | none => .bad := rfl
@[simp] theorem x_all0 : allD [] = some [] := rfl
@[simp] theorem x_all1 {x : PyData} {ws : List Wv} : allD (.d x :: ws) = (allD ws).map (x :: ·) := rfl
@[simp] theorem x_wB {b : Bool} : wB (.d (.bool b)) μ = .ok b μ := rfl
@[simp] theorem x_tB {a : Ev} : tB' a ρ μ = (a ρ μ).bind wB := rfl
@[simp] theorem x_bnot {a : Bv} : bNot a ρ μ = (a ρ μ).bind fun b μ1 => .ok (!b) μ1 := rfl
@[simp] theorem x_band {a b : Bv} : bAnd a b ρ μ = (a ρ μ).bind fun c μ1 => if c = true then b ρ μ1 else .ok false μ1 := rfl
@[simp] theorem x_bor {a b : Bv} : bOr a b ρ μ = (a ρ μ).bind fun c μ1 => if c = true then .ok true μ1 else b ρ μ1 := rfl
@[simp] theorem x_and {a b : Ev} : eAnd a b ρ μ = (a ρ μ).bind fun w μ0 => (wB w μ0).bind fun c μ1 => if c = true then b ρ μ1 else .ok (.d (.bool false)) μ1 := rfl
@[simp] theorem x_or {a b : Ev} : eOr a b ρ μ = (a ρ μ).bind fun w μ0 => (wB w μ0).bind fun c μ1 => if c = true then .ok (.d (.bool true)) μ1 else b ρ μ1 := rfl
@[simp] theorem x_not {a : Ev} : eNot a ρ μ = (a ρ μ).bind fun w μ0 => (wB w μ0).bind fun c μ1 => .ok (.d (.bool (!c))) μ1 := rfl
@[simp] theorem x_eif {c : Bv} {a b : Ev} : eIf c a b ρ μ = (c ρ μ).bind fun c μ1 => if c = true then a ρ μ1 else b ρ μ1 := rfl
@[simp] theorem x_lst {as : Av} : lList as ρ μ = (as ρ μ).bind fun ws μ1 => calm (gList ws μ1) := rfl
@[simp] theorem x_sl {a : Ev} {lo hi : Option Ev} : eSl a lo hi ρ μ = (a ρ μ).bind fun w μ1 => (oPart lo ρ μ1).bind fun l μ2 => (oPart hi ρ μ2).bind fun h μ3 => calm (gSl w l h μ3) := rfl
@[simp] theorem x_pn : oPart none ρ μ = .ok none μ := rfl
@[simp] theorem x_ps {f : Ev} : oPart (some f) ρ μ = (f ρ μ).bind fun w μ1 => match w with
    | .d (.int i) => .ok (some i) μ1
    | _ => .bad := rfl
@[simp] theorem x_dic : eDic ρ μ = .ok (.d (.dict [])) μ := rfl
@[simp] theorem x_iany {f : Ev} : iAny f ρ μ = (f ρ μ).bind fun w μ1 => oOf (itsOf w μ1) μ1 := rfl
@[simp] theorem x_oof {γ : Type} {c : γ} : oOf (some c) μ = .ok c μ := rfl
@[simp] theorem x_yes : bYes ρ μ = .ok true μ := rfl
@[simp] theorem x_dd {x : PyData} : dataOf μ (.d x) = some x := rfl
theorem x_dr {k : Nat} {c : Cell} (h : μ[k]? = some (some c)) : dataOf μ (.r k) = some (.list c) := by
  show (μ[k]?.join).map PyData.list = _
  rw [h]
  rfl
theorem x_var {i : Nat} {w : Wv} (h : ρ[i]? = some (some w)) : eVar i ρ μ = .ok w μ := by
  unfold eVar
  rw [h]
@[simp] theorem x_v0 {o : Wv} {r : Rho} : eVar 0 (some o :: r) μ = .ok o μ := rfl
@[simp] theorem x_vs {i : Nat} {o : Option Wv} {r : Rho} : eVar (i + 1) (o :: r) μ = eVar i r μ := rfl
@[simp] theorem x_ni {i : Int} : numOf (.d (.int i)) = some i := rfl
@[simp] theorem x_nb {b : Bool} : numOf (.d (.bool b)) = some (bi b) := rfl
theorem get_set {k : Nat} {c c' : Option Cell} (h : μ[k]? = some c) : (μ.set k c')[k]? = some c' := List.getElem?_set_self (List.getElem?_eq_some_iff.mp h).1
@[simp] theorem v_plus {i j : Int} : gPlus (.d (.int i)) (.d (.int j)) μ = .ok (.d (.int (i + j))) μ := rfl
@[simp] theorem v_plusT {xs ys : List PyData} : gPlus (.d (.tuple xs)) (.d (.tuple ys)) μ = if xs.length + ys.length ≤ 16777216 then .ok (.d (.tuple (xs ++ ys))) μ else .bad := rfl
@[simp] theorem v_plusL {xs ys : List PyData} : gPlus (.d (.list xs)) (.d (.list ys)) μ = if xs.length + ys.length ≤ 16777216 then .ok (.d (.list (xs ++ ys))) μ else .bad := rfl
@[simp] theorem v_plusB {b : Bool} {j : Int} : gPlus (.d (.bool b)) (.d (.int j)) μ = .ok (.d (.int (bi b + j))) μ := rfl
@[simp] theorem v_sub {i j : Int} : gSub (.d (.int i)) (.d (.int j)) μ = .ok (.d (.int (i - j))) μ := rfl
@[simp] theorem v_subB {i : Int} {b : Bool} : gSub (.d (.int i)) (.d (.bool b)) μ = .ok (.d (.int (i - bi b))) μ := rfl
@[simp] theorem v_subB' {j : Int} {b : Bool} : gSub (.d (.bool b)) (.d (.int j)) μ = .ok (.d (.int (bi b - j))) μ := rfl
theorem bits_small {i : Int} (h1 : -1000000000000000000 < i) (h2 : i < 1000000000000000000) : Builtin.Int.intBits i ≤ 64 := by
  unfold Builtin.Int.intBits
  split
  · omega
  · have hn : i.natAbs < 2 ^ 63 := by omega
    by_cases h0 : i.natAbs = 0
    · rw [h0]
      decide
    · have := (Nat.log2_lt h0).mpr hn
      omega
theorem v_times {i j : Int} (h1 : -1000000000000000000 < i) (h2 : i < 1000000000000000000) (h3 : -1000000000000000000 < j) (h4 : j < 1000000000000000000) : gTimes (.d (.int i)) (.d (.int j)) μ = .ok (.d (.int (i * j))) μ := by
  show (if mulOk i j = true then Out.ok (wI (i * j)) μ else Out.bad) = _
  rw [if_pos]
  · unfold mulOk
    have a := bits_small h1 h2
    have b := bits_small h3 h4
    exact @decide_eq_true _ (Classical.propDecidable _) (by omega)
theorem v_mod {i j : Int} (h : 0 < j) : gMod (.d (.int i)) (.d (.int j)) μ = .ok (.d (.int (i % j))) μ := by
  show (if j = 0 then Out.bad else Out.ok (wI (i.fmod j)) μ) = _
  rw [if_neg (by omega), Int.fmod_eq_emod_of_nonneg _ (by omega)]
theorem no_pylong {i j : Int} (h : 0 < j) (h2 : j < 1000000000000000000) : Builtin.divisionGoesByPylong i j = false := by
  unfold Builtin.divisionGoesByPylong
  have b := bits_small (i := j) (by omega) h2
  unfold Builtin.Int.intBits at b
  have hj : (j == 0) = false := by
    rw [beq_eq_false_iff_ne]
    omega
  rw [hj] at b
  simp only [hj, Bool.false_eq_true, if_false] at b ⊢
  have : ¬ (j.natAbs.log2 / 30 + 1 > 300) := by omega
  simp [this]
theorem v_div {i j : Int} (h : 0 < j) (h2 : j < 1000000000000000000) : gDiv (.d (.int i)) (.d (.int j)) μ = .ok (.d (.int (i / j))) μ := by
  show (if j = 0 ∨ Builtin.divisionGoesByPylong i j = true then Out.bad else Out.ok (wI (i.fdiv j)) μ) = _
  rw [if_neg, Int.fdiv_eq_ediv_of_nonneg _ (by omega)]
  · rw [no_pylong h h2]
    simp
    omega
theorem v_divmod {i j : Int} (h : 0 < j) (h2 : j < 1000000000000000000) : gDivmod [.d (.int i), .d (.int j)] μ = .ok (.d (.tuple [.int (i / j), .int (i % j)])) μ := by
  show (if 0 < j ∧ Builtin.divisionGoesByPylong i j = false then Out.ok (wT [.int (i / j), .int (i % j)]) μ else Out.bad) = _
  rw [if_pos ⟨h, no_pylong h h2⟩]
@[simp] theorem v_int {i : Int} : gInt [.d (.int i)] μ = .ok (.d (.int i)) μ := rfl
@[simp] theorem v_abs {i : Int} : gAbs [.d (.int i)] μ = .ok (.d (.int (if i < 0 then -i else i))) μ := rfl
@[simp] theorem v_neg {i : Int} : gNeg (.d (.int i)) μ = .ok (.d (.int (-i))) μ := rfl
@[simp] theorem v_cmp {p : Int → Int → Bool} {i j : Int} : gCmp p (.d (.int i)) (.d (.int j)) μ = .ok (.d (.bool (p i j))) μ := rfl
theorem v_ixr {k : Nat} {c : Cell} {i : Int} (h : μ[k]? = some (some c)) : gIx (.r k) (.d (.int i)) μ = match atI c i with
    | some x => .ok (.d x) μ
    | none => .bad := by
  unfold gIx
  rw [x_dr h] <;> rfl
@[simp] theorem v_ixt {xs : List PyData} {i : Int} : gIx (.d (.tuple xs)) (.d (.int i)) μ = match atI xs i with
    | some x => .ok (.d x) μ
    | none => .bad := rfl
@[simp] theorem v_ixl {xs : List PyData} {i : Int} : gIx (.d (.list xs)) (.d (.int i)) μ = match atI xs i with
    | some x => .ok (.d x) μ
    | none => .bad := rfl
theorem v_setc {k : Nat} {c : Cell} {j : Int} {x : PyData} (h : μ[k]? = some (some c)) : setC (.r k) (.d (.int j)) (.d x) μ = match ixN c.length j with
      | some n => .ok () (μ.set k (some (c.set n x)))
      | none => .bad := by
  unfold setC
  simp only [h] <;> (cases ixN c.length j <;> rfl)
@[simp] theorem v_isi {T : String} {x : PyData} : gIsi T (.d x) μ = if kinds.contains T = true then .ok (.d (.bool (subTy (tyName x) T))) μ else .bad := rfl
@[simp] theorem v_lent {xs : List PyData} : gLen [.d (.tuple xs)] μ = .ok (.d (.int xs.length)) μ := rfl
@[simp] theorem v_lenl {xs : List PyData} : gLen [.d (.list xs)] μ = .ok (.d (.int xs.length)) μ := rfl
@[simp] theorem v_tupl {xs : List PyData} : gTuple [.d (.list xs)] μ = .ok (.d (.tuple xs)) μ := rfl
@[simp] theorem v_tupt {xs : List PyData} : gTuple [.d (.tuple xs)] μ = .ok (.d (.tuple xs)) μ := rfl
theorem v_tupr {k : Nat} {c : Cell} (h : μ[k]? = some (some c)) : gTuple [.r k] μ = .ok (.d (.tuple c)) μ := by
  show (match dataOf μ (.r k) with
    | some (.list xs) => Out.ok (wT xs) μ
    | some (.tuple xs) => Out.ok (wT xs) μ
    | _ => Out.bad) = _
  rw [x_dr h]
@[simp] theorem v_listt {xs : List PyData} : gList [.d (.tuple xs)] μ = .ok xs μ := rfl
@[simp] theorem v_listl {xs : List PyData} : gList [.d (.list xs)] μ = .ok xs μ := rfl
theorem at_n {β : Type} {xs : List β} {x : β} {n : Nat} (h : xs[n]? = some x) : atI xs (n : Int) = some x := by
  unfold atI ixN
  rw [if_pos (by omega), if_pos (by have := (List.getElem?_eq_some_iff.mp h).1; omega)]
  exact h
@[simp] theorem at_0 {β : Type} {x : β} {xs : List β} : atI (x :: xs) 0 = some x := at_n (n := 0) rfl
@[simp] theorem at_1 {β : Type} {x y : β} {xs : List β} : atI (x :: y :: xs) 1 = some y := at_n (n := 1) rfl
@[simp] theorem at_2 {β : Type} {x y z : β} {xs : List β} : atI (x :: y :: z :: xs) 2 = some z := at_n (n := 2) rfl
@[simp] theorem ix_0 {n : Nat} : ixN (n + 1) 0 = some 0 := by
  unfold ixN
  rw [if_pos (by omega), if_pos (by omega)]
  rfl
@[simp] theorem ix_1 {n : Nat} : ixN (n + 1 + 1) 1 = some 1 := by
  unfold ixN
  rw [if_pos (by omega), if_pos (by omega)]
  rfl
@[simp] theorem ix_2 {n : Nat} : ixN (n + 1 + 1 + 1) 2 = some 2 := by
  unfold ixN
  rw [if_pos (by omega), if_pos (by omega)]
  rfl
@[simp] theorem ix_03 : ixN 3 0 = some 0 := ix_0
@[simp] theorem ix_13 : ixN 3 1 = some 1 := ix_1
@[simp] theorem ix_23 : ixN 3 2 = some 2 := ix_2
theorem at_last {x : PyData} {xs : List PyData} : atI (x :: xs) (-1) = some ((x :: xs).getLast (List.cons_ne_nil _ _)) := by
  have h : ((x :: xs) : List PyData) = (x :: xs).dropLast ++ [(x :: xs).getLast (List.cons_ne_nil _ _)] := (List.dropLast_concat_getLast _).symm
  generalize (x :: xs).getLast (List.cons_ne_nil _ _) = y at h ⊢
  rw [h]
  exact atI_last _ _
theorem at_nat {xs : List PyData} {i : Int} (h1 : 0 ≤ i) (h2 : i < xs.length) : ∃ x, atI xs i = some x ∧ x ∈ xs := by
  unfold atI ixN
  rw [if_pos h1, if_pos h2]
  have hl : i.toNat < xs.length := by omega
  exact ⟨xs[i.toNat], by simp [hl], List.getElem_mem hl⟩
/-- behind a def -/
@[simp] theorem leave_d {n : Nat} {x : PyData} : leave n (.d x) μ = .ok (.d x) (μ.take n) := rfl
@[simp] theorem take_self : μ.take μ.length = μ := List.take_length
@[simp] theorem take_set {k : Nat} {c : Option Cell} : (μ.set k c).take μ.length = μ.set k c := List.take_of_length_le (by rw [List.length_set]; exact Nat.le_refl _)
@[simp] theorem take_app {l : Mu} : (μ ++ l).take μ.length = μ := by simp
theorem lt_of_get {k : Nat} {c : Option Cell} (h : μ[k]? = some c) : k < μ.length := (List.getElem?_eq_some_iff.mp h).1
/-- data are told; of the cells only the k-th may change -/
def Tl (μ : Mu) (k : Nat) (o : Out Wv) (P : PyData → Cell → Prop) : Prop := match o with
  | .ok (.d x) μ' => ∃ c', μ' = μ.set k (some c') ∧ P x c'
  | _ => False
theorem Tl.ok {k : Nat} {o : Out Wv} {P : PyData → Cell → Prop} (h : Tl μ k o P) : ∃ x c', o = .ok (.d x) (μ.set k (some c')) ∧ P x c' := by
  unfold Tl at h
  split at h
  · obtain ⟨c', rfl, p⟩ := h
    exact ⟨_, c', rfl, p⟩
  · exact h.elim
end
end TL
/-! TLQ: loops over data. -/
namespace TL
variable [TabN]
open PySem PySem.Spec L2
@[simp] theorem tied_nil {xs : Cell} {μ : Mu} : tied ⟨xs, []⟩ μ := fun p h => (nomatch h)
theorem loopC_run {Iv : Nat → Mu → Prop} {R : PyData → PyData → Prop} {xs0 : Cell} {i : Nat} {e : Ev} {ρ : Rho} : ∀ (xs acc : Cell) (n : Nat) (μ : Mu), Iv n μ → acc.length + xs.length ≤ 16777216 →
    (∀ x ∈ xs, ∀ n μ, Iv n μ → ∃ y μ', e (ρ.set i (some (.d x))) μ = .ok (.d y) μ' ∧ Iv (n + 1) μ' ∧ R x y) →
    ∃ ys μ', loopC ⟨xs0, []⟩ (gNm i) bYes e ρ xs acc μ = .ok (acc ++ ys) μ' ∧ Iv (n + xs.length) μ' ∧ ys.length = xs.length ∧ ∀ (k : Nat) x y, xs[k]? = some x → ys[k]? = some y → R x y
  | [], acc, n, μ, h, _, _ => by
    refine ⟨[], μ, ?_, h, rfl, fun k x y h1 => by simp at h1⟩
    unfold loopC
    rw [if_pos tied_nil, List.append_nil]
  | x :: xs, acc, n, μ, h, hl, he => by
    obtain ⟨y, μ1, e1, h1, r1⟩ := he x List.mem_cons_self n μ h
    rw [List.length_cons] at hl
    obtain ⟨ys, μ2, e2, h2, l2, r2⟩ := loopC_run (xs0 := xs0) xs (acc ++ [y]) (n + 1) μ1 h1 (by rw [List.length_append, List.length_singleton]; omega) fun z hz => he z (List.mem_cons_of_mem _ hz)
    refine ⟨y :: ys, μ2, ?_, by rw [List.length_cons]; rw [show n + (xs.length + 1) = n + 1 + xs.length by omega]; exact h2, by rw [List.length_cons, List.length_cons, l2], fun k a b h3 h4 => ?_⟩
    · unfold loopC
      rw [if_pos tied_nil]
      simp only [x_nm, x_calm, Out.bind_ok, x_yes, if_true, e1]
      unfold lcPut
      simp only [Out.bind_ok]
      rw [if_pos (by omega)]
      simp only [Out.bind_ok, e2, List.append_assoc, List.singleton_append]
    · cases k with
      | zero =>
        simp at h3 h4
        subst h3 h4
        exact r1
      | succ k => exact r2 k a b (by simpa using h3) (by simpa using h4)
theorem lc_run {Iv : Nat → Mu → Prop} {R : PyData → PyData → Prop} {it : TL.Iv} {xs : Cell} {i : Nat} {e : Ev} {ρ : Rho} {μ μ1 : Mu} (hit : it ρ μ = .ok ⟨xs, []⟩ μ1) (h0 : Iv 0 μ1) (hl : xs.length ≤ 16777216)
    (he : ∀ x ∈ xs, ∀ n μ, Iv n μ → ∃ y μ', e ((ρ.set i none).set i (some (.d x))) μ = .ok (.d y) μ' ∧ Iv (n + 1) μ' ∧ R x y) :
    ∃ ys μ', lLc it (gNm i) bYes e [i] ρ μ = .ok ys μ' ∧ Iv xs.length μ' ∧ ys.length = xs.length ∧ ∀ (k : Nat) x y, xs[k]? = some x → ys[k]? = some y → R x y := by
  obtain ⟨ys, μ', e1, h1, l1, r1⟩ := loopC_run (Iv := Iv) (R := R) (xs0 := xs) (i := i) (e := e) (ρ := ρ.set i none) xs [] 0 μ1 h0 (by simpa using hl) he
  rw [Nat.zero_add] at h1
  refine ⟨ys, μ', ?_, h1, l1, r1⟩
  show (it ρ μ).bind (fun i1 μ1 => loopC i1 (gNm i) bYes e (wipeR ρ [i]) i1.xs [] μ1) = _
  rw [hit]
  exact e1
/-- each item's value by itself -/
theorem lc_map {g : PyData → PyData} {it : TL.Iv} {xs : Cell} {i : Nat} {e : Ev} {ρ : Rho} {μ μ1 : Mu} (hit : it ρ μ = .ok ⟨xs, []⟩ μ1) (hl : xs.length ≤ 16777216)
    (he : ∀ x ∈ xs, e ((ρ.set i none).set i (some (.d x))) μ1 = .ok (.d (g x)) μ1) : lLc it (gNm i) bYes e [i] ρ μ = .ok (xs.map g) μ1 := by
  obtain ⟨ys, μ', e1, rfl, l1, r1⟩ := lc_run (Iv := fun _ μ => μ = μ1) (R := fun x y => y = g x) hit rfl hl fun x hx n μ h => by
    subst h
    exact ⟨g x, μ, he x hx, rfl, rfl⟩
  rw [e1]
  congr 1
  apply List.ext_getElem?
  intro k
  rw [List.getElem?_map]
  by_cases hk : k < xs.length
  · have hk' : k < ys.length := by omega
    rw [List.getElem?_eq_getElem hk, List.getElem?_eq_getElem hk', r1 k _ _ (List.getElem?_eq_getElem hk) (List.getElem?_eq_getElem hk')]
    rfl
  · rw [List.getElem?_eq_none (by omega), List.getElem?_eq_none (by omega)]
    rfl
/-- the same with any target -/
theorem loopCT_run {Iv : Nat → Mu → Prop} {R : PyData → PyData → Prop} {xs0 : Cell} {t : Gv} {e : Ev} {ρ : Rho} : ∀ (xs acc : Cell) (n : Nat) (μ : Mu), Iv n μ → acc.length + xs.length ≤ 16777216 →
    (∀ x ∈ xs, ∀ n μ, Iv n μ → ∃ ρ1 μ1 y μ', t (.d x) ρ μ = .ok ρ1 μ1 ∧ e ρ1 μ1 = .ok (.d y) μ' ∧ Iv (n + 1) μ' ∧ R x y) →
    ∃ ys μ', loopC ⟨xs0, []⟩ t bYes e ρ xs acc μ = .ok (acc ++ ys) μ' ∧ Iv (n + xs.length) μ' ∧ ys.length = xs.length ∧ ∀ (k : Nat) x y, xs[k]? = some x → ys[k]? = some y → R x y
  | [], acc, n, μ, h, _, _ => by
    refine ⟨[], μ, ?_, h, rfl, fun k x y h1 => by simp at h1⟩
    unfold loopC
    rw [if_pos tied_nil, List.append_nil]
  | x :: xs, acc, n, μ, h, hl, he => by
    obtain ⟨ρ1, μ0, y, μ1, e0, e1, h1, r1⟩ := he x List.mem_cons_self n μ h
    rw [List.length_cons] at hl
    obtain ⟨ys, μ2, e2, h2, l2, r2⟩ := loopCT_run (xs0 := xs0) xs (acc ++ [y]) (n + 1) μ1 h1 (by rw [List.length_append, List.length_singleton]; omega) fun z hz => he z (List.mem_cons_of_mem _ hz)
    refine ⟨y :: ys, μ2, ?_, by rw [List.length_cons]; rw [show n + (xs.length + 1) = n + 1 + xs.length by omega]; exact h2, by rw [List.length_cons, List.length_cons, l2], fun k a b h3 h4 => ?_⟩
    · unfold loopC
      rw [if_pos tied_nil, e0]
      simp only [x_calm, Out.bind_ok, x_yes, if_true, e1]
      unfold lcPut
      simp only [Out.bind_ok]
      rw [if_pos (by omega)]
      simp only [Out.bind_ok, e2, List.append_assoc, List.singleton_append]
    · cases k with
      | zero =>
        simp at h3 h4
        subst h3 h4
        exact r1
      | succ k => exact r2 k a b (by simpa using h3) (by simpa using h4)
theorem lcT_run {Iv : Nat → Mu → Prop} {R : PyData → PyData → Prop} {it : TL.Iv} {xs : Cell} {t : Gv} {os : List Nat} {e : Ev} {ρ : Rho} {μ μ1 : Mu} (hit : it ρ μ = .ok ⟨xs, []⟩ μ1) (h0 : Iv 0 μ1) (hl : xs.length ≤ 16777216)
    (he : ∀ x ∈ xs, ∀ n μ, Iv n μ → ∃ ρ1 μ1 y μ', t (.d x) (wipeR ρ os) μ = .ok ρ1 μ1 ∧ e ρ1 μ1 = .ok (.d y) μ' ∧ Iv (n + 1) μ' ∧ R x y) :
    ∃ ys μ', lLc it t bYes e os ρ μ = .ok ys μ' ∧ Iv xs.length μ' ∧ ys.length = xs.length ∧ ∀ (k : Nat) x y, xs[k]? = some x → ys[k]? = some y → R x y := by
  obtain ⟨ys, μ', e1, h1, l1, r1⟩ := loopCT_run (Iv := Iv) (R := R) (xs0 := xs) (t := t) (e := e) (ρ := wipeR ρ os) xs [] 0 μ1 h0 (by simpa using hl) he
  rw [Nat.zero_add] at h1
  refine ⟨ys, μ', ?_, h1, l1, r1⟩
  show (it ρ μ).bind (fun i1 μ1 => loopC i1 t bYes e (wipeR ρ os) i1.xs [] μ1) = _
  rw [hit]
  exact e1
/-- each item's value by itself, known by place -/
theorem lcT_eq {zs : Cell} {it : TL.Iv} {xs : Cell} {t : Gv} {os : List Nat} {e : Ev} {ρ : Rho} {μ μ1 : Mu} (hit : it ρ μ = .ok ⟨xs, []⟩ μ1) (hl : xs.length ≤ 16777216) (hz : zs.length = xs.length)
    (he : ∀ (k : Nat) x z, xs[k]? = some x → zs[k]? = some z → ∃ ρ1, t (.d x) (wipeR ρ os) μ1 = .ok ρ1 μ1 ∧ e ρ1 μ1 = .ok (.d z) μ1) : lLc it t bYes e os ρ μ = .ok zs μ1 := by
  have gen : ∀ (ys ws acc : Cell), acc.length + ys.length ≤ 16777216 → ws.length = ys.length → (∀ (k : Nat) x z, ys[k]? = some x → ws[k]? = some z → ∃ ρ1, t (.d x) (wipeR ρ os) μ1 = .ok ρ1 μ1 ∧ e ρ1 μ1 = .ok (.d z) μ1) →
      loopC ⟨xs, []⟩ t bYes e (wipeR ρ os) ys acc μ1 = .ok (acc ++ ws) μ1 := by
    intro ys
    induction ys with
    | nil =>
      intro ws acc _ hw _
      cases ws with
      | nil =>
        unfold loopC
        rw [if_pos tied_nil, List.append_nil]
      | cons w ws => cases hw
    | cons y ys ih =>
      intro ws acc hl hw hk
      cases ws with
      | nil => cases hw
      | cons w ws =>
        obtain ⟨ρ1, e0, e1⟩ := hk 0 y w rfl rfl
        rw [List.length_cons] at hl
        have := ih ws (acc ++ [w]) (by rw [List.length_append, List.length_singleton]; omega) (by simpa using hw) fun k x z h1 h2 => hk (k + 1) x z (by simpa using h1) (by simpa using h2)
        unfold loopC
        rw [if_pos tied_nil, e0]
        simp only [x_calm, Out.bind_ok, x_yes, if_true, e1]
        unfold lcPut
        simp only [Out.bind_ok]
        rw [if_pos (by omega)]
        simp only [Out.bind_ok, this, List.append_assoc, List.singleton_append]
  show (it ρ μ).bind (fun i1 μ1 => loopC i1 t bYes e (wipeR ρ os) i1.xs [] μ1) = _
  rw [hit]
  exact gen xs zs [] (by simpa using hl) hz he
theorem v_allm {β : Type} {xs : List β} {p : β → Bool} {μ : Mu} : gAll [.d (.list (xs.map fun x => .bool (p x)))] μ = .ok (.d (.bool (xs.all p))) μ := by
  have e : (xs.map fun x => PyData.bool (p x)) = (xs.map p).map PyData.bool := by rw [List.map_map]; rfl
  unfold gAll
  simp only [x_dd, e, boolsOf_bools]
  show Out.ok (Wv.d (.bool _)) μ = _
  congr 3
  rw [List.all_map]
  rfl
theorem v_anym {β : Type} {xs : List β} {p : β → Bool} {μ : Mu} : gAny [.d (.list (xs.map fun x => .bool (p x)))] μ = .ok (.d (.bool (xs.any p))) μ := by
  have e : (xs.map fun x => PyData.bool (p x)) = (xs.map p).map PyData.bool := by rw [List.map_map]; rfl
  unfold gAny
  simp only [x_dd, e, boolsOf_bools]
  show Out.ok (Wv.d (.bool _)) μ = _
  congr 3
  rw [List.any_map]
  rfl
theorem loopF_run {P : Nat → Rho → Mu → Prop} {xs0 : Cell} {t : Gv} {b : Sv} : ∀ (xs : Cell) (n : Nat) (ρ : Rho) (μ : Mu), P n ρ μ →
    (∀ (k : Nat) x ρ μ, xs[k]? = some x → P (n + k) ρ μ → ∃ ρ1 μ1 ρ' μ', t (.d x) ρ μ = .ok ρ1 μ1 ∧ b ρ1 μ1 = .ok (.nx ρ') μ' ∧ P (n + k + 1) ρ' μ') →
    ∃ ρ' μ', loopF ⟨xs0, []⟩ t b xs ρ μ = .ok (.nx ρ') μ' ∧ P (n + xs.length) ρ' μ'
  | [], n, ρ, μ, h, _ => by
    refine ⟨ρ, μ, ?_, h⟩
    unfold loopF
    rw [if_pos tied_nil]
  | x :: xs, n, ρ, μ, h, hb => by
    obtain ⟨ρ1, μ1, ρ2, μ2, e1, e2, h2⟩ := hb 0 x ρ μ rfl h
    obtain ⟨ρ3, μ3, e3, h3⟩ := loopF_run (P := P) (xs0 := xs0) (t := t) (b := b) xs (n + 1) ρ2 μ2 h2 fun k y ρ μ hk hp => by
      have := hb (k + 1) y ρ μ (by simpa using hk) (by rw [show n + (k + 1) = n + 1 + k by omega]; exact hp)
      rw [show n + (k + 1) + 1 = n + 1 + k + 1 by omega] at this
      exact this
    refine ⟨ρ3, μ3, ?_, by rw [List.length_cons, show n + (xs.length + 1) = n + 1 + xs.length by omega]; exact h3⟩
    unfold loopF
    rw [if_pos tied_nil, e1]
    simp only [x_calm, Out.bind_ok, e2]
    exact e3
theorem for_run (P : Nat → Rho → Mu → Prop) {it : TL.Iv} {xs : Cell} {t : Gv} {b : Sv} {ρ : Rho} {μ μ1 : Mu} (hit : it ρ μ = .ok ⟨xs, []⟩ μ1) (h0 : P 0 ρ μ1)
    (hb : ∀ (k : Nat) x ρ μ, xs[k]? = some x → P k ρ μ → ∃ ρ1 μ1 ρ' μ', t (.d x) ρ μ = .ok ρ1 μ1 ∧ b ρ1 μ1 = .ok (.nx ρ') μ' ∧ P (k + 1) ρ' μ') :
    ∃ ρ' μ', sFor it t b ρ μ = .ok (.nx ρ') μ' ∧ P xs.length ρ' μ' := by
  obtain ⟨ρ', μ', e, h⟩ := loopF_run (P := P) (xs0 := xs) (t := t) (b := b) xs 0 ρ μ1 h0 (by simpa using hb)
  rw [Nat.zero_add] at h
  refine ⟨ρ', μ', ?_, h⟩
  unfold sFor
  rw [hit]
  exact e
theorem loopW_run {P : Nat → Rho → Mu → Prop} {Q : Rho → Mu → Prop} {c : Bv} {b : Sv} (step : ∀ n ρ μ, P n ρ μ → ∃ t μ1, c ρ μ = .ok t μ1 ∧ ((t = false ∧ Q ρ μ1) ∨ (t = true ∧ ∃ ρ' μ' n', n' < n ∧ b ρ μ1 = .ok (.nx ρ') μ' ∧ P n' ρ' μ'))) :
    ∀ (n : Nat) (ρ : Rho) (μ : Mu), P n ρ μ → ∃ k ρ' μ', loopW c b k ρ μ = .ok (.nx ρ') μ' ∧ Q ρ' μ' := by
  intro n
  induction n using Nat.strongRecOn with
  | _ n ih =>
    intro ρ μ h
    obtain ⟨t, μ1, e, z⟩ := step n ρ μ h
    rcases z with ⟨rfl, q⟩ | ⟨rfl, ρ', μ', n', hn, e2, h2⟩
    · refine ⟨1, ρ, μ1, ?_, q⟩
      unfold loopW
      rw [e]
      rfl
    · obtain ⟨k, ρ3, μ3, e3, q⟩ := ih n' hn ρ' μ' h2
      refine ⟨k + 1, ρ3, μ3, ?_, q⟩
      unfold loopW
      rw [e]
      simp only [liftO_ok, if_true, e2, x_calm, Out.bind_ok]
      exact e3
theorem wh_run (P : Nat → Rho → Mu → Prop) (Q : Rho → Mu → Prop) {c : Bv} {b : Sv} (n : Nat) {ρ : Rho} {μ : Mu} (h : P n ρ μ)
    (step : ∀ n ρ μ, P n ρ μ → ∃ t μ1, c ρ μ = .ok t μ1 ∧ ((t = false ∧ Q ρ μ1) ∨ (t = true ∧ ∃ ρ' μ' n', n' < n ∧ b ρ μ1 = .ok (.nx ρ') μ' ∧ P n' ρ' μ'))) :
    ∃ ρ' μ', sWhile c b ρ μ = .ok (.nx ρ') μ' ∧ Q ρ' μ' := by
  obtain ⟨k, ρ', μ', e, q⟩ := loopW_run step n ρ μ h
  exact ⟨ρ', μ', sWhile_at k e (by simp), q⟩
section
variable {μ : Mu}
theorem v_eq {neg : Bool} {a b : Wv} {x y : PyData} {c : Bool} (ha : dataOf μ a = some x) (hb : dataOf μ b = some y) (h : eqP x y = some c) : gEq neg a b μ = .ok (.d (.bool (if neg then !c else c))) μ := by
  unfold gEq
  simp only [ha, hb, h]
@[simp] theorem v_eqd {neg : Bool} {x y : PyData} : gEq neg (.d x) (.d y) μ = match eqP x y with
    | some c => .ok (.d (.bool (if neg then !c else c))) μ
    | none => .bad := rfl
@[simp] theorem v_pow {i j : Int} : gPow (.d (.int i)) (.d (.int j)) μ = if 0 ≤ j ∧ j ≤ 1000000 ∧ i.natAbs < 2 ^ 64 then .ok (.d (.int (i ^ j.toNat))) μ else .bad := rfl
@[simp] theorem eq_tt {xs : List PyData} : eqP (.tuple xs) (.tuple []) = some xs.isEmpty := by cases xs <;> rfl
@[simp] theorem eq_ll {xs : List PyData} : eqP (.list xs) (.list []) = some xs.isEmpty := by cases xs <;> rfl
@[simp] theorem eq_ss {x y : Str} : eqP (.str x) (.str y) = some (decide (x = y)) := rfl
@[simp] theorem sh_int {i : Int} : SeqAt.shaped (.int i) = true := rfl
@[simp] theorem sh_bool {b : Bool} : SeqAt.shaped (.bool b) = true := rfl
@[simp] theorem sh_none : SeqAt.shaped .none = true := rfl
@[simp] theorem sh_t0 : SeqAt.shaped (.tuple []) = true := rfl
theorem eq_sh {x y : PyData} (hx : SeqAt.shaped x = true) (hy : SeqAt.shaped y = true) (h1 : ∀ a, x ≠ .str a) (h2 : ∀ a, x ≠ .tuple a) (h3 : ∀ a, x ≠ .list a) : eqP x y = some (PyData.eqv x y) := by
  unfold eqP
  split
  · exact (h1 _ rfl).elim
  · exact (h2 _ rfl).elim
  · exact (h2 _ rfl).elim
  · exact (h3 _ rfl).elim
  · exact (h3 _ rfl).elim
  · rw [if_pos ⟨hx, hy⟩]
@[simp] theorem eq_ii {i j : Int} : eqP (.int i) (.int j) = some (i == j) := by
  rw [eq_sh rfl rfl (fun _ h => by cases h) (fun _ h => by cases h) (fun _ h => by cases h)]
  simp [PyData.eqv]
@[simp] theorem eq_it {i : Int} : eqP (.int i) (.tuple []) = some false := by
  rw [eq_sh rfl rfl (fun _ h => by cases h) (fun _ h => by cases h) (fun _ h => by cases h)]
  simp [PyData.eqv]
@[simp] theorem eq_bi {b : Bool} {j : Int} : eqP (.bool b) (.int j) = some ((if b then 1 else 0) == j) := by
  rw [eq_sh rfl rfl (fun _ h => by cases h) (fun _ h => by cases h) (fun _ h => by cases h)]
  simp [PyData.eqv]
theorem eq_ti {xs : List PyData} {j : Int} (h : SeqAt.shaped (.tuple xs) = true) : eqP (.tuple xs) (.int j) = some false := by
  have : eqP (.tuple xs) (.int j) = if SeqAt.shaped (.tuple xs) = true ∧ SeqAt.shaped (.int j) = true then some (PyData.eqv (.tuple xs) (.int j)) else none := by
    cases xs <;> rfl
  rw [this, if_pos ⟨h, rfl⟩]
  simp [PyData.eqv]
theorem sh_ints {xs : List PyData} (h : ∀ x ∈ xs, ∃ i, x = .int i) : SeqAt.shaped (.tuple xs) = true := by
  have h1 : PyData.canLayAll0 xs = true ∧ PyData.depthAll xs = 0 := by
    induction xs with
    | nil => exact ⟨rfl, rfl⟩
    | cons x xs ih =>
      obtain ⟨i, rfl⟩ := h x List.mem_cons_self
      obtain ⟨a, b⟩ := ih fun y hy => h y (List.mem_cons_of_mem _ hy)
      exact ⟨by simp [PyData.canLayAll0, PyData.canLay0, a], by simp [PyData.depthAll, PyData.depth, b]⟩
  unfold SeqAt.shaped
  simp [PyData.canLay0, PyData.depth, h1.1, h1.2]
end
section
variable {μ : Mu}
theorem app_set {k : Nat} {a : Option Cell} {l : Mu} (h : k < μ.length) : (μ ++ l).set k a = μ.set k a ++ l := List.set_append_left _ _ h
theorem app_get {k : Nat} {a : Option Cell} {l : Mu} (h : μ[k]? = some a) : (μ ++ l)[k]? = some a := by
  rw [List.getElem?_append_left (lt_of_get h)]
  exact h
@[simp] theorem take_setapp {k : Nat} {c : Option Cell} {l : Mu} : (μ.set k c ++ l).take μ.length = μ.set k c := by
  rw [List.take_append_of_le_length (by rw [List.length_set]; exact Nat.le_refl _)]
  exact take_set
@[simp] theorem get_last {k : Nat} {c a : Option Cell} : (μ.set k c ++ [a])[μ.length]? = some a := by
  rw [List.getElem?_append_right (by rw [List.length_set]; exact Nat.le_refl _), List.length_set, Nat.sub_self]
  rfl
@[simp] theorem set_last {k : Nat} {c a b : Option Cell} : (μ.set k c ++ [a]).set μ.length b = μ.set k c ++ [b] := by
  rw [List.set_append_right _ _ (by rw [List.length_set]; exact Nat.le_refl _), List.length_set, Nat.sub_self]
  rfl
theorem v_app {k : Nat} {c : Cell} {x : PyData} (h : μ[k]? = some (some c)) (hl : c.length < 16777216) : gApp (.r k) [.d x] μ = .ok (.d .none) (μ.set k (some (c ++ [x]))) := by
  unfold gApp
  simp only [h, if_pos hl]
theorem x_meth {ρ : Rho} {g : Wv → List Wv → Mu → Out Wv} {o : Ev} {as : Av} : eMeth1 g o as ρ μ = (o ρ μ).bind fun w μ1 => if live w μ1 = true then (as ρ μ1).bind fun ws μ2 => calm (g w ws μ2) else .bad := rfl
theorem live_r {k : Nat} {c : Cell} (h : μ[k]? = some (some c)) : live (.r k) μ = true := by
  unfold live
  simp only [h]
theorem it_r1 {ρ : Rho} {as : Av} {j : Int} {μ1 : Mu} (h : as ρ μ = .ok [.d (.int j)] μ1) (h1 : -4611686018427387904 ≤ j) (h2 : j < 4611686018427387904) : iR1 as ρ μ = .ok ⟨intL 0 j.toNat 1, []⟩ μ1 := by
  show (as ρ μ).bind _ = _
  rw [h]
  show (if smallI j = true then _ else _) = _
  rw [if_pos (smallI_is h1 h2)]
end
end TL
/-! TLR: what repr can show. -/
namespace TL
variable [TabN]
open PySem PySem.Spec L2
/-- may be shown: W its weight, D its depth -/
structure Shw (W D : Nat) (x : PyData) : Prop where
  sh : x.showable = true
  ls : x.leavesShort 1921 = true
  w : x.weight ≤ W
  d : x.depth ≤ D
  nd : x.hasDict = false
structure ShwAll (W D : Nat) (xs : List PyData) : Prop where
  sh : PyData.showableAll xs = true
  ls : PyData.leavesShortAll 1921 xs = true
  w : PyData.weightAll xs ≤ W
  d : PyData.depthAll xs ≤ D
  nd : PyData.hasDictAll xs = false
theorem Shw.ok {W D : Nat} {x : PyData} (h : Shw W D x) (hW : W ≤ 8000) (hD : D ≤ 60) : reprOk x = true := by
  have h1 := PyData.shown_le 1921 (by omega) x h.ls
  have h2 : (1921 + 2) * x.weight ≤ 1923 * 8000 := Nat.mul_le_mul_left _ (Nat.le_trans h.w hW)
  unfold reprOk
  rw [h.sh, h.nd, decide_eq_true (show x.shown.length ≤ 16777216 by omega), decide_eq_true (show x.depth ≤ 60 from Nat.le_trans h.d hD)]
  rfl
theorem Shw.repr {W D : Nat} {x : PyData} {μ : Mu} (h : Shw W D x) (hW : W ≤ 8000) (hD : D ≤ 60) : gRepr [.d x] μ = .ok (.d (.str x.shown)) μ := by
  show (if reprOk x = true then Out.ok (wS x.shown) μ else Out.bad) = _
  rw [if_pos (h.ok hW hD)]
theorem ShwAll.nil : ShwAll 0 0 [] := ⟨rfl, rfl, Nat.le_refl _, Nat.le_refl _, rfl⟩
theorem ShwAll.cons {W D W2 D2 : Nat} {x : PyData} {xs : List PyData} (h : Shw W D x) (t : ShwAll W2 D2 xs) : ShwAll (W + 1 + W2) (max D D2) (x :: xs) := by
  refine ⟨?_, ?_, ?_, ?_, ?_⟩
  · simp [PyData.showableAll, h.sh, t.sh]
  · simp [PyData.leavesShortAll, h.ls, t.ls]
  · have := h.w
    have := t.w
    simp only [PyData.weightAll]
    omega
  · have := h.d
    have := t.d
    simp only [PyData.depthAll]
    omega
  · simp [PyData.hasDictAll, h.nd, t.nd]
theorem Shw.list {W D : Nat} {xs : List PyData} (t : ShwAll W D xs) : Shw W (D + 1) (.list xs) := by
  refine ⟨t.sh, t.ls, ?_, ?_, t.nd⟩
  · simp only [PyData.weight]
    exact t.w
  · have := t.d
    simp only [PyData.depth]
    omega
theorem Shw.tuple {W D : Nat} {xs : List PyData} (t : ShwAll W D xs) : Shw W (D + 1) (.tuple xs) := by
  refine ⟨t.sh, t.ls, ?_, ?_, t.nd⟩
  · simp only [PyData.weight]
    exact t.w
  · have := t.d
    simp only [PyData.depth]
    omega
theorem Shw.up {W D W2 D2 : Nat} {x : PyData} (h : Shw W D x) (hW : W ≤ W2) (hD : D ≤ D2) : Shw W2 D2 x := ⟨h.sh, h.ls, Nat.le_trans h.w hW, Nat.le_trans h.d hD, h.nd⟩
theorem Shw.bool {b : Bool} : Shw 0 0 (.bool b) := ⟨rfl, rfl, Nat.le_refl _, Nat.le_refl _, rfl⟩
theorem Shw.int {i : Int} {n : Nat} (h0 : 0 < n) (hn : n ≤ 1920) (h : i.natAbs < 2 ^ n) : Shw n 0 (.int i) := by
  have hl : i.natAbs.log2 < n := by
    by_cases hz : i.natAbs = 0
    · rw [hz]
      exact h0
    · exact (Nat.log2_lt hz).mpr h
  have hl2 : i.natAbs.log2 < 1920 := Nat.lt_of_lt_of_le hl hn
  refine ⟨by simp [PyData.showable, hl2], ?_, ?_, Nat.le_refl _, rfl⟩
  · simp only [PyData.leavesShort, decide_eq_true_eq]
    exact PyProof.Rows.int_text_len_1921 hl2
  · simp only [PyData.weight]
    split <;> omega
end TL
/-! TL15: defs with defaults; three targets at once. -/
namespace TL
variable [TabN]
open PySem PySem.Spec L2 PyProof.Rows RZ
theorem fng_ofD {P : Program} {w : World} {K : PySem.W.Frag} {mg : Str → Option Value} {base : Heap} {k : Nat} {f : Addr} {x qual : Str} {st : Stmt} {fd : FuncData} {N ps : List Str} {sp : Sp}
    {dvs : List V} {kws : List (Str × V)} (F : FunD K x qual (defArgs st) (defBody st) (defScope st) dvs kws f fd) (S : FnScope N ps (defScope st)) (len : ∀ vs H Q E, sp vs H Q E → vs.length = ps.length)
    (body : ∀ (cdv : Value) (A : Around) (outer : List Env) (s : Shared) (H : Hp) (vs : List V) (Q : VK) (E : XK), Room k (A.deeper (envOfC qual (defScope st) s.heap.objs.size f cdv)) → A.guards = some [] → sp vs H Q E →
      ∃ t, PSs (cxOf (L2.CX P w) P w K mg base N qual (defScope st) f cdv A outer s H E) (defBody st) t ∧ t { nx := fun _ H' => Q .non H', rt := Q } (L2.start N vs) H) :
    FnG P w K mg base (k + 1) f fd ps sp := by
  obtain ⟨oc, od, dV, kV, doc, pm, an, cdv, ct, osl, efd, lk, cd, _, _⟩ := F.ex
  subst efd
  refine ⟨len, fun A outer s0 H args us vs Q E room gd env bd rel want => ?_⟩
  have count := len _ _ _ _ want
  have inK : K.In s0.heap := env.mod.kin.keeps fun b o z => (env.bs b o z).1
  have nolim : s0.heap.NoLimit := env.mod.nolimit.keeps fun b o z => (env.bs b o z).1
  have kinds : ∀ y ∈ ps.zip us, (defScope st).names.lookup y.1 = some .local ∨ ((defScope st).names.lookup y.1 = some .cell ∧ ((cellsFrom (s0.heap.objs.size + 1) (defScope st).names []).lookup y.1).isSome = true) := by
    rintro ⟨m, v⟩ hm
    cases S.par m (List.of_mem_zip hm).1 with
    | inl q => exact .inl q
    | inr q => exact .inr ⟨q, PySem.W.cellsFrom_some _ _ _ (.inl q)⟩
  refine codeAny_call_function room.depth (inK _ _ lk) rfl S.co S.gen rfl (PySem.W.codeRec_of inK cd) (bd _ _ _ _ ?_)
  refine wpAny_newFunctionEnv_cells S.kind kinds fun e2 he s1 ic => ?_
  subst he
  obtain ⟨t, ht, ready⟩ := body cdv A outer s0 H vs Q E (room.deeper _) gd want
  have I0 : Inv (cxOf (L2.CX P w) P w K mg base N qual (defScope st) f cdv A outer s0 H E) [] (L2.start N vs) H s1 := inv_start S room.hd env count rel ic
  refine ⟨nolim.keeps ic.toInCall.keep, codeAny_func (wpAny_mono (ht.run [] s1 (L2.start N vs) H _ I0 ready) (fun fl s2 hs => ?_) fun e s2 hs => hs)⟩
  cases fl with
  | ret u =>
    obtain ⟨v, σ', H', J, rv, q⟩ := hs
    exact ⟨v, H', J.os, J.bare, J.base, J.hok, rv, q⟩
  | next =>
    obtain ⟨σ', H', J, q⟩ := hs
    exact ⟨V.non, H', J.os, J.bare, J.base, J.hok, rfl, q⟩
  | brk => exact (hs.elim fun _ z => z.elim fun _ z => z.2).elim
  | cont => exact (hs.elim fun _ z => z.elim fun _ z => z.2).elim

theorem fng_semD {P : Program} {w : World} {K : PySem.W.Frag} {mg : Str → Option Value} {base : Heap} {k : Nat} {f : Addr} {x qual : Str} {st : Stmt} {fd : FuncData} {N ps : List Str} {b : Sv}
    {dvs : List V} {kws : List (Str × V)} (F : FunD K x qual (defArgs st) (defBody st) (defScope st) dvs kws f fd) (S : FnScope N ps (defScope st))
    (body : ∀ (cdv : Value) (A : Around) (outer : List Env) (s : Shared) (H : Hp) (E : XK), Room k (A.deeper (envOfC qual (defScope st) s.heap.objs.size f cdv)) → A.guards = some [] →
      SSs (cxOf (L2.CX P w) P w K mg base N qual (defScope st) f cdv A outer s H E) (fun cls d _ H => E cls d H) (defBody st) b) :
    FnG P w K mg base (k + 1) f fd ps (spG K mg ps.length (runD N.length b)) := by
  refine fng_ofD F S (fun vs H Q E h => h.len) fun cdv A outer s H vs Q E hr hg h => ⟨_, body cdv A outer s H E hr hg, ?_⟩
  obtain ⟨ws, μ, α, F0, r, rv, q⟩ := h
  refine ⟨initR N.length ws, μ, α, F0, r, repE_start rv, ?_⟩
  unfold arity at q
  split at q
  · unfold runD at q
    show gp K mg α F0 H (b (initR N.length ws) μ) (GS K mg _ _) _
    cases z : b (initR N.length ws) μ with
    | bad =>
      rw [z] at q
      exact q
    | err x us μ' =>
      rw [z] at q
      exact q.elim
    | ok fl μ' =>
      rw [z] at q
      intro α' F' H' e r'
      cases fl with
      | rt w1 => exact fun v hv => gp_leave q r e r' hv
      | nx ρ' => exact fun σ' _ => gp_leave (w := .d .none) q r e r' .non
      | bk ρ' => exact q.elim
      | ct ρ' => exact q.elim
      | er y us ρ' =>
        intro σ' C d fs _ h1 h2 h2n h3
        have q : gp K mg α F0 H (match allD us with
          | some c => .err y (c.map Wv.d) (μ'.take μ.length)
          | none => .bad) (Gw K Q) E := q
        cases hc : allD us with
        | none =>
          rw [hc] at q
          exact q.elim
        | some c =>
          rw [hc] at q
          obtain ⟨r2, e2⟩ := r'.drop e r.len r.len0
          rw [allD_map hc] at h3
          exact q α F' H' C d fs e2 r2 h1 h2 h2n h3.data
  · exact q.elim
theorem fund_mk {K : PySem.W.Frag} {x qual : Str} {st : Stmt} {f T : Addr} {oc : Value} {od an oT : Option Addr} {osl sT : Array (Option Value)} {kV doc pm cdv ct : Value} {its : List Value} {nT : Nat} {dvs : List V} (l : K.lookup f = some ⟨oc, od, .func (PySem.W.fnOf x qual (defArgs st) (defBody st) (defScope st) (.ref T) kV doc pm an cdv ct), osl⟩)
    (lT : K.lookup T = some ⟨.type "tuple", oT, .seq its.toArray nT, sT⟩) (hd : dvs ≠ []) (r : Vals dvs its) (c : PySem.W.codeIn K cdv qual = true) (k : PySem.W.keepIn K (.ref f) = true) : FunD K x qual (defArgs st) (defBody st) (defScope st) dvs [] f (PySem.W.fnOf x qual (defArgs st) (defBody st) (defScope st) (.ref T) kV doc pm an cdv ct) :=
  ⟨⟨oc, od, .ref T, kV, doc, pm, an, cdv, ct, osl, rfl, l, c, .inr ⟨hd, T, _, its, nT, rfl, lT, rfl, r⟩, .inl rfl⟩, k⟩
/-- a def with defaults, its place and its promise; ws0: the defaults as values -/
structure HasD (P : Program) (w : World) (K : PySem.W.Frag) (mg : Str → Option Value) (base : Heap) (j : Nat) (x : Str) (ps : List Str) (n : Nat) (g : GF) (ws0 : List Wv) (f : Addr) (fd : FuncData) : Prop where
  m : mg x = some (.ref f)
  kp : PySem.W.keepIn K (.ref f) = true
  bA : Binds K fd ps []
  bD : ∃ dv ds, Vals dv ds ∧ Binds K fd ps ds ∧ ∀ α F, Rws K α F dv ws0
  G : FnG P w K mg base j f fd ps (spG K mg n g)
def cFD (ws0 : List Wv) (n : Nat) (g : GF) (as : Av) : Ev := fun ρ μ => (as ρ μ).bind fun ws μ1 => if (ws ++ ws0).length = n then g (ws ++ ws0) μ1 else .bad
@[simp] theorem x_cFD {ws0 : List Wv} {n : Nat} {g : GF} {as : Av} {ρ : Rho} {μ : Mu} : cFD ws0 n g as ρ μ = (as ρ μ).bind fun ws μ1 => if (ws ++ ws0).length = n then g (ws ++ ws0) μ1 else .bad := rfl
section
variable {X : Cx} {W : WX} {x : Str} {p pos : Pos} {e : Expr} {es : List Expr} {as : Av} {j k n : Nat} {ps : List Str} {g : GF} {f : Addr} {fd : FuncData} {ws0 : List Wv}
theorem xCallA (h : HasD X.prog X.w X.K X.mg X.base j x ps n g ws0 f fd) (hj : j ≤ k) (hr : Room k X.A) (hg : X.A.guards = some []) (tk : Takes X W) (gl : Gl X x) (ha : SA X W (e :: es) as)
    (hdb : (x == ("__debug__" : Str)) = false := by decide) (he : starEach (e :: es) X.env = (false, eval e X.env) :: starEach es X.env := by rfl) (hpl : (backTo pos (starEach es X.env)).any (·.1) = false := by rfl) :
    SE X W (.Call (.Name x p) (e :: es) [] pos) (cF n g as) := by
  have z := se_call (p := p) (pos := pos) (dv := []) (ds := []) (ws0 := []) (h.G.up hj) hr hg gl h.m h.kp h.bA .nil (fun _ _ => .nil) tk ha hdb he hpl
  have e : eCall (fun ws μ => arity n g (ws ++ []) μ) as = cF n g as := by
    unfold eCall cF arity
    simp only [List.append_nil]
  rw [e] at z
  exact z
theorem xCallD (h : HasD X.prog X.w X.K X.mg X.base j x ps n g ws0 f fd) (hj : j ≤ k) (hr : Room k X.A) (hg : X.A.guards = some []) (tk : Takes X W) (gl : Gl X x) (ha : SA X W (e :: es) as)
    (hdb : (x == ("__debug__" : Str)) = false := by decide) (he : starEach (e :: es) X.env = (false, eval e X.env) :: starEach es X.env := by rfl) (hpl : (backTo pos (starEach es X.env)).any (·.1) = false := by rfl) :
    SE X W (.Call (.Name x p) (e :: es) [] pos) (cFD ws0 n g as) := by
  obtain ⟨dv, ds, hv, hb, hw⟩ := h.bD
  exact se_call (p := p) (pos := pos) (dv := dv) (ds := ds) (ws0 := ws0) (h.G.up hj) hr hg gl h.m h.kp hb hv hw tk ha hdb he hpl
/-- a block within a block -/
theorem lookup_relabel {p : Str → NameKind → Bool} : ∀ {names : List (Str × NameKind)} {x : Str}, (names.lookup x = some .cell ∨ names.lookup x = some .free) →
    ((names.map fun (n, k) => if (k == .free && p n k) then (n, NameKind.cell) else (n, k)).lookup x = some .cell ∨ (names.map fun (n, k) => if (k == .free && p n k) then (n, NameKind.cell) else (n, k)).lookup x = some .free)
  | [], x, h => by simp at h
  | (n, k) :: r, x, h => by
    have ih := lookup_relabel (p := p) (names := r) (x := x)
    simp only [List.map_cons]
    by_cases hx : (x == n) = true
    · simp only [List.lookup_cons, hx, if_true] at h
      by_cases hc : (k == .free && p n k) = true
      · rw [if_pos hc]
        left
        simp [List.lookup_cons, hx]
      · rw [if_neg hc]
        simp only [List.lookup_cons, hx]
        exact h
    · have hx : (x == n) = false := by simpa using hx
      simp only [List.lookup_cons, hx] at h
      have ih := ih h
      by_cases hc : (k == .free && p n k) = true
      · rw [if_pos hc]
        simp only [List.lookup_cons, hx]
        exact ih
      · rw [if_neg hc]
        simp only [List.lookup_cons, hx]
        exact ih
theorem blkOk_bk {scope sc2 : Scope} {own : List (Str × Nat)} {s : Shared} {H : Hp} {C : Addr} {cl : List (Str × Addr)} {fp : List Addr} (h : blkC X.N scope sc2 own = true) : BlkOk (Bk X scope s H C cl fp).N (Bk X scope s H C cl fp).env.scope sc2 own := by
  have b := blkOk_by h
  refine ⟨b.kind, b.uniq, b.ix, fun y hy e => ?_, b.own⟩
  have q := lookup_relabel (p := fun n _ => X.env.scope.kind == .function && X.env.kindOf n == some .cell) (b.free y hy e)
  simp only [← Bool.and_assoc] at q
  exact q
/-- three targets at once -/
def sPar3 (i j l : Nat) (as : Av) : Sv := fun ρ μ => liftO ρ (as ρ μ) fun ws μ1 => match ws with
  | [w1, w2, w3] => .ok (.nx (((ρ.set i (some w1)).set j (some w2)).set l (some w3))) μ1
  | _ => .bad
theorem rws3 {K : PySem.W.Frag} {α : List Addr} {F : Hp} {vs : List V} {w1 w2 w3 : Wv} (h : Rws K α F vs [w1, w2, w3]) : ∃ v1 v2 v3, vs = [v1, v2, v3] ∧ Rw K α F v1 w1 ∧ Rw K α F v2 w2 ∧ Rw K α F v3 w3 := by
  cases h with
  | cons p q =>
    cases q with
    | cons p' q' =>
      cases q' with
      | cons p'' q'' =>
        cases q''
        exact ⟨_, _, _, rfl, p, p', p''⟩
theorem xPar3 (i j l : Nat) {y z : Str} {a b c : Expr} {px py pz pt : Pos} {kt k2 : Nat} {pt2 : Pos} (hc : X.calm = true) (hN : X.N.Nodup) (ha : SA X W [a, b, c] as) (hi : X.N[i]? = some x := by rfl) (hj : X.N[j]? = some y := by rfl) (hl : X.N[l]? = some z := by rfl) (hij : i ≠ j := by decide) (hil : i ≠ l := by decide) (hjl : j ≠ l := by decide)
    (hx : X.env.scope.names.lookup x = some .local := by rfl) (hy : X.env.scope.names.lookup y = some .local := by rfl) (hz : X.env.scope.names.lookup z = some .local := by rfl)
    (hw : swappedStores [.Tuple [.Name x px, .Name y py, .Name z pz] kt pt] (.Tuple [a, b, c] k2 pt2) X.env = pure (some [x, y, z]) := by rfl) (hs : swapsWithSole [.Tuple [.Name x px, .Name y py, .Name z pz] kt pt] (.Tuple [a, b, c] k2 pt2) pos.line X.env = pure false := by rfl) :
    SS X W (.Assign [.Tuple [.Name x px, .Name y py, .Name z pz] kt pt] (.Tuple [a, b, c] k2 pt2) pos) (sPar3 i j l as) := by
  refine (ps_par3 hc hN hi hj hl hij hil hjl hx hy hz ha hw hs).imp fun D σ H ⟨ρ, μ, α, F, r, re, q⟩ => ?_
  refine ⟨ρ, μ, α, F, r, re, (gp_lift re q).mono fun ws μ1 α1 F1 H1 x1 r1 q1 vs rv => ?_⟩
  split at q1
  · obtain ⟨v1, v2, v3, rfl, d1, d2, d3⟩ := rws3 rv
    exact ⟨v1, v2, v3, rfl, q1.now r1 _ ((((re.ext x1).set i d1).set j d2).set l d3)⟩
  · exact q1.elim
@[simp] theorem x_par3 {i j l : Nat} {ρ : Rho} {μ : Mu} : sPar3 i j l as ρ μ = liftO ρ (as ρ μ) fun ws μ1 => match ws with
  | [w1, w2, w3] => .ok (.nx (((ρ.set i (some w1)).set j (some w2)).set l (some w3))) μ1
  | _ => .bad := rfl
@[simp] theorem x_par {i j : Nat} {ρ : Rho} {μ : Mu} : sPar i j as ρ μ = liftO ρ (as ρ μ) fun ws μ1 => match ws with
  | [w1, w2] => .ok (.nx ((ρ.set i (some w1)).set j (some w2))) μ1
  | _ => .bad := rfl
end
end TL
/-! TL16: chains of comparisons; tables of the module; methods of texts. -/
namespace TL
variable [TabN]
open PySem PySem.Spec L2 PyProof.Rows RZ
section
variable {X : Cx} {W : WX} {x : Str} {p pos : Pos} {e : Expr} {es : List Expr} {as : Av}
/-- a op b op' c -/
def eChain (g g' : Wv → Wv → Mu → Out Wv) (a b c : Ev) : Ev := fun ρ μ => (a ρ μ).bind fun w μ1 => (b ρ μ1).bind fun u μ2 => (calm (g w u μ2)).bind fun z μ3 => (wB z μ3).bind fun k μ4 =>
  if k = true then (c ρ μ4).bind fun v μ5 => calm (g' u v μ5) else .ok (.d (.bool false)) μ4
@[simp] theorem x_chain {g g' : Wv → Wv → Mu → Out Wv} {a b c : Ev} {ρ : Rho} {μ : Mu} : eChain g g' a b c ρ μ = (a ρ μ).bind fun w μ1 => (b ρ μ1).bind fun u μ2 => (calm (g w u μ2)).bind fun z μ3 => (wB z μ3).bind fun k μ4 =>
  if k = true then (c ρ μ4).bind fun v μ5 => calm (g' u v μ5) else .ok (.d (.bool false)) μ4 := rfl
theorem chain_read {a b c : Expr} {g g' : Wv → Wv → Mu → Out Wv} {fa fb fc : Ev} {σ : St} {H : Hp} {Q : VK} (h : tE X.K X.mg W (eChain g g' fa fb fc) σ H Q) : tChain (r2G X.K X.mg g) (r2G X.K X.mg g') (tE X.K X.mg W fa) (tE X.K X.mg W fb) (tE X.K X.mg W fc) σ H Q := by
  obtain ⟨ρ, μ, α, F, r, re, q⟩ := h
  refine ⟨ρ, μ, α, F, r, re, q.bind.mono fun w μ1 α1 F1 H1 x1 r1 q1 v rv => ?_⟩
  refine ⟨ρ, μ1, α1, F1, r1, re.ext x1, q1.bind.mono fun u μ2 α2 F2 H2 x2 r2 q2 v' rv' => ?_⟩
  refine ⟨μ2, α2, F2, w, u, r2, rv.ext x2, rv', q2.bind.none.calm.mono fun z μ3 α3 F3 H3 x3 r3 q3 v3 rv3 => ?_⟩
  obtain ⟨k, rfl, rfl, q4⟩ := wB_ok q3.bind rv3
  refine ⟨k, rfl, ?_⟩
  have q5 := q4.now r3
  cases k with
  | false => exact q5.now r3 _ (.bl _)
  | true =>
    show tE X.K X.mg W fc σ H3 _
    refine ⟨ρ, μ3, α3, F3, r3, ((re.ext x1).ext x2).ext x3, (show gp X.K X.mg α3 F3 H3 ((fc ρ μ3).bind _) _ _ from q5).bind.mono fun v4 μ5 α5 F5 H5 x5 r5 q6 v5 rv5 => ?_⟩
    exact ⟨μ5, α5, F5, u, v4, r5, (rv'.ext x3).ext x5, rv5, q6.calm⟩
theorem xChain {a b c : Expr} {op op' : CmpOp} {g g' : Wv → Wv → Mu → Out Wv} {fa fb fc : Ev} (ho : OpR X (compareOp op) (r2G X.K X.mg g)) (ho' : OpR X (compareOp op') (r2G X.K X.mg g')) (ha : SE X W a fa) (hb : SE X W b fb) (hc : SE X W c fc)
    (hm : lastMarks [op, op'] [b, c] = false := by with_unfolding_all rfl) : SE X W (.Compare a [op, op'] [b, c] pos) (eChain g g' fa fb fc) :=
  (pe_chain ho ho' ha hb hc hm).imp fun σ H Q h => chain_read (a := a) (b := b) (c := c) h
theorem xtChain {a b c : Expr} {op op' : CmpOp} {g g' : Wv → Wv → Mu → Out Wv} {fa fb fc : Ev} (ho : OpR X (compareOp op) (r2G X.K X.mg g)) (ho' : OpR X (compareOp op') (r2G X.K X.mg g')) (ha : SE X W a fa) (hb : SE X W b fb) (hc : SE X W c fc)
    (hm : lastMarks [op, op'] [b, c] = false := by with_unfolding_all rfl) : ST X W (.Compare a [op, op'] [b, c] pos) (tB' (eChain g g' fa fb fc)) := by
  refine (pt_chain ho ho' ha hb hc hm).imp fun σ H Q ⟨ρ, μ, α, F, r, re, q⟩ => ?_
  refine chain_read (a := a) (b := b) (c := c) (W := W) ⟨ρ, μ, α, F, r, re, (show gp X.K X.mg α F H ((eChain g g' fa fb fc ρ μ).bind wB) _ _ from q).bind.mono fun z μ1 α1 F1 H1 x1 r1 q1 v rv => ?_⟩
  obtain ⟨k, rfl, rfl, q2⟩ := wB_ok q1 rv
  exact ⟨k, rfl, q2.now r1⟩

/-! ### tables of the module: texts to data -/
structure ConD (K : PySem.W.Frag) (mg : Str → Option Value) (w : World) (x : Str) (tbl : List (Str × PyData)) : Prop where
  ex : ∃ a es n, mg x = some (.ref a) ∧ KDict K w a es n ∧ ∀ z, (∃ c u v, tbl.lookup z = some c ∧ PySem.W.nsIn K a z = some (some u) ∧ RelV v u ∧ ∀ F, Dq K F v c) ∨ (tbl.lookup z = none ∧ PySem.W.nsIn K a z = some none)
theorem kdict_none {K : PySem.W.Frag} {w : World} {a : Addr} {es : Array DictEntry} {n : Nat} {ks : List Str} (D : KDict K w a es n) (hk : He.dicW K a = some (He.keysIn w.params ks)) {z : Str} (h : z ∉ ks) : PySem.W.nsIn K a z = some none := by
  have hk2 : es.toList.map He.keyOf = He.keysIn w.params ks := by
    unfold He.dicW at hk
    rw [D.at_] at hk
    simp only at hk
    split at hk
    · exact Option.some.inj hk
    · cases hk
  have key : ∀ (l : List DictEntry) (ks : List Str), l.map He.keyOf = He.keysIn w.params ks → z ∉ ks → l.find? (·.key.isStr z) = none ∧ l.any (·.refKey) = false := by
    intro l
    induction l with
    | nil => intro ks _ _; exact ⟨rfl, rfl⟩
    | cons d l ih =>
      intro ks e hz
      cases ks with
      | nil => cases e
      | cons k ks =>
        have e : He.keyOf d :: l.map He.keyOf = some (k, PyData.keyHash w.params k) :: He.keysIn w.params ks := e
        injection e with e1 e2
        obtain ⟨i1, i2⟩ := ih ks e2 fun m => hz (List.mem_cons_of_mem _ m)
        have hne : k ≠ z := fun e => hz (by rw [e]; exact List.mem_cons_self)
        unfold He.keyOf at e1
        split at e1
        · rename_i y t q
          have e3 := Option.some.inj e1
          obtain ⟨e4, _⟩ := Prod.mk.inj e3
          subst e4
          have s1 : d.key.isStr z = false := by
            rw [q]
            show (y == z) = false
            simpa using hne
          have s2 : d.refKey = false := by
            unfold DictEntry.refKey
            rw [q]
          exact ⟨by rw [List.find?_cons, s1]; exact i1, by rw [List.any_cons, s2]; exact i2⟩
        · cases e1
  obtain ⟨k1, k2⟩ := key _ _ hk2 h
  unfold PySem.W.nsIn
  rw [D.at_]
  simp only
  rw [k1, k2]
  rfl
theorem conD_mk {K : PySem.W.Frag} {mg : Str → Option Value} {w : World} {a : Addr} {tbl : List (Str × PyData)} (hm : mg x = some (.ref a)) (hk : He.dicW K a = some (He.keysIn w.params (tbl.map (·.1))))
    (hv : ∀ q ∈ tbl, ∃ u v, PySem.W.nsIn K a q.1 = some (some u) ∧ RelV v u ∧ ∀ F, Dq K F v q.2) : ConD K mg w x tbl := by
  obtain ⟨es, n, D⟩ := He.dicW_ok hk
  refine ⟨a, es, n, hm, D, fun z => ?_⟩
  have lk : ∀ (t : List (Str × PyData)) (c : PyData), t.lookup z = some c → (z, c) ∈ t := by
    intro t
    induction t with
    | nil => intro c h; cases h
    | cons q t ih =>
      intro c h
      rw [List.lookup_cons] at h
      by_cases hz : (z == q.1) = true
      · rw [hz] at h
        have : z = q.1 := by simpa using hz
        cases h
        rw [this]
        exact List.mem_cons_self
      · have hz : (z == q.1) = false := by simpa using hz
        rw [hz] at h
        exact List.mem_cons_of_mem _ (ih c h)
  have ln : ∀ (t : List (Str × PyData)), t.lookup z = none → z ∉ t.map (·.1) := by
    intro t
    induction t with
    | nil => intro _ h; cases h
    | cons q t ih =>
      intro h hm
      rw [List.lookup_cons] at h
      by_cases hz : (z == q.1) = true
      · rw [hz] at h; cases h
      · have hz : (z == q.1) = false := by simpa using hz
        rw [hz] at h
        rw [List.map_cons] at hm
        rcases List.mem_cons.mp hm with e | hm
        · rw [e] at hz; simp at hz
        · exact ih h hm
  cases hl : tbl.lookup z with
  | some c =>
    obtain ⟨u, v, h1, h2, h3⟩ := hv _ (lk _ _ hl)
    exact .inl ⟨c, u, v, rfl, h1, h2, h3⟩
  | none => exact .inr ⟨rfl, kdict_none D hk (ln _ hl)⟩
theorem dicW_lk {K : PySem.W.Frag} {P : Params} {a : Addr} {es : Array DictEntry} {n : Nat} {ks : List Str} (hl : K.lookup a = some ⟨.type "dict", none, .dict es n, #[]⟩) (hk : es.toList.map He.keyOf = He.keysIn P ks) (hs : (a == sysModules) = false) : He.dicW K a = some (He.keysIn P ks) := by
  unfold He.dicW
  rw [hl]
  simp [hs, hk]
theorem conD_mk2 {K : PySem.W.Frag} {mg : Str → Option Value} {w : World} {a : Addr} {es : Array DictEntry} {n : Nat} {tbl : List (Str × PyData)} (hm : mg x = some (.ref a)) (hl : K.lookup a = some ⟨.type "dict", none, .dict es n, #[]⟩) (hk : es.toList.map He.keyOf = He.keysIn w.params (tbl.map (·.1))) (hs : (a == sysModules) = false)
    (hv : ∀ q ∈ tbl, ∃ u v, PySem.W.nsIn K a q.1 = some (some u) ∧ RelV v u ∧ ∀ F, Dq K F v q.2) : ConD K mg w x tbl := conD_mk hm (dicW_lk hl hk hs) hv
def gInD (neg : Bool) (tbl : List (Str × PyData)) (w : Wv) (μ : Mu) : Out Wv := match w with
  | .d (.str z) => .ok (.d (.bool (if neg then !(tbl.lookup z).isSome else (tbl.lookup z).isSome))) μ
  | _ => .bad
def gItD (tbl : List (Str × PyData)) (w : Wv) (μ : Mu) : Out Wv := match w with
  | .d (.str z) => match tbl.lookup z with
    | some c => .ok (.d c) μ
    | none => .bad
  | _ => .bad
@[simp] theorem x_inD {neg : Bool} {tbl : List (Str × PyData)} {z : Str} {μ : Mu} : gInD neg tbl (.d (.str z)) μ = .ok (.d (.bool (if neg then !(tbl.lookup z).isSome else (tbl.lookup z).isSome))) μ := rfl
theorem x_itD {tbl : List (Str × PyData)} {z : Str} {c : PyData} {μ : Mu} (h : tbl.lookup z = some c) : gItD tbl (.d (.str z)) μ = .ok (.d c) μ := by
  unfold gItD
  simp only [h]
theorem dq_str {K : PySem.W.Frag} {F : Hp} {v : V} {z : Str} (h : Dq K F v (.str z)) : v = .str z := by
  cases h
  rfl
theorem xInD {tbl : List (Str × PyData)} {a : Expr} {px : Pos} {fa : Ev} (h : ConD X.K X.mg X.w x tbl) (hg : Gl X x) (ha : SE X W a fa) (hd : (x == ("__debug__" : Str)) = false := by decide) (hm : behindInMarks .In (.Name x px) = false := by first | rfl | exact nomark _) :
    SE X W (.Compare a [.In] [.Name x px] pos) (e1 (gInD false tbl) fa) := by
  obtain ⟨ad, es, n, hmg, D, hz⟩ := h.ex
  refine (pe_cmpR (op_in_kd D) ha (pe_glob (v := .ref ad) hg hmg rfl hd) hm).imp fun σ H Q ⟨ρ, μ, α, F, r, re, q⟩ => ?_
  refine ⟨ρ, μ, α, F, r, re, q.bind.mono fun w μ1 α1 F1 H1 x1 r1 q1 v rv => ?_⟩
  have q2 := q1.calm (X' := fun _ _ _ => False)
  unfold gInD at q2
  split at q2
  · rename_i z
    have e := dq_str rv
    subst e
    rcases hz z with ⟨c, u, v0, h1, h2, _, _⟩ | ⟨h1, h2⟩
    · exact ⟨z, _, rfl, rfl, h2, q2.now r1 _ (by rw [h1]; exact .bl _)⟩
    · exact ⟨z, _, rfl, rfl, h2, q2.now r1 _ (by rw [h1]; exact .bl _)⟩
  · exact q2.elim
theorem xNotInD {tbl : List (Str × PyData)} {a : Expr} {px : Pos} {fa : Ev} (h : ConD X.K X.mg X.w x tbl) (hg : Gl X x) (ha : SE X W a fa) (hd : (x == ("__debug__" : Str)) = false := by decide) (hm : behindInMarks .NotIn (.Name x px) = false := by first | rfl | exact nomark _) :
    SE X W (.Compare a [.NotIn] [.Name x px] pos) (e1 (gInD true tbl) fa) := by
  obtain ⟨ad, es, n, hmg, D, hz⟩ := h.ex
  refine (pe_cmpR (op_notIn_kd D) ha (pe_glob (v := .ref ad) hg hmg rfl hd) hm).imp fun σ H Q ⟨ρ, μ, α, F, r, re, q⟩ => ?_
  refine ⟨ρ, μ, α, F, r, re, q.bind.mono fun w μ1 α1 F1 H1 x1 r1 q1 v rv => ?_⟩
  have q2 := q1.calm (X' := fun _ _ _ => False)
  unfold gInD at q2
  split at q2
  · rename_i z
    have e := dq_str rv
    subst e
    rcases hz z with ⟨c, u, v0, h1, h2, _, _⟩ | ⟨h1, h2⟩
    · exact ⟨z, _, rfl, rfl, h2, q2.now r1 _ (by rw [h1]; exact .bl _)⟩
    · exact ⟨z, _, rfl, rfl, h2, q2.now r1 _ (by rw [h1]; exact .bl _)⟩
  · exact q2.elim
theorem xtInD {tbl : List (Str × PyData)} {a : Expr} {px : Pos} {fa : Ev} (h : ConD X.K X.mg X.w x tbl) (hg : Gl X x) (ha : SE X W a fa) (hd : (x == ("__debug__" : Str)) = false := by decide) (hm : behindInMarks .In (.Name x px) = false := by first | rfl | exact nomark _) :
    ST X W (.Compare a [.In] [.Name x px] pos) (tB' (e1 (gInD false tbl) fa)) := by
  obtain ⟨ad, es, n, hmg, D, hz⟩ := h.ex
  refine (pt_cmpR (op_in_kd D) ha (pe_glob (v := .ref ad) hg hmg rfl hd) hm).imp fun σ H Q ⟨ρ, μ, α, F, r, re, q⟩ => ?_
  refine ⟨ρ, μ, α, F, r, re, q.bind.bind.mono fun w μ1 α1 F1 H1 x1 r1 q1 v rv => ?_⟩
  have q2 := q1.calm (X' := fun _ _ _ => False)
  cases w with
  | r k => exact q2.elim
  | t ds => exact q2.elim
  | o _ => exact q2.elim
  | x _ _ _ => exact q2.elim
  | d y =>
    cases y with
    | str z =>
      have e := dq_str rv
      subst e
      rw [x_inD] at q2
      have q3 := q2.now r1
      rw [x_wB] at q3
      have q4 := q3.now r1
      rcases hz z with ⟨c, u, v0, h1, h2, _, _⟩ | ⟨h1, h2⟩
      · exact ⟨z, _, rfl, rfl, h2, _, rfl, by rw [h1] at q4; exact q4⟩
      · exact ⟨z, _, rfl, rfl, h2, _, rfl, by rw [h1] at q4; exact q4⟩
    | _ => exact q2.elim
theorem xtNotInD {tbl : List (Str × PyData)} {a : Expr} {px : Pos} {fa : Ev} (h : ConD X.K X.mg X.w x tbl) (hg : Gl X x) (ha : SE X W a fa) (hd : (x == ("__debug__" : Str)) = false := by decide) (hm : behindInMarks .NotIn (.Name x px) = false := by first | rfl | exact nomark _) :
    ST X W (.Compare a [.NotIn] [.Name x px] pos) (tB' (e1 (gInD true tbl) fa)) := by
  obtain ⟨ad, es, n, hmg, D, hz⟩ := h.ex
  refine (pt_cmpR (op_notIn_kd D) ha (pe_glob (v := .ref ad) hg hmg rfl hd) hm).imp fun σ H Q ⟨ρ, μ, α, F, r, re, q⟩ => ?_
  refine ⟨ρ, μ, α, F, r, re, q.bind.bind.mono fun w μ1 α1 F1 H1 x1 r1 q1 v rv => ?_⟩
  have q2 := q1.calm (X' := fun _ _ _ => False)
  cases w with
  | r k => exact q2.elim
  | t ds => exact q2.elim
  | o _ => exact q2.elim
  | x _ _ _ => exact q2.elim
  | d y =>
    cases y with
    | str z =>
      have e := dq_str rv
      subst e
      rw [x_inD] at q2
      have q3 := q2.now r1
      rw [x_wB] at q3
      have q4 := q3.now r1
      rcases hz z with ⟨c, u, v0, h1, h2, _, _⟩ | ⟨h1, h2⟩
      · exact ⟨z, _, rfl, rfl, h2, _, rfl, by rw [h1] at q4; exact q4⟩
      · exact ⟨z, _, rfl, rfl, h2, _, rfl, by rw [h1] at q4; exact q4⟩
    | _ => exact q2.elim
theorem xItD {tbl : List (Str × PyData)} {b : Expr} {px : Pos} {fb : Ev} (h : ConD X.K X.mg X.w x tbl) (hg : Gl X x) (hb : SE X W b fb) (hd : (x == ("__debug__" : Str)) = false := by decide) (hs : PlainIx b := by intro _ _; rfl) :
    SE X W (.Subscript (.Name x px) b pos) (e1 (gItD tbl) fb) := by
  obtain ⟨ad, es, n, hmg, D, hz⟩ := h.ex
  refine (pe_ix ix_kdict (pe_glob (v := .ref ad) hg hmg rfl hd) hb hs).imp fun σ H Q ⟨ρ, μ, α, F, r, re, q⟩ => ?_
  refine ⟨ρ, μ, α, F, r, re, q.bind.mono fun w μ1 α1 F1 H1 x1 r1 q1 v rv => ?_⟩
  have q2 := q1.calm (X' := fun _ _ _ => False)
  unfold gItD at q2
  split at q2
  · rename_i z
    have e := dq_str rv
    subst e
    split at q2
    · rename_i c hc
      rcases hz z with ⟨c', u, v0, h1, h2, h3, h4⟩ | ⟨h1, h2⟩
      · rw [hc] at h1
        cases h1
        exact ⟨ad, z, v0, rfl, rfl, ⟨es, n, u, D.at_, D.lit, h2, h3⟩, q2.now r1 _ (h4 _)⟩
      · rw [hc] at h1; cases h1
    · exact q2.elim
  · exact q2.elim
def gGetD (tbl : List (Str × PyData)) (w u : Wv) (μ : Mu) : Out Wv := match w with
  | .d (.str z) => match tbl.lookup z with
    | some c => .ok (.d c) μ
    | none => .ok u μ
  | _ => .bad
theorem xGetD {tbl : List (Str × PyData)} {f : Expr} {px apos cpos : Pos} {fe ff : Ev} (h : ConD X.K X.mg X.w x tbl) (hg : Gl X x) (he : SE X W e fe) (hf : SE X W f ff) (hd : (x == ("__debug__" : Str)) = false := by decide) (m : M2 X (.Name x px) "get" apos e f cpos := by exact ⟨rfl, rfl, rfl, rfl⟩) :
    SE X W (.Call (.Attribute (.Name x px) "get" apos) [e, f] [] cpos) (e2 (gGetD tbl) fe ff) := by
  obtain ⟨ad, es, n, hmg, D, hz⟩ := h.ex
  refine ⟨fun pins s σ H Q I h => ?_⟩
  obtain ⟨ρ, μ, α, F, r, re, q⟩ := h
  refine wpAny_Call_method m.base m.few m.line PySem.F.plainAttrs_dict PySem.F.slot_dict_get PySem.F.type_dict_get (thn ((pe_glob (v := .ref ad) hg hmg rfl hd).run pins s σ H (fun v H1 => v = .ref ad ∧ H1 = H) I ⟨rfl, rfl⟩) fun u s1 ⟨x, H1, I1, rx, ex, eh⟩ => ?_)
  subst ex eh
  obtain rfl : u = Value.ref ad := rx
  refine ⟨kd_type D I1, fun b hb => ?_, ?_⟩
  · cases hb
    exact ⟨_, I1.kIn _ _ D.at_, rfl⟩
  · rw [m.trees]
    refine Calls.callWith_builtin rfl (Calls.evalArgs_plain (Calls.spliced_cons (thn (he.run pins s1 σ H1 (fun v H2 => tE X.K X.mg W ff σ H2 fun v2 H3 => ∃ μ α F w1 w2, Rep X.K α F μ H3 ∧ Rw X.K α F v w1 ∧ Rw X.K α F v2 w2 ∧ gp X.K X.mg α F H3 (gGetD tbl w1 w2 μ) (Gw X.K Q) (fun _ _ _ => False)) I1 ?_) fun iv s2 ⟨y, H2, I2, ry, q2⟩ =>
      Calls.spliced_cons (thn (hf.run pins s2 σ H2 _ I2 q2) fun fv s3 ⟨z, H3, I3, rz, q3⟩ => Calls.spliced_nil ?_))))
    · refine ⟨ρ, μ, α, F, r, re, q.bind.mono fun w μ1 α1 F1 H1 x1 r1 q1 v rv => ?_⟩
      refine ⟨ρ, μ1, α1, F1, r1, re.ext x1, q1.bind.mono fun u μ2 α2 F2 H2 x2 r2 q2 v' rv' => ?_⟩
      exact ⟨μ2, α2, F2, w, u, r2, rv.ext x2, rv', q2.calm⟩
    · obtain ⟨μ3, α3, F3, w1, w2, r3, k1, k2, q4⟩ := q3
      unfold gGetD at q4
      split at q4
      · rename_i zz
        have e := dq_str k1
        subst e
        obtain ⟨t, rfl⟩ := ry
        have hmap := PySem.W.mapOf_K (prog := X.prog) (w := X.w) I3.kIn D.at_ D.lit
        rcases hz zz with ⟨c, u0, v0, h1, h2, h3, h4⟩ | ⟨h1, h2⟩
        · rw [h1] at q4
          refine call_meetsIn PySem.F.slot_dict_get hmap.typeIs PySem.F.entry_dict_get (PySem.F.args_dict_get_3 _ _ _) (meets_dict_get_default (strKind X.prog X.w) ad (strKind_is X.prog X.w zz t) D.low fv) ⟨_, hmap, ?_⟩
          rw [PySem.W.find_K D.at_ h2]
          exact ⟨v0, H3, I3.tok _, h3, q4.now r3 _ (h4 _)⟩
        · rw [h1] at q4
          refine call_meetsIn PySem.F.slot_dict_get hmap.typeIs PySem.F.entry_dict_get (PySem.F.args_dict_get_3 _ _ _) (meets_dict_get_default (strKind X.prog X.w) ad (strKind_is X.prog X.w zz t) D.low fv) ⟨_, hmap, ?_⟩
          rw [PySem.W.find_K D.at_ h2]
          exact ⟨z, H3, I3.tok _, rz, q4.now r3 _ k2⟩
      · exact q4.elim
/-! ### methods of texts, of one text -/
def gStr1 (g : Str → Str → PyData) (w u : Wv) (μ : Mu) : Out Wv := match w, u with
  | .d (.str a), .d (.str b) => .ok (.d (g a b)) μ
  | _, _ => .bad
/-- o.m(e), where o is known to be a text -/
def eStr1 (g : Str → Str → PyData) (o a : Ev) : Ev := fun ρ μ => (o ρ μ).bind fun w μ1 => match w with
  | .d (.str x) => (a ρ μ1).bind fun u μ2 => calm (gStr1 g (.d (.str x)) u μ2)
  | _ => .bad
theorem se_str1 {id : String} {name : Str} {gv : Str → Str → V} {gd : Str → Str → PyData} {o : Expr} {apos cpos : Pos} {fo fe : Ev} (pa : PlainAttrs "str") (slot : Slot "str" name id) (hty : typeOf (.builtin id) = pure (.type "method_descriptor"))
    (hm : MtR X id (fun x xs H Q => ∃ a b, x = .str a ∧ xs = [.str b] ∧ Q (gv a b) H)) (hd : ∀ F a b, Dq X.K F (gv a b) (gd a b)) (ho : SE X W o fo) (he : SE X W e fe)
    (hbase : attributeBase o name X.env (eval o X.env) = eval o X.env := by rfl)
    (hfew : ((backTo cpos (starEach [e] X.env)).all (fun x => !x.1) && (backToKw cpos (keywordEach [] X.env)).all (fun x => x.1.isSome) && decide ([e].length + ([] : List Keyword).length + (if ([] : List Keyword).isEmpty then 0 else 1) < 30)) = true := by rfl)
    (hline : (apos.endLine == cpos.line) = true := by rfl) (hs : starEach [e] X.env = (false, eval e X.env) :: starEach [] X.env := by rfl) (hplain : (backTo cpos (starEach [] X.env)).any (·.1) = false := by rfl) :
    SE X W (.Call (.Attribute o name apos) [e] [] cpos) (eStr1 gd fo fe) := by
  refine (pe_bm pa slot hty hm ho (sa_cons he sa_nil hs) hbase hfew hline hs hplain).imp fun σ H Q ⟨ρ, μ, α, F, r, re, q⟩ => ?_
  refine ⟨ρ, μ, α, F, r, re, q.bind.mono fun w μ1 α1 F1 H1 x1 r1 q1 v rv => ?_⟩
  split at q1
  · rename_i z
    have ev := dq_str rv
    subst ev
    refine ⟨rfl, ρ, μ1, α1, F1, r1, re.ext x1, ?_⟩
    show gp X.K X.mg α1 F1 H1 ((fe ρ μ1).bind fun w μ1 => (aNil ρ μ1).bind fun ws μ2 => .ok (w :: ws) μ2) _ _
    have q2 := q1.bind
    cases hfe : fe ρ μ1 with
    | bad => rw [hfe] at q2; exact q2
    | err y ws μ' => rw [hfe] at q2; exact q2
    | ok u μ2 =>
      rw [hfe] at q2
      intro α2 F2 H2 x2 r2 us rus
      cases rus with
      | cons ru t =>
        cases t
        have q3 := (q2.at x2 r2).calm (X' := fun _ _ _ => False)
        cases u with
        | r k => exact q3.elim
        | t ds => exact q3.elim
        | o _ => exact q3.elim
        | x _ _ _ => exact q3.elim
        | d y =>
          cases y with
          | str b =>
            have eu := dq_str ru
            subst eu
            have q4 : gp X.K X.mg α2 F2 H2 (Out.ok (Wv.d (gd z b)) μ2) (Gw X.K Q) (fun _ _ _ => False) := q3
            exact ⟨z, b, rfl, rfl, q4.now r2 _ (hd _ _ _)⟩
          | _ => exact q3.elim
  · exact q1.elim
theorem xStarts {o : Expr} {apos cpos : Pos} {fo fe : Ev} (ho : SE X W o fo) (he : SE X W e fe)
    (hbase : attributeBase o "startswith" X.env (eval o X.env) = eval o X.env := by rfl)
    (hfew : ((backTo cpos (starEach [e] X.env)).all (fun x => !x.1) && (backToKw cpos (keywordEach [] X.env)).all (fun x => x.1.isSome) && decide ([e].length + ([] : List Keyword).length + (if ([] : List Keyword).isEmpty then 0 else 1) < 30)) = true := by rfl)
    (hline : (apos.endLine == cpos.line) = true := by rfl) (hs : starEach [e] X.env = (false, eval e X.env) :: starEach [] X.env := by rfl) (hplain : (backTo cpos (starEach [] X.env)).any (·.1) = false := by rfl) :
    SE X W (.Call (.Attribute o "startswith" apos) [e] [] cpos) (eStr1 (fun a b => .bool (Txt.startswith a b)) fo fe) :=
  se_str1 PySem.F.plainAttrs_str PySem.F.slot_str_startswith PySem.F.type_str_startswith mt_startswith (fun _ _ _ => .bl _) ho he hbase hfew hline hs hplain
end
end TL
/-! TL17: tuples that a display has made, known to their objects; t.index(text). -/
namespace TL
variable [TabN]
open PySem PySem.Spec L2 PyProof.Rows RZ
section
variable {X : Cx} {W : WX} {x : Str} {p pos : Pos} {e : Expr} {es : List Expr} {as : Av}
def tTupX (t : TA) : TE := fun σ H Q => t σ H fun xs H1 => xs.length ≤ sizeLine ∧ ∀ p o, H1 p = none → o.cls = .type "tuple" → o.dict = none → Q (.ref p) (upd H1 p (.frz o (.tup xs)))
theorem pe_tupX {x1} {t : TA} (h : PA X es t) : PE X (.Tuple es x1 pos) (tTupX t) := by
  refine ⟨fun pins s σ H Q I hq => ?_⟩
  refine wpAny_Tuple_spliced (thn (h.run pos pins s σ H _ I hq) fun us s1 ⟨xs, H1, I1, r, z, q⟩ => ⟨by rw [← r.length]; exact z, ?_⟩)
  have hf : H1 s1.heap.objs.size = none := I1.hok.fresh (Nat.le_refl _)
  refine ⟨.ref s1.heap.objs.size, upd H1 s1.heap.objs.size (.frz { cls := .type "tuple", data := .seq us.toArray } (.tup xs)), I1.laid (t' := s1.toks) (fun b u e => Heap.get?_push_of_some _ e) (Nat.le_refl _) ?_, rfl, q _ _ hf rfl rfl⟩
  exact ⟨Heap.get?_push_size _ rfl, z, us, r, ⟨_, Heap.get?_push_size _ rfl, rfl, _, rfl⟩⟩
def eTupX (as : Av) : Ev := fun ρ μ => (lDisp as ρ μ).bind fun c μ1 => .ok (.t c) μ1
@[simp] theorem x_tupX {as : Av} {ρ : Rho} {μ : Mu} : eTupX as ρ μ = (lDisp as ρ μ).bind fun c μ1 => .ok (.t c) μ1 := rfl
theorem xTupX {x1} (h : SA X W es as) : SE X W (.Tuple es x1 pos) (eTupX as) := by
  refine (pe_tupX h).imp fun σ H Q ⟨ρ, μ, α, F, r, re, q⟩ => ?_
  refine ⟨ρ, μ, α, F, r, re, q.bind.bind.mono fun ws μ1 α1 F1 H1 x1 r1 q1 vs rvs => ?_⟩
  cases e : allD ws with
  | none =>
    rw [e] at q1
    exact q1.elim
  | some c =>
    rw [e] at q1
    have dq := allD_ok e rvs
    by_cases hl : c.length ≤ 16777216
    · have q2 : gp X.K X.mg α1 F1 H1 ((if c.length ≤ 16777216 then Out.ok c μ1 else .bad).bind fun c μ1 => .ok (.t c) μ1) (Gw X.K Q) (fun c d H' => W c d σ H') := by
        cases z : (if c.length ≤ 16777216 then Out.ok c μ1 else .bad) with
        | ok c' μ' =>
          have : gp X.K X.mg α1 F1 H1 (if c.length ≤ 16777216 then Out.ok c μ1 else .bad) _ _ := q1
          rw [z] at this
          exact fun α' F' H' e r => gp.now (this α' F' H' e r) r
        | err x ws μ' =>
          rw [if_pos hl] at z
          cases z
        | bad =>
          rw [if_pos hl] at z
          cases z
      rw [if_pos hl] at q2
      refine ⟨by rw [dq.length]; exact le_line hl, fun p o hp hc hd => ?_⟩
      obtain ⟨r2, x2⟩ := r1.new (o := .frz o (.tup vs)) hp
      exact q2.at x2 r2 _ ⟨p, o, vs, rfl, upd_same, hc, hd, dq.mono x2.fro⟩
    · have : gp X.K X.mg α1 F1 H1 (if c.length ≤ 16777216 then Out.ok c μ1 else .bad) _ _ := q1
      rw [if_neg hl] at this
      exact this.elim
/-- such a tuple, read as data -/
def eUn (f : Ev) : Ev := fun ρ μ => (f ρ μ).bind fun w μ1 => match w with
  | .t xs => .ok (.d (.tuple xs)) μ1
  | _ => .bad
@[simp] theorem x_un {f : Ev} {ρ : Rho} {μ : Mu} : eUn f ρ μ = (f ρ μ).bind fun w μ1 => match w with
  | .t xs => .ok (.d (.tuple xs)) μ1
  | _ => .bad := rfl
theorem xUn {f : Ev} (h : SE X W e f) : SE X W e (eUn f) := by
  refine PE.imp h fun σ H Q ⟨ρ, μ, α, F, r, re, q⟩ => ?_
  refine ⟨ρ, μ, α, F, r, re, q.bind.mono fun w μ1 α1 F1 H1 x1 r1 q1 v rv => ?_⟩
  split at q1
  · obtain ⟨a, o, vs, rfl, h1, h2, h3, h4⟩ := rv
    exact q1.now r1 _ (.tup (.inl (.inr ⟨o, h1⟩)) h4)
  · exact q1.elim
def txts : List PyData → Option (List Str)
  | [] => some []
  | .str x :: r => (txts r).map (x :: ·)
  | _ => none
def ixO (z : Str) : List Str → Option Nat
  | [] => none
  | y :: r => if y = z then some 0 else (ixO z r).map (· + 1)
theorem ixO_ok {z : Str} : ∀ {ys : List Str} {j : Nat}, ixO z ys = some j → ys[j]? = some z ∧ ∀ m, m < j → ys[m]? ≠ some z
  | [], j, h => by cases h
  | y :: r, j, h => by
    unfold ixO at h
    by_cases e : y = z
    · rw [if_pos e] at h
      cases h
      exact ⟨by rw [e]; rfl, fun m hm => by omega⟩
    · rw [if_neg e] at h
      obtain ⟨i, hi, rfl⟩ := Option.map_eq_some_iff.mp h
      obtain ⟨h1, h2⟩ := ixO_ok hi
      refine ⟨by simpa using h1, fun m hm => ?_⟩
      cases m with
      | zero =>
        intro q
        exact e (by simpa using q)
      | succ m =>
        have := h2 m (by omega)
        simpa using this
theorem txts_ok {K : PySem.W.Frag} {F : Hp} : ∀ {xs : List PyData} {ys : List Str} {vs : List V}, txts xs = some ys → DqAll K F vs xs → vs = ys.map V.str
  | [], ys, vs, h, d => by
    cases h
    cases d
    rfl
  | .str x :: r, ys, vs, h, d => by
    unfold txts at h
    obtain ⟨zs, hz, rfl⟩ := Option.map_eq_some_iff.mp h
    cases d with
    | cons a b =>
      rw [dq_str a, txts_ok hz b]
      rfl
  | .none :: r, ys, vs, h, d => by cases h
  | .bool _ :: r, ys, vs, h, d => by cases h
  | .int _ :: r, ys, vs, h, d => by cases h
  | .list _ :: r, ys, vs, h, d => by cases h
  | .tuple _ :: r, ys, vs, h, d => by cases h
  | .dict _ :: r, ys, vs, h, d => by cases h
def gIdx (xs : List PyData) (u : Wv) (μ : Mu) : Out Wv := match u, txts xs with
  | .d (.str z), some ys => match ixO z ys with
    | some j => .ok (.d (.int (j : Int))) μ
    | none => .bad
  | _, _ => .bad
/-- o.index(e) -/
def eIdx (o a : Ev) : Ev := fun ρ μ => (o ρ μ).bind fun w μ1 => match w with
  | .t xs => (a ρ μ1).bind fun u μ2 => calm (gIdx xs u μ2)
  | _ => .bad
@[simp] theorem x_idx {o a : Ev} {ρ : Rho} {μ : Mu} : eIdx o a ρ μ = (o ρ μ).bind fun w μ1 => match w with
  | .t xs => (a ρ μ1).bind fun u μ2 => calm (gIdx xs u μ2)
  | _ => .bad := rfl
theorem xIdx {o : Expr} {apos cpos : Pos} {fo fe : Ev} (ho : SE X W o fo) (he : SE X W e fe)
    (hbase : attributeBase o "index" X.env (eval o X.env) = eval o X.env := by rfl)
    (hfew : ((backTo cpos (starEach [e] X.env)).all (fun x => !x.1) && (backToKw cpos (keywordEach [] X.env)).all (fun x => x.1.isSome) && decide ([e].length + ([] : List Keyword).length + (if ([] : List Keyword).isEmpty then 0 else 1) < 30)) = true := by rfl)
    (hline : (apos.endLine == cpos.line) = true := by rfl) (hs : starEach [e] X.env = (false, eval e X.env) :: starEach [] X.env := by rfl) (hplain : (backTo cpos (starEach [] X.env)).any (·.1) = false := by rfl) :
    SE X W (.Call (.Attribute o "index" apos) [e] [] cpos) (eIdx fo fe) := by
  refine ⟨fun pins s σ H Q I ⟨ρ, μ, α, F, r, re, q⟩ => ?_⟩
  refine wpAny_Call_method_late hbase hfew hline rfl (thn (ho.run pins s σ H (fun v H1 => ∃ a o vs xs μ1 α1 F1, v = .ref a ∧ F1 a = some (.frz o (.tup vs)) ∧ o.cls = .type "tuple" ∧ o.dict = none ∧ DqAll X.K F1 vs xs ∧ Rep X.K α1 F1 μ1 H1 ∧ RepE X.K α1 F1 ρ σ ∧ gp X.K X.mg α1 F1 H1 ((fe ρ μ1).bind fun u μ2 => calm (gIdx xs u μ2)) (Gw X.K Q) (fun c d H' => W c d σ H')) I ?_) fun v s1 ⟨y, H1, I1, ry, a, ob, vs, xs, μ1, α1, F1, ey, h1, h2, h3, h4, r1, re1, q1⟩ => ?_)
  · refine ⟨ρ, μ, α, F, r, re, q.bind.mono fun w μ1 α1 F1 H1 x1 r1 q1 v rv => ?_⟩
    split at q1
    · obtain ⟨a, o, vs, rfl, h1, h2, h3, h4⟩ := rv
      exact ⟨a, o, vs, _, μ1, α1, F1, rfl, h1, h2, h3, h4, r1, re.ext x1, q1⟩
    · exact q1.elim
  · subst ey
    cases ry
    obtain ⟨eg, _⟩ := I1.hok _ _ (r1.sub _ _ h1)
    refine ⟨"tuple", "tuple.index", PySem.F.plainAttrs_tuple, PySem.F.slot_tuple_index, PySem.F.type_tuple_index, ⟨ob, eg, h2⟩, fun b eb => by cases eb; exact ⟨ob, eg, h3⟩, ?_⟩
    have hA := (pa_cons he pa_nil hs).run cpos pins s1 σ H1 (fun us H2 => ∃ u, us = [u] ∧ ∃ μ2 α2 F2 w, Rep X.K α2 F2 μ2 H2 ∧ Ext α1 F1 H1 α2 F2 H2 ∧ Rw X.K α2 F2 u w ∧ gp X.K X.mg α2 F2 H2 (calm (gIdx xs w μ2)) (Gw X.K Q) (fun c d H' => W c d σ H')) I1 ⟨ρ, μ1, α1, F1, r1, re1, q1.bind.mono fun w μ2 α2 F2 H2 x2 r2 q2 v rv => ⟨v, rfl, μ2, α2, F2, w, r2, x2, rv, q2⟩⟩
    rw [hs] at hA ⊢
    refine Calls.callWith_builtin (by show (false || (backTo cpos (starEach [] X.env)).any (·.1)) = false; rw [hplain] <;> rfl) (Calls.evalArgs_plain ?_)
    refine thn hA fun us s2 ⟨vs2, H2, I2, r3, u, eu, μ2, α2, F2, w, r2, x2, rw_, q2⟩ => ?_
    subst eu
    have q3 := q2.calm (X' := fun _ _ _ => False)
    unfold gIdx at q3
    split at q3
    · rename_i z ys ez
      have e := dq_str rw_
      subst e
      split at q3
      · rename_i j ej
        have ev := txts_ok ez h4
        subst ev
        obtain ⟨k1, k2⟩ := ixO_ok ej
        exact mt_tup_index pins s2 σ H2 (.ref a) [.str z] (.ref a) us Q I2 rfl r3 ⟨a, ys, z, j, rfl, rfl, .inl (.inr ⟨ob, r2.sub _ _ (x2.fro _ _ h1)⟩), k1, k2, q3.now r2 _ (.int _)⟩
      · exact q3.elim
    · exact q3.elim
end
end TL
/-! TL18: a, b = x, y by the tuple that the display lays (names that comprehensions read, places of cells). -/
namespace TL
variable [TabN]
open PySem PySem.Spec L2 PyProof.Rows RZ
section
variable {X : Cx} {W : WX} {x : Str} {p pos : Pos} {e : Expr} {es : List Expr} {as : Av}
/-- the items one after another into the targets -/
def sAsgT (as : Av) (ts : List Gv) : Sv := fun ρ μ => liftO ρ (as ρ μ) fun ws μ1 => if ws.length ≤ 1000 ∧ ws.length = ts.length then (calm (gSeq ts ws ρ μ1)).bind fun ρ' μ2 => .ok (.nx ρ') μ2 else .bad
@[simp] theorem x_asgT {as : Av} {ts : List Gv} {ρ : Rho} {μ : Mu} : sAsgT as ts ρ μ = liftO ρ (as ρ μ) fun ws μ1 => if ws.length ≤ 1000 ∧ ws.length = ts.length then (calm (gSeq ts ws ρ μ1)).bind fun ρ' μ2 => .ok (.nx ρ') μ2 else .bad := rfl
theorem xAsgT {tes : List Expr} {k k2 : Nat} {tpos epos : Pos} {ts : List Gv} (ha : SA X W es as) (hc : X.calm = true) (h : SGs X tes ts) (hn : (assignEach tes X.env).length = ts.length := by rfl) (hst : (assignEach tes X.env).findIdx? (·.1) = none := by rfl)
    (hs : swapsWithSole [.Tuple tes k tpos] (.Tuple es k2 epos) pos.line X.env = pure false := by rfl) (hw : swappedStores [.Tuple tes k tpos] (.Tuple es k2 epos) X.env = pure none := by rfl)
    (h1 : (assignEach [.Tuple tes k tpos] X.env).map (·.2) = [assign (.Tuple tes k tpos) X.env] := by rfl) : SS X W (.Assign [.Tuple tes k tpos] (.Tuple es k2 epos) pos) (sAsgT as ts) := by
  refine (ps_asg (pe_tup ha) (pg_tup hc h hn hst) hs hw h1).imp fun D σ H ⟨ρ, μ, α, F, r, re, q⟩ => ?_
  refine ⟨ρ, μ, α, F, r, re, (gp_lift re q).mono fun ws μ1 α1 F1 H1 x1 r1 q1 vs rvs => ?_⟩
  have hlen : vs.length = ws.length := rvs.length
  split at q1
  · rename_i hl
    refine ⟨by rw [hlen, sizeLine_eq]; omega, fun p hp => ?_⟩
    obtain ⟨r2, x2⟩ := r1.side (o := .tup vs) hp
    refine ⟨p, vs, rfl, .inl (.inl upd_same), by rw [hlen, hl.2], ρ, μ1, α1, F1, ws, r2, (re.ext x1).ext x2, rvs.ext x2, ?_⟩
    have q2 := q1.keep x2
    exact q2.calm.mono fun ρ' μ2 α2 F2 H2 x3 r3 q3 σ' re' => q3.at (x2.trans x3) r3 σ' re'
  · exact q1.elim
end
end TL
/-! TL19: more of texts: find from a place, join, text * int. -/
namespace TL
variable [TabN]
open PySem PySem.Spec L2 PyProof.Rows RZ
section
variable {X : Cx} {W : WX} {x : Str} {p pos : Pos} {e : Expr} {es : List Expr} {as : Av}
def gMeth (g : Str → List Wv → Option PyData) (z : Str) (ws : List Wv) (μ : Mu) : Out Wv := match g z ws with
  | some x => .ok (.d x) μ
  | none => .bad
/-- o.m(e, ..), where o is known to be a text -/
def eStrM (g : Str → List Wv → Option PyData) (o : Ev) (as : Av) : Ev := fun ρ μ => (o ρ μ).bind fun w μ1 => match w with
  | .d (.str z) => (as ρ μ1).bind fun ws μ2 => calm (gMeth g z ws μ2)
  | _ => .bad
theorem se_strM {id : String} {name : Str} {g : Str → List Wv → Option PyData} {o : Expr} {apos cpos : Pos} {fo : Ev} {R : V → List V → Hp → VK → Prop} (pa : PlainAttrs "str") (slot : Slot "str" name id) (hty : typeOf (.builtin id) = pure (.type "method_descriptor"))
    (hm : MtR X id R) (hg : ∀ (α : List Addr) (F H : Hp) (μ : Mu) (z : Str) (ws : List Wv) (vs : List V) (x : PyData) (Q : VK), Rep X.K α F μ H → Rws X.K α F vs ws → g z ws = some x → (∀ v, Dq X.K F v x → Q v H) → R (.str z) vs H Q)
    (ho : SE X W o fo) (ha : SA X W (e :: es) as)
    (hbase : attributeBase o name X.env (eval o X.env) = eval o X.env := by rfl)
    (hfew : ((backTo cpos (starEach (e :: es) X.env)).all (fun x => !x.1) && (backToKw cpos (keywordEach [] X.env)).all (fun x => x.1.isSome) && decide ((e :: es).length + ([] : List Keyword).length + (if ([] : List Keyword).isEmpty then 0 else 1) < 30)) = true := by rfl)
    (hline : (apos.endLine == cpos.line) = true := by rfl) (hs : starEach (e :: es) X.env = (false, eval e X.env) :: starEach es X.env := by rfl) (hplain : (backTo cpos (starEach es X.env)).any (·.1) = false := by rfl) :
    SE X W (.Call (.Attribute o name apos) (e :: es) [] cpos) (eStrM g fo as) := by
  refine (pe_bm pa slot hty hm ho ha hbase hfew hline hs hplain).imp fun σ H Q ⟨ρ, μ, α, F, r, re, q⟩ => ?_
  refine ⟨ρ, μ, α, F, r, re, q.bind.mono fun w μ1 α1 F1 H1 x1 r1 q1 v rv => ?_⟩
  split at q1
  · rename_i z
    have ev := dq_str rv
    subst ev
    refine ⟨rfl, ρ, μ1, α1, F1, r1, re.ext x1, q1.bind.mono fun ws μ2 α2 F2 H2 x2 r2 q2 us rus => ?_⟩
    have q3 := q2.calm (X' := fun _ _ _ => False)
    unfold gMeth at q3
    split at q3
    · rename_i x hx
      exact hg _ _ _ _ _ _ _ _ _ r2 rus hx fun v dv => q3.now r2 _ dv
    · exact q3.elim
  · exact q1.elim
/-- o.find(b, i) -/
def findO (z : Str) (ws : List Wv) : Option PyData := match ws with
  | [.d (.str b), .d (.int i)] => some (.int (Txt.find3 z b i))
  | _ => none
/-- o.join(a list of texts) -/
noncomputable def joinO (z : Str) (ws : List Wv) : Option PyData := match ws with
  | [.d (.list ds)] => match txts ds with
    | some ys => if @decide ((ys.map (·.length)).sum + ys.length * z.length ≤ 16777216) (Classical.propDecidable _) = true then some (.str (Txt.join z ys)) else none
    | none => none
  | _ => none
section
variable {o : Expr} {apos cpos : Pos} {fo : Ev} (ho : SE X W o fo) (ha : SA X W (e :: es) as)
include ho ha
theorem xFind (hbase : attributeBase o "find" X.env (eval o X.env) = eval o X.env := by rfl)
    (hfew : ((backTo cpos (starEach (e :: es) X.env)).all (fun x => !x.1) && (backToKw cpos (keywordEach [] X.env)).all (fun x => x.1.isSome) && decide ((e :: es).length + ([] : List Keyword).length + (if ([] : List Keyword).isEmpty then 0 else 1) < 30)) = true := by rfl)
    (hline : (apos.endLine == cpos.line) = true := by rfl) (hs : starEach (e :: es) X.env = (false, eval e X.env) :: starEach es X.env := by rfl) (hplain : (backTo cpos (starEach es X.env)).any (·.1) = false := by rfl) :
    SE X W (.Call (.Attribute o "find" apos) (e :: es) [] cpos) (eStrM findO fo as) :=
  se_strM PySem.F.plainAttrs_str PySem.F.slot_str_find PySem.F.type_str_find mt_find3 (fun α F H μ z ws vs x Q r rv h q => by
    unfold findO at h
    split at h
    · rename_i b i
      cases h
      cases rv with
      | cons r1 rv =>
        cases rv with
        | cons r2 rv =>
          cases rv
          have e1 := dq_str r1
          subst e1
          cases r2
          exact ⟨z, b, i, rfl, rfl, q _ (.int _)⟩
    · cases h) ho ha hbase hfew hline hs hplain
theorem xJoin (hbase : attributeBase o "join" X.env (eval o X.env) = eval o X.env := by rfl)
    (hfew : ((backTo cpos (starEach (e :: es) X.env)).all (fun x => !x.1) && (backToKw cpos (keywordEach [] X.env)).all (fun x => x.1.isSome) && decide ((e :: es).length + ([] : List Keyword).length + (if ([] : List Keyword).isEmpty then 0 else 1) < 30)) = true := by rfl)
    (hline : (apos.endLine == cpos.line) = true := by rfl) (hs : starEach (e :: es) X.env = (false, eval e X.env) :: starEach es X.env := by rfl) (hplain : (backTo cpos (starEach es X.env)).any (·.1) = false := by rfl) :
    SE X W (.Call (.Attribute o "join" apos) (e :: es) [] cpos) (eStrM joinO fo as) :=
  se_strM PySem.F.plainAttrs_str PySem.F.slot_str_join PySem.F.type_str_join mt_join (fun α F H μ z ws vs x Q r rv h q => by
    unfold joinO at h
    split at h
    · rename_i ds
      cases rv with
      | cons r1 rv =>
        cases rv
        split at h
        · rename_i ys hy
          split at h
          · rename_i hl
            have hl := @of_decide_eq_true _ (Classical.propDecidable _) hl
            cases h
            cases r1 with
            | @lst a us _ hL hd =>
              have ev := txts_ok hy hd
              subst ev
              exact ⟨z, a, ys, rfl, rfl, .inl (sameL r.sub hL).sq, hl, q _ (.str _)⟩
          · cases h
        · cases h
    · cases h) ho ha hbase hfew hline hs hplain
end
/-! ### text * int -/
noncomputable def gTimesS (a b : Wv) (μ : Mu) : Out Wv :=
  match a, b with
  | .d (.str x), .d (.int k) => if @decide (x.length ≤ 1000 ∧ -1000 ≤ k ∧ k ≤ 10000) (Classical.propDecidable _) = true then .ok (.d (.str (Txt.mul x k))) μ else .bad
  | _, _ => gTimes a b μ
theorem op_gTimesS : OpR X (binaryOp .Mult) (r2G X.K X.mg gTimesS) := by
  intro pins s σ H x y v u Q I rx ry ⟨μ, α, Fz, w1, w2, r, h1, h2, q⟩
  unfold gTimesS at q
  split at q
  · rename_i z k
    split at q
    · rename_i hk
      have hk := @of_decide_eq_true _ (Classical.propDecidable _) hk
      have e1 := dq_str h1
      subst e1
      cases h2
      obtain ⟨t, rfl⟩ := rx
      obtain ⟨t', rfl⟩ := ry
      exact PySem.SB.mul (mulOk_of 1000 10000 hk.1 (by have := hk.2.2; omega) (by have := hk.2.1; omega) (by decide) (by decide)) fun t2 kk => ⟨.str (Txt.mul z k), H, I.tok kk, ⟨t2, rfl⟩, q.now r _ (.str _)⟩
    · exact q.elim
  · exact op_gTimes pins s σ H x y v u Q I rx ry ⟨μ, α, Fz, w1, w2, r, h1, h2, q⟩
end
end TL
/-! TL20: defs that keep their promise wherever they are called; errors raised; a lambda handed to a def that tells what it refuses. -/
namespace TL
variable [TabN]
open PySem PySem.Spec L2 PyProof.Rows RZ LamX
/-- a def at its place, its promise told of every call -/
structure HasF (P : Program) (w : World) (K : PySem.W.Frag) (mg : Str → Option Value) (base : Heap) (j : Nat) (x : Str) (st : Stmt) (ps : List Str) (n : Nat) (g : GF) (f : Addr) (fd : FuncData) : Prop where
  m : mg x = some (.ref f)
  F : Fun K x x st f fd
  b : Binds K fd ps []
  G : FnOk P w K mg base (L2.CX P w) j f fd ps (spG K mg n g)
theorem HasF.has {P : Program} {w : World} {K : PySem.W.Frag} {mg : Str → Option Value} {base : Heap} {j n : Nat} {x : Str} {st : Stmt} {ps : List Str} {g : GF} {f : Addr} {fd : FuncData} (h : HasF P w K mg base j x st ps n g f fd) : Has P w K mg base j x st ps n g f fd :=
  ⟨h.m, h.F, h.b, ⟨h.G.len, fun A outer s H args us vs Q E hr _ => h.G.run A outer s H args us vs Q E hr⟩⟩
/-- THE RULE for such a def -/
theorem fnf_sem {P : Program} {w : World} {K : PySem.W.Frag} {mg : Str → Option Value} {base : Heap} {k : Nat} {f : Addr} {x qual : Str} {st : Stmt} {fd : FuncData} {N ps : List Str} {b : Sv}
    (F : Fun K x qual st f fd) (S : FnScope N ps (defScope st))
    (body : ∀ (cdv : Value) (A : Around) (outer : List Env) (s : Shared) (H : Hp) (E : XK), Room k (A.deeper (envOfC qual (defScope st) s.heap.objs.size f cdv)) →
      SSs (cxOf (L2.CX P w) P w K mg base N qual (defScope st) f cdv A outer s H E) (fun cls d _ H => E cls d H) (defBody st) b) :
    FnOk P w K mg base (L2.CX P w) (k + 1) f fd ps (spG K mg ps.length (runD N.length b)) := by
  refine F.okX S (fun vs H Q E h => h.len) fun cdv A outer s H vs Q E hr h => ⟨_, body cdv A outer s H E hr, ?_⟩
  obtain ⟨ws, μ, α, F0, r, rv, q⟩ := h
  refine ⟨initR N.length ws, μ, α, F0, r, repE_start rv, ?_⟩
  unfold arity at q
  split at q
  · unfold runD at q
    show gp K mg α F0 H (b (initR N.length ws) μ) (GS K mg _ _) _
    cases z : b (initR N.length ws) μ with
    | bad =>
      rw [z] at q
      exact q
    | err x us μ' =>
      rw [z] at q
      exact q.elim
    | ok fl μ' =>
      rw [z] at q
      intro α' F' H' e r'
      cases fl with
      | rt w1 => exact fun v hv => gp_leave q r e r' hv
      | nx ρ' => exact fun σ' _ => gp_leave (w := .d .none) q r e r' .non
      | bk ρ' => exact q.elim
      | ct ρ' => exact q.elim
      | er y us ρ' =>
        intro σ' C d fs _ h1 h2 h2n h3
        have q : gp K mg α F0 H (match allD us with
          | some c => .err y (c.map Wv.d) (μ'.take μ.length)
          | none => .bad) (Gw K Q) E := q
        cases hc : allD us with
        | none =>
          rw [hc] at q
          exact q.elim
        | some c =>
          rw [hc] at q
          obtain ⟨r2, e2⟩ := r'.drop e r.len r.len0
          rw [allD_map hc] at h3
          exact q α F' H' C d fs e2 r2 h1 h2 h2n h3.data
  · exact q.elim
section
variable {X : Cx} {W : WX} {x y : Str} {p pos : Pos} {e : Expr} {es : List Expr} {as : Av} {j k n : Nat} {st : Stmt} {ps : List Str} {g : GF} {f : Addr} {fd : FuncData}
theorem xCallF (h : HasF X.prog X.w X.K X.mg X.base j x st ps n g f fd) (hj : j ≤ k) (hr : Room k X.A) (tk : Takes X W) (gl : Gl X x) (ha : SA X W (e :: es) as)
    (hdb : (x == ("__debug__" : Str)) = false := by decide) (he : starEach (e :: es) X.env = (false, eval e X.env) :: starEach es X.env := by rfl) (hpl : (backTo pos (starEach es X.env)).any (·.1) = false := by rfl) :
    SE X W (.Call (.Name x p) (e :: es) [] pos) (cF n g as) := by
  refine (pe_callS (E := WE W) (h.G.mono hj) hr gl h.m h.F.kp h.b (fun σ => passAt tk σ) ha hdb he hpl).imp fun σ H Q ⟨ρ, μ, α, F, r, re, q⟩ => ?_
  refine ⟨ρ, μ, α, F, r, re, q.bind.mono fun ws μ1 α1 F1 H1 x1 r1 q1 vs rv => ?_⟩
  exact ⟨ws, μ1, α1, F1, r1, rv, q1⟩
/-! ### raise x(e) -/
def sRaise (x : Str) (as : Av) : Sv := fun ρ μ => liftO ρ (as ρ μ) fun ws μ1 => match ws with
  | [w] => .ok (.er x [w] ρ) μ1
  | _ => .bad
theorem ss_raise {fl : Str} {C : Addr} {a c : Expr} {fa : Ev} (hc : X.calm = true) (tk : Takes X W)
    (hmk : ∀ ta, PA X [a] ta → PMk X c (fun σ H Q => ta σ H fun vs H1 => ∃ v, vs = [v] ∧ ∀ d, H1 d = none → Q (.ref C) (some d) (upd H1 d (.xd [(fl, v)])))) (hm : X.mg x = some (.ref C)) (hf : TabN.F x = [fl]) (ha : SE X W a fa)
    (hs : starEach (a :: []) X.env = (false, eval a X.env) :: starEach [] X.env := by rfl) : SS X W (.Raise (some c) none pos) (sRaise x (aCons fa aNil)) := by
  refine (ps_raise hc tk (hmk _ (sa_cons ha sa_nil hs))).imp fun D σ H ⟨ρ, μ, α, F, r, re, q⟩ => ?_
  refine ⟨ρ, μ, α, F, r, re, (gp_lift re q).mono fun ws μ1 α1 F1 H1 x1 r1 q1 vs rvs => ?_⟩
  split at q1
  · rename_i w
    cases rvs with
    | cons rv t =>
      cases t
      rename_i v
      refine ⟨v, rfl, fun d hd => ?_⟩
      obtain ⟨r2, x2⟩ := r1.side (o := .xd [(fl, v)]) hd
      exact q1.at x2 r2 σ C d [(fl, v)] ((re.ext x1).ext x2) hm upd_same hf.symm (.cons (rv.ext x2) .nil)
  · exact q1.elim
/-! ### the store behind the making of a lambda -/
theorem Lie.noCode {K : PySem.W.Frag} {α : List Addr} {F H : Hp} {k : Nat} {a : Addr} {c : Cell} {u : HO} (h : Lie K α F H k a c) (e : H a = some u) : ¬ ∃ b q, u = CodeO b q := by
  rintro ⟨b, q, rfl⟩
  unfold Lie at h
  cases hq : (TabN.O[k]?).getD .lst with
  | ins C fs =>
    rw [hq] at h
    obtain ⟨dx, gs, h1, _⟩ := h
    rw [e] at h1
    unfold CodeO at h1
    cases h1
  | dic =>
    rw [hq] at h
    obtain ⟨kvs, h1, _⟩ := h
    rw [e] at h1
    unfold CodeO at h1
    cases h1
  | lst =>
    rw [hq] at h
    obtain ⟨vs, h1, _⟩ := h
    rw [e] at h1
    unfold CodeO at h1
    cases h1
theorem Rep.grow {K : PySem.W.Frag} {α : List Addr} {F H H1 : Hp} {μ : Mu} (r : Rep K α F μ H) (hT : TabN.T ≠ []) (e : ExtN H H1) (t : Tabs TabN.T H1) :
    ∃ F1, Rep K α F1 μ H1 ∧ Ext α F H α F1 H1 := by
  have n1 := r.tab.out hT
  classical
  have st : ∀ b o, F b = some o → H1 b = some o := fun b o h => e b o (r.sub b o h) fun ps z => by
    rw [z] at h
    exact n1 b ps h
  refine ⟨fun b => if (∃ c q, H1 b = some (CodeO c q)) then H1 b else F b, ?_, ?_⟩
  · refine ⟨r.len, fun b o h => ?_, r.len0, fun k c h => ?_, r.inj, fun a m => ?_, ⟨fun p hp => ?_, fun _ b ps h => ?_⟩⟩
    · by_cases z : ∃ c q, H1 b = some (CodeO c q)
      · rw [if_pos z] at h
        exact h
      · rw [if_neg z] at h
        exact st b o h
    · obtain ⟨a, h1, h3, h4⟩ := r.cell k c h
      obtain ⟨u, h2, nt⟩ := h4.obj
      have h5 : H1 a = some u := e a _ h2 nt
      have z : ¬ ∃ c q, H1 a = some (CodeO c q) := fun ⟨c, q, z⟩ => h4.noCode h2 (by rw [h5] at z; exact ⟨c, q, Option.some.inj z⟩)
      refine ⟨a, h1, by rw [if_neg z]; exact h3, h4.mono (fun v hv => by rw [h2] at hv; cases hv; exact h5) (fun b o h => ?_) fun _ _ _ z => z⟩
      by_cases z : ∃ c q, H1 b = some (CodeO c q)
      · show (if _ then _ else _) = _
        rw [if_pos z]
        exact st b o h
      · show (if _ then _ else _) = _
        rw [if_neg z]
        exact h
    · exact fun z => r.had a m fun o h => Classical.byContradiction fun nt => (z.no (e a o h fun ps q => nt ⟨ps, q⟩) fun ps q => nt ⟨ps, q⟩)
    · obtain ⟨ps, h1, h2, h3⟩ := t p hp
      refine ⟨ps, h1, h2, fun pos cv h => ?_⟩
      obtain ⟨c, h4, h5⟩ := h3 pos cv h
      refine ⟨c, h4, ?_⟩
      show (if _ then _ else _) = _
      rw [if_pos ⟨_, _, h5⟩]
      exact h5
    · by_cases z : ∃ c q, H1 b = some (CodeO c q)
      · have h : (if (∃ c q, H1 b = some (CodeO c q)) then H1 b else F b) = some (.tbl ps) := h
        rw [if_pos z] at h
        obtain ⟨c, q, z⟩ := z
        rw [z] at h
        unfold CodeO at h
        cases h
      · have h : (if (∃ c q, H1 b = some (CodeO c q)) then H1 b else F b) = some (.tbl ps) := h
        rw [if_neg z] at h
        exact n1 b ps h
  · refine ⟨⟨[], by simp⟩, fun b o h => ?_, fun a o h _ nt => e a o h nt, fun a h => ?_, fun a u ha c h => ?_, fun a h => .inl h⟩
    · by_cases z : ∃ c q, H1 b = some (CodeO c q)
      · show (if _ then _ else _) = _
        rw [if_pos z]
        exact st b o h
      · show (if _ then _ else _) = _
        rw [if_neg z]
        exact h
    · exact fun o z => Classical.byContradiction fun nt => (h.no (e a o z fun ps q => nt ⟨ps, q⟩) fun ps q => nt ⟨ps, q⟩)
    · have h5 : H1 a = some u := e a _ ha c.nt
      have z : ¬ ∃ c q, H1 a = some (CodeO c q) := fun ⟨b, q, z⟩ => by
        rw [h5] at z
        cases c <;> (unfold CodeO at z; cases z)
      have h : (if (∃ c q, H1 a = some (CodeO c q)) then H1 a else F a) ≠ none := h
      rw [if_neg z] at h
      exact .inl h
end
end TL
/-! TL21: a lambda handed to a def that tells what it refuses. -/
namespace TL
variable [TabN]
open PySem PySem.Spec L2 PyProof.Rows RZ LamX
/-- what such a def makes of the lambda: [] if it is let, the error's field in a list if it raises an error of the class at C -/
def TTspot (C : Addr) (fl : Str) : (XK → Hp → VK → Prop) → Hp → VK → Prop := fun tl H Q =>
  tl (fun cls d H' => cls = .ref C ∧ ∃ (dd : Addr) (v : V), d = some dd ∧ H' dd = some (.xd [(fl, v)]) ∧ ∀ p, H' p = none → Q (.ref p) (upd H' p (.lst [v]))) H (fun _ H' => ([] : List V).length ≤ sizeLine ∧ ∀ p, H' p = none → Q (.ref p) (upd H' p (.lst [])))
def fieldOf (ws : List Wv) (μ : Mu) : Out Wv := match ws with
  | [.d u] => .ok (.d (.list [u])) μ
  | _ => .bad
/-- told(lambda: b) -/
def eSpot (y : Str) (fb : Ev) : Ev := fun ρ μ => match fb ρ μ with
  | .ok _ μ' => .ok (.d (.list [])) μ'
  | .err z ws μ' => if z = y then fieldOf ws μ' else .bad
  | .bad => .bad
theorem spot_read {K : PySem.W.Frag} {mg : Str → Option Value} {W : WX} {y fl : Str} {C : Addr} {fb : Ev} {σ : L2.St} {H : Hp} {Q : VK} (hm : mg y = some (.ref C)) (hf : TabN.F y = [fl]) (hT : TabN.T ≠ []) (h : tE K mg W (eSpot y fb) σ H Q) :
    tLam TabN.T (TTspot C fl) (fun E => tE K mg (fun cls d _ H => E cls d H) fb) σ H Q := by
  obtain ⟨ρ, μ, α, F, r, re, q⟩ := h
  refine ⟨fun p hp => ?_, fun H1 eN t => ?_⟩
  · obtain ⟨ps, h1, h2, h3⟩ := r.tab.tab p hp
    refine ⟨ps, h1, h2, fun pos cv hc => ?_⟩
    obtain ⟨c, e1, e2⟩ := h3 pos cv hc
    exact ⟨c, e1, r.sub _ _ e2⟩
  · obtain ⟨F1, r1, x1⟩ := r.grow hT eN t
    refine ⟨ρ, μ, α, F1, r1, re.ext x1, ?_⟩
    unfold eSpot at q
    cases z : fb ρ μ with
    | bad =>
      rw [z] at q
      exact q.elim
    | ok w μ' =>
      rw [z] at q
      intro α' F' H' e r' v rv
      refine ⟨by show 0 ≤ sizeLine; exact Nat.zero_le _, fun p hp => ?_⟩
      obtain ⟨r2, x2⟩ := r'.new (o := .lst []) hp
      exact q.at ((x1.trans e).trans x2) r2 _ (.lst (.of upd_same) .nil)
    | err s ws μ' =>
      rw [z] at q
      intro α' F' H' C' d fs e r' h1 h2 h3 h4
      have q9 : gp K mg α F H (if s = y then fieldOf ws μ' else .bad) (Gw K Q) (fun c d H' => W c d σ H') := q
      clear q z
      by_cases hs : s = y
      · rw [if_pos hs] at q9
        subst hs
        rw [hm] at h1
        cases h1
        rw [hf] at h3
        unfold fieldOf at q9
        split at q9
        · rename_i u
          match fs, h3, h4, h2 with
          | [(g, v)], h3, h4, h2 =>
            have e3 : g = fl := (List.cons.inj h3).1
            subst e3
            cases h4 with
            | cons h5 h6 =>
              have h5 : Dq K F' v u := h5
              refine ⟨rfl, d, v, rfl, h2, fun p hp => ?_⟩
              obtain ⟨r2, x2⟩ := r'.new (o := .lst [v]) hp
              exact gp.at q9 ((x1.trans e).trans x2) r2 _ (.lst (.of upd_same) (.cons (h5.mono x2.fro) .nil))
        · exact (show False from q9).elim
      · rw [if_neg hs] at q9
        exact (show False from q9).elim
theorem takes_len {X : Cx} {W : WX} {n : Nat} (tk : Takes X W) (hn : X.N.length = n := by rfl) : Takes X (fun cls d σ H => σ.length = n → W cls d σ H) := fun u s x => by
  obtain ⟨a, B, sI, pins, σ, H, cls, d, e, I, nb, up, sky, na, os, ag, h⟩ := x
  exact tk u s ⟨a, B, sI, pins, σ, H, cls, d, e, I, nb, up, sky, na, os, ag, h (I.len.trans hn)⟩
theorem one_le : 1 ≤ sizeLine := by decide
/-- an error of the class at S is what «except S» names -/
theorem exm_self {K : PySem.W.Frag} {S : Addr} (h1 : PySem.W.subIn K (.ref S) (.type "BaseException") = some true) (h2 : PySem.W.isClsIn K S = true) (h3 : PySem.W.typeIn K (.ref S) = some (.type "type")) (h4 : PySem.W.subIn K (.ref S) (.ref S) = some true) :
    PySem.W.exmOne K (.ref S) (.ref S) = some true := by
  have e1 : (PySem.W.subIn K (.ref S) (.type "BaseException") == some true) = true := by rw [h1] <;> rfl
  have e2 : ((PySem.W.clsIn K S).isSome && PySem.W.typeIn K (.ref S) == some (.type "type")) = true := by
    have h2' : (PySem.W.clsIn K S).isSome = true := h2
    rw [h2', h3] <;> rfl
  show (if (PySem.W.subIn K (.ref S) (.type "BaseException") == some true) = true then (if ((PySem.W.clsIn K S).isSome && PySem.W.typeIn K (.ref S) == some (.type "type")) = true then PySem.W.subIn K (.ref S) (.ref S) else none) else none) = some true
  rw [if_pos e1, if_pos e2]
  exact h4
/-- the def that is handed the lambda: its place -/
structure Told (K : PySem.W.Frag) (mg : Str → Option Value) (x a : Str) (st : Stmt) (g : Addr) (gd : FuncData) : Prop where
  m : mg x = some (.ref g)
  F : Fun K x x st g gd
  b : Binds K gd [a] []
section
variable {X : Cx} {W : WX} {x y a fl : Str} {p lpos pos : Pos} {C g c P : Addr} {gd : FuncData} {st : Stmt} {k : Nat} {params : Arguments} {body : Expr} {scope : Scope} {fb : Ev} {Ng : List Str}
theorem xSpot (T : Told X.K X.mg x a st g gd) (hy : X.mg y = some (.ref C)) (hf : TabN.F y = [fl]) (Sg : FnScope Ng [a] (defScope st)) (hNg : Ng[0]? = some a) (hva : Vis (defScope st) a)
    (hG : ∀ cdv q, GivesTo X Ng x (defScope st) g cdv (defBody st) a q (TTspot C fl))
    (TB : TabB X.base X.mg c P) (hcode : X.env.code = .ref c) (hmT : (P, X.env.qual ++ "<lambda>") ∈ TabN.T) (hu : ∀ p ∈ TabN.T, p.1 = P → p.2 = X.env.qual ++ "<lambda>") (hr : Room (k + 2) X.A) (hg : Gl X x) (L : lamSB X.env.scope scope = true)
    (hbody : ∀ (A : Around) (outer : List Env) (s : Shared) (H : Hp) (E : XK) (f c' : Addr), Room k (A.deeper (lamEnv X scope s.heap.objs.size f c')) → SE (lamCx X A outer s H E scope f c') (fun cls d _ H => E cls d H) body fb)
    (hdef : defaultsOf params X.env = ([], []) := by rfl)
    (hbind : ∀ (q : Str) (cl : List (Str × Addr)) (pm cv ctv : Value), bindArgs (PySem.W.kla_fn "<lambda>" q params body scope cl pm cv ctv) ⟨[], []⟩ = pure [] := by intro _ _ _ _ _; rfl)
    (hdb : (x == ("__debug__" : Str)) = false := by decide) (hd : (a == ("__debug__" : Str)) = false := by decide) (hcd : (a == ("__classdict__" : Str)) = false := by decide) :
    SE X W (.Call (.Name x p) [.Lambda params body scope lpos] [] pos) (eSpot y fb) := by
  obtain ⟨oc, od, kV, doc, pm, an, cdv, ct, osl, egd, lk, cd⟩ := T.F.ex
  have hb := T.b
  have hk := T.F.kp
  have hm := T.m
  rw [egd] at lk hb
  refine (pe_lamcall (T := TabN.T) (TT := TTspot C fl) (t := fun E => tE X.K X.mg (fun cls d _ H => E cls d H) fb) hg hm hk lk cd hb Sg hNg hva (hG cdv _) TB hcode hmT hu hr (lamS_by L) hdef hbind hbody hdb hd hcd).imp fun σ H Q h => ?_
  exact spot_read hy hf (fun e => by rw [e] at hmT; cases hmT) h
end
end TL
/-! TL22: the head of a law that makes lambdas in one def. -/
namespace TL
open PySem PySem.Spec L2 PyProof.Rows RZ LamX
section
variable {P : Program} {w : World} {K : PySem.W.Frag} {mg mb : Str → Option Value} {k : Nat} {fa a c D : Addr} {fd : FuncData} {x q : Str} {g : GF} {s₁ : Shared} {vs : List Value} {ns : List Int}
theorem head_callT [TabN] (hT : TabN.T = [(D, q)]) (hO : TabN.O = []) (inK : K.In s₁.heap) (gl : s₁.heap.Ns mainGlobals mg) (bl : s₁.heap.Ns builtinsNs mb) (bb : ∀ y : Str, y ≠ "__name__" → mb y = bootBuiltins y) (nl : s₁.heap.NoLimit) (ng : s₁.gens = #[])
    (tD : s₁.heap.get? D = some { cls := .none, data := .fields #[] }) (nD : K.lookup D = none) (cD : PySem.W.CodeHd s₁.heap c D)
    (hbm : ∃ (bm : Addr) (ob : Obj), mg "__builtins__" = some (.ref bm) ∧ bm ≠ builtinsNs ∧ s₁.heap.get? bm = some ob ∧ ob.cls = .type "module" ∧ ob.dict = some builtinsNs ∧ ob.data = .plain)
    (ob : s₁.heap.get? a = some { cls := .type "list", data := .seq vs.toArray }) (isI : IntsAre vs ns) (len : ns.length ≤ sizeLine) (room : Room k callerA)
    (F : ∀ base : Heap, K.In base → base.Ns mainGlobals mg → TabB base mg c D → FnG P w K mg base k fa fd [x] (spG K mg 1 g)) (bind : ∀ (s : Shared) (u : Value), BindsTo s fd ⟨[u], []⟩ [(x, u)])
    (sem : arity 1 g [.d (.list (ns.map PyData.int))] [] = .ok (.d (.bool true)) []) :
    codeAny (model P w) callerA (.call (.ref fa) ⟨[.ref a], []⟩) (fun r s' => r = .ok (.ret (.bool true)) ∧ OldK s₁.heap s'.heap ∧ s'.os = s₁.os ∧ AllBare s'.gens) s₁ := by
  have rel := vals_ints isI
  have cnt := isI.length
  have aD : a ≠ D := fun e => by
    rw [e, tD] at ob
    have z : Data.fields #[] = Data.seq vs.toArray _ := congrArg Obj.data (Option.some.inj ob)
    cases z
  have go : ∀ H : Hp, (∀ b, H b ≠ none → b = a ∨ b = D) → (H a ≠ none → K.lookup a = none) → H D = some (.tbl #[]) → HOk P w H s₁.heap → (∀ b, b ≠ D → H b = none ∨ ∃ o xs, H b = some (.frz o (.lst xs))) → Ls K (fun b => if b = D then none else H b) a (ns.map V.int) →
      codeAny (model P w) callerA (.call (.ref fa) ⟨[.ref a], []⟩) (fun r s' => r = .ok (.ret (.bool true)) ∧ OldK s₁.heap s'.heap ∧ s'.os = s₁.os ∧ AllBare s'.gens) s₁ := by
    intro H alone apart hD hk only lies
    have far : ∀ {b : Addr} {o : Obj}, s₁.heap.get? b = some o → b ≠ a → b ≠ D → (hidT s₁.heap H).get? b = some o := fun {b o} got ne ne2 => hidT_get got (Classical.byContradiction fun z => (alone b z).elim ne ne2)
    have space : ∀ {b : Addr} {m : Str → Option Value}, s₁.heap.Ns b m → (hidT s₁.heap H).Ns b m := by
      rintro b m ⟨o, es, ep, got, dat, rest⟩
      refine ⟨o, es, ep, far got (fun eq => ?_) (fun eq => ?_), dat, rest⟩
      · rw [eq, ob] at got
        cases got
        exact nomatch dat
      · rw [eq, tD] at got
        cases got
        exact nomatch dat
    have known : K.In (hidT s₁.heap H) := by
      intro b o kb
      by_cases eq : b = a
      · subst eq
        refine hidT_get (inK _ o kb) (Classical.byContradiction fun z => ?_)
        rw [apart z] at kb
        exact nomatch kb
      · refine far (inK b o kb) eq fun e2 => ?_
        rw [e2, nD] at kb
        cases kb
    have lim : (hidT s₁.heap H).NoLimit := by
      obtain ⟨mc, l1, l2⟩ := nl
      exact ⟨mc, space l1, l2⟩
    have md : Mod K mg (hidT s₁.heap H) := ⟨known, space gl, ⟨mb, space bl, bb⟩, lim⟩
    have tb : TabB (hidT s₁.heap H) mg c D := by
      refine ⟨?_, ?_, fun z => ?_⟩
      · obtain ⟨o, us, file, tf, flags, tg, inF, text, tt, e1, r1, r2, r3, r4, r5, r6, r7, r8, hne⟩ := cD
        refine ⟨o, us, file, tf, flags, tg, inF, text, tt, far e1 (fun e => ?_) hne, r1, r2, r3, r4, r5, r6, r7, r8, hne⟩
        rw [e, ob] at e1
        cases e1
        cases r2
      · obtain ⟨bm, om, b1, b2, b3, b4, b5, b6⟩ := hbm
        have n1 : bm ≠ a := fun e => by
          rw [e, ob] at b3
          cases b3
          cases b6
        have n2 : bm ≠ D := fun e => by
          rw [e, tD] at b3
          cases b3
          cases b6
        have n3 : bm ≠ mainGlobals := fun e => by
          obtain ⟨o, es, ep, e1, hd, _⟩ := gl
          rw [e, e1] at b3
          cases b3
          rw [hd] at b6
          cases b6
        exact ⟨bm, om, b1, b2, n3, n2, far b3 n1 n2, b4, b5, b6⟩
      · obtain ⟨o, es, ep, e, hd, _⟩ := gl
        rw [z, tD] at e
        cases e
        cases hd
    have en0 : Env0 P w K mg (hidT s₁.heap H) callerA [] s₁ H :=
      ⟨rfl, md, fun b o z => of_hidT z, Nat.le_of_eq (hidT_size _ _), trivial, fun b z => (nomatch (show b ∈ ([] : List Addr) from z)), hk, .of_eq ng⟩
    have data : Dq K (fun b => if b = D then none else H b) (.ref a) (.list (ns.map PyData.int)) := .lst lies (DqAll.ofInts ns)
    have want : spG K mg 1 g [.ref a] H (fun v _ => v = .bl true) (fun _ _ _ => False) := by
      refine ⟨[.d (.list (ns.map PyData.int))], [], [], fun b => if b = D then none else H b, ⟨rfl, fun b o z => ?_, by rw [hO]; exact Nat.le_refl _, fun i c z => ?_, fun i j b c c' z => ?_, fun b z => (nomatch z), ⟨fun p hp => ?_, fun _ b ps z => ?_⟩⟩, .cons data .nil, ?_⟩
      · have z : (if b = D then none else H b) = some o := z
        split at z
        · cases z
        · exact z
      · simp at z
      · simp at z
      · rw [hT] at hp
        rcases List.mem_singleton.mp hp with rfl
        refine ⟨#[], hD, True.intro, fun pos cv hc => ?_⟩
        have z : codeAmong pos [] = some cv := hc
        simp [codeAmong] at z
      · have z : (if b = D then none else H b) = some (.tbl ps) := z
        split at z
        · cases z
        · rename_i ne
          rcases only b ne with y | ⟨o, xs, y⟩
          · rw [y] at z; cases z
          · rw [y] at z; cases z
      · rw [sem]
        intro α' F' H' _ _ v rv
        have rv : Dq K F' v (.bool true) := rv
        cases rv
        rfl
    refine codeAny_mono ((F _ known (space gl) tb).run callerA [] s₁ H ⟨[.ref a], []⟩ [.ref a] [.ref a] _ _ room rfl en0 (bind s₁ (.ref a)) (.cons rfl .nil) want) fun r s' got => ?_
    rcases r with er | fl
    · obtain ⟨_, _, _, _, _, _, _, _, _, _, _, _, z⟩ := got
      exact z.elim
    · cases fl with
      | ret u =>
        obtain ⟨v, H', os, bare, un, hk', ru, rfl⟩ := got
        cases (show u = Value.bool true from ru)
        have key : ∀ b o, b ≠ D → s₁.heap.get? b = some o → s'.heap.get? b = some o := fun b o nb z => by
          rcases only b nb with n | ⟨o', xs, fz⟩
          · exact un.keep b o z n (fun y => nomatch (show b ∈ ([] : List Addr) from y)) (by simp)
          · have fz' := un.frzs b o' _ fz
            have g1 := (hk b _ fz).1
            have g2 := (hk' b _ fz').1
            rw [g1] at z
            cases z
            exact g2
        obtain ⟨more, hm⟩ : ∃ more : Array Value, s'.heap.get? D = some { cls := .none, data := .fields more } := by
          obtain ⟨more, z⟩ := un.tbls D #[] hD
          exact ⟨_, hk' D _ z⟩
        refine ⟨rfl, ⟨fun b o z => ?_, fun b o z => ?_⟩, os, bare⟩
        · by_cases hb : b = D
          · rw [hb] at z ⊢
            rw [tD] at z
            cases z
            exact .inr (.inl ⟨(cD.tab tD).isCodeTable, rfl, #[], more, rfl, by rw [Array.empty_append]; exact hm⟩)
          · exact .inl (key b o hb z)
        · by_cases hb : b = D
          · rw [hb]
            exact ⟨_, hm⟩
          · exact ⟨o, key b o hb z⟩
      | _ => exact False.elim got
  cases lk : K.lookup a with
  | some o =>
    have got := inK a o lk
    rw [ob] at got
    cases got
    refine go (fun b => if b = D then some (.tbl #[]) else none) (fun b z => ?_) (fun z => ?_) (if_pos rfl) (fun b u z => ?_) (fun b hb => .inl (if_neg hb)) (.inr ⟨vs, _, lk, by rw [List.length_map]; exact len, rel⟩)
    · by_cases hb : b = D
      · exact .inr hb
      · exact absurd (if_neg hb) z
    · exact absurd (if_neg aD) z
    · have z : (if b = D then some (HO.tbl #[]) else none) = some u := z
      split at z
      · rename_i hb
        cases z
        rw [hb]
        exact tD
      · cases z
  | none =>
    refine go (fun b => if b = a then some (.frz { cls := .type "list", data := .seq vs.toArray } (.lst (ns.map V.int))) else if b = D then some (.tbl #[]) else none) (fun b z => ?_) (fun _ => lk) ((if_neg (Ne.symm aD)).trans (if_pos rfl)) (fun b u z => ?_) (fun b hb => ?_) (.inl (.inr ⟨{ cls := .type "list", data := .seq vs.toArray }, ?_⟩))
    · by_cases ha : b = a
      · exact .inl ha
      · by_cases hb : b = D
        · exact .inr hb
        · exact absurd ((if_neg ha).trans (if_neg hb)) z
    · have z : (if b = a then some (HO.frz { cls := .type "list", data := .seq vs.toArray } (.lst (ns.map V.int))) else if b = D then some (.tbl #[]) else none) = some u := z
      split at z
      · rename_i hb
        cases z
        rw [hb]
        exact ⟨ob, by rw [List.length_map]; exact len, vs, _, rel, ob⟩
      · split at z
        · rename_i hb
          cases z
          rw [hb]
          exact tD
        · cases z
    · by_cases ha : b = a
      · exact .inr ⟨_, _, if_pos ha⟩
      · exact .inl ((if_neg ha).trans (if_neg hb))
    · show (if a = D then none else if a = a then _ else _) = _
      rw [if_neg aD, if_pos rfl]
/-- what is left of such a law behind k_head -/
theorem walk_GT {l : PySem.W.OpenLaw} {n k : Nat} {pr : Program} {loose : List Str} {XP : (Str → Option Value) → Heap → Prop} {YP : World → Heap → Prop} {d : DefRec} {K : Params → PySem.W.Frag} {x nm q : Str} {Fl : Str → List Str} {g : TabN → GF}
    (hn : l.most = some n) (hn2 : n ≤ sizeLine) (hdf : d.params.defaults = []) (room : Room k callerA) (hrec : ((recsOf pr).any fun e => e.name == nm) = true) (hY : ∀ (w : World) (h : Heap), YP w h → (K w.params).In h)
    (F : ∀ (w : World) (mg : Str → Option Value) (fa : Addr) (h : Heap), (K w.params).In h → h.Ns mainGlobals mg → mg d.name = some (.ref fa) →
      ∃ (fD c D : Addr) (oD : Obj) (fdD : FuncData) (e : Value) (dd : Option Addr) (us : Array Value) (sl : Array (Option Value)), mg nm = some (.ref fD) ∧ (K w.params).lookup fD = some oD ∧ oD.data = .func fdD ∧ fdD.code = .ref c ∧ (K w.params).lookup c = some ⟨e, dd, .fields us, sl⟩ ∧ us[11]? = some (.ref D) ∧ (K w.params).lookup D = none ∧
      ∀ T : TabN, T.T = [(D, q)] → T.F = Fl → T.O = [] → ∃ fd : FuncData, (∀ (s : Shared) (u : Value), BindsTo s fd ⟨[u], []⟩ [(x, u)]) ∧ ∀ base : Heap, (K w.params).In base → base.Ns mainGlobals mg → TabB base mg c D → FnG l.prog w (K w.params) mg base k fa fd [x] (spG (K w.params) mg 1 (g T)))
    (sem : ∀ T : TabN, ∀ ns : List Int, ns.length ≤ n → (∀ z ∈ ns, Builtin.Int.intBits z ≤ 1048576) → arity 1 (g T) [.d (.list (ns.map PyData.int))] [] = .ok (.d (.bool true)) []) :
    PySem.W.WalkO pr loose XP YP l.row.toRowW d [] (fun f vs => PySem.call f vs) := by
  refine Att.attach_callB hn hdf fun w s₀ s₁ mg mb fa o pm cd doc a vs ns G Y _ _ _ named obj isI many bits gens => ?_
  have inK := hY w _ Y
  obtain ⟨fD, c, D, oD, fdD, e, dd, us, sl, h1, h2, h3, h4, h5, h6, h7, h8⟩ := F w mg fa _ inK G.T.g named
  letI T : TabN := ⟨[(D, q)], Fl, []⟩
  obtain ⟨fd, bind, prom⟩ := h8 T rfl rfl rfl
  obtain ⟨dL, hm, hn1⟩ := List.any_eq_true.mp hrec
  have hn2' : dL.name = nm := beq_iff_eq.mp hn1
  obtain ⟨a', o', fd', c', D', k1, k2, k3, k4, k5, k6⟩ := G.T.tab dL hm
  rw [hn2', h1] at k1
  cases k1
  have g1 := inK _ _ h2
  rw [g1] at k2
  cases k2
  rw [h3] at k3
  cases k3
  rw [h4] at k4
  cases k4
  have cd2 := PySem.W.CodeHd.of k5 k6
  obtain ⟨⟨oc, vc, e1, _, e3, e4⟩, hP⟩ := k6
  have g2 := inK _ _ h5
  rw [g2] at e1
  cases e1
  cases e3
  rw [h6] at e4
  cases e4
  exact head_callT (D := D) (c := c) (q := q) rfl rfl inK G.T.g G.T.b G.T.builtins G.T.nolimit gens hP h7 cd2 G.T.bmain obj isI (Nat.le_trans many hn2) room prom bind (sem T ns many bits)
end
end TL
/-! TL23: objects: fields read and written, methods called, dicts of texts. -/
namespace TL
variable [TabN]
open PySem PySem.Spec L2 PyProof.Rows RZ
theorem putF_len {f : Str} {v : V} : ∀ {gs : List (Str × V)}, gs.lookup f ≠ none → (putF f v gs).length = gs.length
  | [], h => absurd rfl h
  | (g, x) :: r, h => by
    unfold putF
    by_cases e : g = f
    · rw [if_pos e]
      rfl
    · rw [if_neg e, List.length_cons, List.length_cons, putF_len (gs := r)]
      have hb : (f == g) = false := beq_eq_false_iff_ne.mpr (Ne.symm e)
      simpa only [List.lookup, hb] using h
section
variable {K : PySem.W.Frag} {α α' : List Addr} {F F' H H' : Hp} {μ μ' : Mu}
/-- the object at the cell k -/
theorem Rep.ocell {k : Nat} {c : Cell} {C : Addr} {fs : List (Str × Option Nat)} (r : Rep K α F μ H) (hO : TabN.O[k]? = some (.ins C fs)) (h : μ[k]? = some (some c)) : ∃ a, α[k]? = some a ∧ F a = none ∧ (OKd.ins C fs).lies K α F H a c := by
  obtain ⟨a, h1, h2, h3⟩ := r.cell k c h
  unfold Lie at h3
  rw [hO] at h3
  exact ⟨a, h1, h2, h3⟩
theorem Rep.dcell {k : Nat} {c : Cell} (r : Rep K α F μ H) (hO : TabN.O[k]? = some .dic) (h : μ[k]? = some (some c)) : ∃ a, α[k]? = some a ∧ F a = none ∧ OKd.dic.lies K α F H a c := by
  obtain ⟨a, h1, h2, h3⟩ := r.cell k c h
  unfold Lie at h3
  rw [hO] at h3
  exact ⟨a, h1, h2, h3⟩
/-- an object changes -/
theorem Rep.writeO {k : Nat} {c c' : Cell} {a : Addr} {q : OKd} {u' : HO} (r : Rep K α F μ H) (hO : TabN.O[k]? = some q) (hk : μ[k]? = some (some c)) (ha : α[k]? = some a) (h' : q.lies K α F (upd H a u') a c') (nt : ∀ ps, u' ≠ .tbl ps := by intro _ z; cases z) :
    Rep K α F (μ.set k (some c')) (upd H a u') ∧ Ext α F H α F (upd H a u') := by
  obtain ⟨a0, h1, h3, h4⟩ := r.cell k c hk
  obtain ⟨u, h2, nu⟩ := h4.obj
  rw [ha] at h1
  cases h1
  have sF : Same F (upd H a u') := fun b u h => by
    rw [upd_ne (fun e => by rw [e, h3] at h; cases h)]
    exact r.sub _ _ h
  have hl : k < μ.length := (List.getElem?_eq_some_iff.mp hk).1
  have old : ∀ (i : Nat) (c1 : Cell), (μ.set k (some c'))[i]? = some (some c1) → ∃ c0, μ[i]? = some (some c0) := fun i c1 h => by
    by_cases hi : k = i
    · subst hi
      exact ⟨c, hk⟩
    · rw [List.getElem?_set_ne hi] at h
      exact ⟨c1, h⟩
  refine ⟨⟨by rw [List.length_set]; exact r.len, sF, r.len0, fun i c1 h => ?_, fun i j b c1 c2 q1 q2 q3 q4 => ?_, fun b m => ?_, r.tab.step (fun _ _ z => z) (fun b ps z => tbl_keep (fun ps z => by rw [h2] at z; exact nu ps (Option.some.inj z)) z) (fun b ps z => z)⟩, ⟨⟨[], by simp⟩, Same.refl _, fun b u h n _ => ?_, fun b h => ?_, fun b _ _ _ h => .inl h, fun b h => .inl h⟩⟩
  · by_cases hi : k = i
    · subst hi
      rw [List.getElem?_set_self hl] at h
      cases h
      refine ⟨a, ha, h3, ?_⟩
      unfold Lie
      rw [hO]
      exact h'
    · rw [List.getElem?_set_ne hi] at h
      obtain ⟨b, g1, g3, g4⟩ := r.cell i c1 h
      have ne : b ≠ a := fun e => hi (r.inj k i a c c1 hk h ha (by rw [← e]; exact g1))
      exact ⟨b, g1, g3, g4.mono (fun u z => by rw [upd_ne ne]; exact z) (Same.refl _) fun _ _ _ z => z⟩
  · obtain ⟨d1, e1⟩ := old i c1 q1
    obtain ⟨d2, e2⟩ := old j c2 q2
    exact r.inj i j b d1 d2 e1 e2 q3 q4
  · by_cases e : b = a
    · rw [e]
      exact fun z => z.no upd_same nt
    · exact Fr.put (r.had b m) e
  · have ne : b ≠ a := fun e => n (by rw [e]; exact List.mem_of_getElem? ha)
    rw [upd_ne ne]
    exact h
  · by_cases e : b = a
    · rw [e] at h
      exact (h.no upd_same nt).elim
    · intro u hu
      exact h u (by rw [upd_ne e]; exact hu)
end
/-! ### what is asked of an object -/
/-- the cell of the object k0 -/
def objC (k0 : Nat) (w : Wv) (μ : Mu) : Option Cell :=
  match w with
  | .o k => if k = k0 then μ[k]?.join else none
  | _ => none
theorem objC_ok {k0 : Nat} {w : Wv} {μ : Mu} {c : Cell} (h : objC k0 w μ = some c) : w = .o k0 ∧ μ[k0]? = some (some c) := by
  unfold objC at h
  split at h
  · split at h
    · rename_i k e
      subst e
      cases z : μ[k]? with
      | none =>
        rw [z] at h
        cases h
      | some o =>
        rw [z] at h
        have e3 : o = some c := h
        rw [e3]
        exact ⟨rfl, rfl⟩
    · cases h
  · cases h
def gFld (k0 i : Nat) (w : Wv) (μ : Mu) : Out Wv := match objC k0 w μ with
  | some c => match c[i]? with
    | some x => .ok (.d x) μ
    | none => .bad
  | none => .bad
/-- a field that is a cell -/
def gRef (k0 : Nat) (u : Wv) (w : Wv) (μ : Mu) : Out Wv := match objC k0 w μ with
  | some _ => .ok u μ
  | none => .bad
/-- o.f = e: the value first -/
def sFldP (k0 i : Nat) (fo fe : Ev) : Sv := fun ρ μ => liftO ρ (fe ρ μ) fun y μ1 => liftO ρ (fo ρ μ1) fun w μ2 => match y, objC k0 w μ2 with
  | .d x, some c => .ok (.nx ρ) (μ2.set k0 (some (c.set i x)))
  | _, _ => .bad
/-- o.m(e, ..) -/
def cM (k0 : Nat) (n : Nat) (g : GF) (fo : Ev) (as : Av) : Ev := fun ρ μ => (fo ρ μ).bind fun w μ1 => match objC k0 w μ1 with
  | some _ => (as ρ μ1).bind fun ws μ2 => if (w :: ws).length = n then g (w :: ws) μ2 else .bad
  | none => .bad
def dKey (w : Str) : Cell → Option PyData
  | [] => none
  | .tuple [.str v, y] :: r => if v = w then some y else dKey w r
  | _ :: r => dKey w r
def gDIn (neg : Bool) (k0 : Nat) (y w : Wv) (μ : Mu) : Out Wv := match y, objC k0 w μ with
  | .d (.str x), some c => .ok (wBl (neg != (dKey x c).isSome)) μ
  | _, _ => .bad
def gDIx (k0 : Nat) (w y : Wv) (μ : Mu) : Out Wv := match y, objC k0 w μ with
  | .d (.str x), some c => match dKey x c with
    | some z => .ok (.d z) μ
    | none => .bad
  | _, _ => .bad
/-- d[k] = e, a new key: the value, the dict, the key -/
def sDPutN (k0 : Nat) (fd fk fe : Ev) : Sv := fun ρ μ => liftO ρ (fe ρ μ) fun v μ1 => liftO ρ (fd ρ μ1) fun w μ2 => liftO ρ (fk ρ μ2) fun y μ3 => match v, y, objC k0 w μ3 with
  | .d z, .d (.str x), some c => if (dKey x c).isSome = true ∨ 1000 < c.length then .bad else .ok (.nx ρ) (μ3.set k0 (some (c ++ [.tuple [.str x, z]])))
  | _, _, _ => .bad
theorem dKey_ok {K : PySem.W.Frag} {F : Hp} {x : Str} : ∀ {kvs : List (Key × V)} {c : Cell}, Paired (fun (p : Key × V) (x : PyData) => ∃ w y, p.1 = Sum.inr w ∧ x = .tuple [.str w, y] ∧ Dq K F p.2 y) kvs c →
    (dKey x c = none → valV kvs (Sum.inr x : Key) = none) ∧ ∀ z, dKey x c = some z → ∃ v, valV kvs (Sum.inr x : Key) = some v ∧ Dq K F v z
  | [], [], _ => ⟨fun _ => rfl, fun z h => by cases h⟩
  | [], _ :: _, h => by cases h
  | _ :: _, [], h => by cases h
  | p :: kvs, d :: c, h => by
    cases h with
    | cons h1 h2 =>
      obtain ⟨w, y, e1, rfl, e3⟩ := h1
      obtain ⟨i1, i2⟩ := dKey_ok (x := x) h2
      unfold dKey
      by_cases e : w = x
      · rw [if_pos e]
        refine ⟨fun z => (by cases z), fun z h => ?_⟩
        cases h
        exact ⟨p.2, valV_pos (by rw [e1, e]), e3⟩
      · rw [if_neg e]
        have ne : ¬ p.1 = (Sum.inr x : Key) := fun z => e (by rw [e1] at z; exact Sum.inr.inj z)
        rw [valV_neg ne]
        exact ⟨i1, i2⟩
/-! ### rules -/
section
variable {X : Cx} {W : WX} {C : Addr} {fs : List (Str × Option Nat)} {k0 i : Nat} {o e value : Expr} {f m : Str} {fo fe : Ev} {pos pos' apos : Pos}
theorem xFld (hO : TabN.O[k0]? = some (.ins C fs)) (hC : Cls X.K C) (hn : NoAttr X.K C f) (hi : fs[i]? = some (f, none)) (ho : SE X W o fo) (hb : attributeBase o f X.env (eval o X.env) = eval o X.env := by rfl) :
    SE X W (.Attribute o f pos) (e1 (gFld k0 i) fo) := by
  refine (pe_fld ho hb).imp fun σ H Q ⟨ρ, μ, α, F, r, re, q⟩ => ?_
  refine ⟨ρ, μ, α, F, r, re, q.bind.mono fun w μ1 α1 F1 H1 x1 r1 q1 v rv => ?_⟩
  have q2 := q1.calm (X' := fun _ _ _ => False)
  unfold gFld at q2
  split at q2
  · rename_i c hc
    obtain ⟨rfl, hk⟩ := objC_ok hc
    obtain ⟨a, h1, h2, dx, gs, g1, g2, g3, g4, g5, g6⟩ := r1.ocell hO hk
    obtain ⟨b, h3, rfl⟩ := rv
    rw [h1] at h3
    cases h3
    obtain ⟨v, x, e1, e2, e3⟩ := g5 i f hi
    rw [e2] at q2
    exact ⟨a, C, dx, gs, v, rfl, g1, hC, hn, e1, q2.now r1 _ e3⟩
  · exact q2.elim
theorem xRef {u : Wv} {j : Nat} (hO : TabN.O[k0]? = some (.ins C fs)) (hC : Cls X.K C) (hn : NoAttr X.K C f) (hi : fs[i]? = some (f, some j)) (hu : u = .o j ∨ (u = .r j ∧ isL j)) (ho : SE X W o fo) (hb : attributeBase o f X.env (eval o X.env) = eval o X.env := by rfl) :
    SE X W (.Attribute o f pos) (e1 (gRef k0 u) fo) := by
  refine (pe_fld ho hb).imp fun σ H Q ⟨ρ, μ, α, F, r, re, q⟩ => ?_
  refine ⟨ρ, μ, α, F, r, re, q.bind.mono fun w μ1 α1 F1 H1 x1 r1 q1 v rv => ?_⟩
  have q2 := q1.calm (X' := fun _ _ _ => False)
  unfold gRef at q2
  split at q2
  · rename_i c hc
    obtain ⟨rfl, hk⟩ := objC_ok hc
    obtain ⟨a, h1, h2, dx, gs, g1, g2, g3, g4, g5, g6⟩ := r1.ocell hO hk
    obtain ⟨b, h3, rfl⟩ := rv
    rw [h1] at h3
    cases h3
    obtain ⟨b, e1, e2, e3⟩ := g6 i f j hi
    refine ⟨a, C, dx, gs, .ref b, rfl, g1, hC, hn, e1, q2.now r1 _ ?_⟩
    rcases hu with rfl | ⟨rfl, hl⟩
    · exact ⟨b, e2, rfl⟩
    · exact ⟨b, e2, rfl, hl⟩
  · exact q2.elim
theorem xFldP (hO : TabN.O[k0]? = some (.ins C fs)) (hC : Cls X.K C) (hn : NoAttr X.K C f) (hi : fs[i]? = some (f, none)) (hu : ∀ j v, fs[j]? = some (f, v) → j = i) (ho : SE X W o fo) (he : SE X W value fe)
    (hs : swapsWith value (some (.Attribute o f pos')) pos.line X.env = pure false := by rfl) : SS X W (.Assign [.Attribute o f pos'] value pos) (sFldP k0 i fo fe) := by
  refine (ps_fld ho he hs).imp fun D σ H ⟨ρ, μ, α, F, r, re, q⟩ => ?_
  refine ⟨ρ, μ, α, F, r, re, (gp_lift re q).mono fun y μ1 α1 F1 H1 x1 r1 q1 v rv => ?_⟩
  refine ⟨ρ, μ1, α1, F1, r1, re.ext x1, (gp_lift (re.ext x1) q1).mono fun w μ2 α2 F2 H2 x2 r2 q2 u ru => ?_⟩
  split at q2
  · rename_i x c hc
    obtain ⟨rfl, hk⟩ := objC_ok hc
    obtain ⟨a, h1, h2, dx, gs, g1, g2, g3, g4, g5, g6⟩ := r2.ocell hO hk
    obtain ⟨b, h3, rfl⟩ := ru
    rw [h1] at h3
    cases h3
    have rx : Dq X.K F2 v x := (rv.ext x2)
    obtain ⟨v0, x0, z1, z2, z3⟩ := g5 i f hi
    have hl : gs.lookup f ≠ none := fun z => by
      rw [z1] at z
      cases z
    have hil : i < c.length := (List.getElem?_eq_some_iff.mp z2).1
    have main : (OKd.ins C fs).lies X.K α2 F2 (upd H2 a (.ins C dx (putF f v gs))) a (c.set i x) := by
      refine ⟨dx, _, upd_same, by rw [putF_len hl]; exact g2, fun g hg => ?_, by rw [List.length_set]; exact g4, fun j g hj => ?_, fun j g n hj => ?_⟩
      · rw [lookup_putF] at hg
        by_cases e : g = f
        · rw [e]
          exact g3 f hl
        · rw [if_neg e] at hg
          exact g3 g hg
      · rw [lookup_putF]
        by_cases e : g = f
        · subst e
          have ej := hu j _ hj
          subst ej
          rw [if_pos rfl]
          exact ⟨v, x, rfl, List.getElem?_set_self hil, rx⟩
        · rw [if_neg e]
          obtain ⟨v1, x1, y1, y2, y3⟩ := g5 j g hj
          have nj : ¬ i = j := fun z => e (by rw [← z, hi] at hj; exact (congrArg Prod.fst (Option.some.inj hj)).symm)
          exact ⟨v1, x1, y1, by rw [List.getElem?_set_ne nj]; exact y2, y3⟩
      · rw [lookup_putF]
        by_cases e : g = f
        · subst e
          have ej := hu j _ hj
          subst ej
          rw [hi] at hj
          cases hj
        · rw [if_neg e]
          exact g6 j g n hj
    obtain ⟨r3, x3⟩ := r2.writeO hO hk h1 main
    exact ⟨a, C, dx, gs, rfl, g1, hC, hn, by omega, q2.at x3 r3 σ (((re.ext x1).ext x2).ext x3)⟩
  · exact q2.elim
/-! methods -/
structure HasM (P : Program) (w : World) (K : PySem.W.Frag) (mg : Str → Option Value) (base : Heap) (C : Addr) (j : Nat) (m : Str) (ps : List Str) (n : Nat) (g : GF) : Prop where
  ex : ∃ f fd, Meth K C m f ∧ Binds K fd ps [] ∧ FnOk P w K mg base (L2.CX P w) j f fd ps (spG K mg n g)
def tMethS (C : Addr) (m : Str) (sp : Sp) (E : L2.St → XK) (ta : TE) (t : TA) : TE := fun σ H Q => ta σ H fun x H1 => ∃ a dx fs, x = .ref a ∧ H1 a = some (.ins C dx fs) ∧ fs.lookup m = none ∧ t σ H1 fun vs H2 => sp (x :: vs) H2 Q (E σ)
theorem pe_methS {CX : CXT} {k : Nat} {g : Addr} {fd : FuncData} {ps : List Str} {sp : Sp} {E : L2.St → XK} {es : List Expr} {ta : TE} {t : TA} {pl : Sem Bool} (he : PE X o ta) (c : Cls X.K C) (hm : Meth X.K C m g)
    (F : FnOk X.prog X.w X.K X.mg X.base CX k g fd ps sp) (hr : Room k X.A) (hb : Binds X.K fd ps []) (hx : ∀ σ, PassesAt CX X σ (E σ)) (ha : PA X (e :: es) t)
    (hst : starEach (e :: es) X.env = (false, eval e X.env) :: starEach es X.env := by rfl) (hpl : (backTo pos (starEach es X.env)).any (·.1) = false := by rfl)
    (ht : eval (.Call (.Attribute o m apos) (e :: es) [] pos) X.env = (do
      let ov ← eval o X.env
      standAt apos.atName
      let (f, first) ← holding [ov] (getMethod ov m pl)
      callWith pos f first (backTo pos (starEach (e :: es) X.env)) (backToKw pos (keywordEach [] X.env))) := by rfl) :
    PE X (.Call (.Attribute o m apos) (e :: es) [] pos) (tMethS C m sp E ta t) := by
  refine ⟨fun pins s σ H Q I h => ?_⟩
  refine PySem.W.methodCall_KW (pl := pl) (thn (he.run pins s σ H _ I h) fun u s1 ⟨x, H1, I1, rx, a, dx, fs, ex, ea, l, q⟩ => ?_) ht
  subst ex
  obtain rfl : u = Value.ref a := rx
  refine getmeth_ok I1 ea c hm l ?_
  refine PySem.W.callWith_K (first := [.ref a]) (h₀ := X.base) I.ok.mod.kin hm.kp (thn (ha.run pos pins s1 σ H1 _ I1 q) fun us s2 ⟨vs, H2, I2, r, q2⟩ => ⟨I2.kIn, ?_⟩) hst hpl
  exact run_fnS (us := .ref a :: us) (vs := .ref a :: vs) F hr hb (hx σ) I2 (.cons rfl r) q2
theorem pe_methS0 {CX : CXT} {k : Nat} {g : Addr} {fd : FuncData} {ps : List Str} {sp : Sp} {E : L2.St → XK} {ta : TE} {pl : Sem Bool} (he : PE X o ta) (c : Cls X.K C) (hm : Meth X.K C m g)
    (F : FnOk X.prog X.w X.K X.mg X.base CX k g fd ps sp) (hr : Room k X.A) (hb : Binds X.K fd ps []) (hx : ∀ σ, PassesAt CX X σ (E σ))
    (ht : eval (.Call (.Attribute o m apos) [] [] pos) X.env = (do
      let ov ← eval o X.env
      standAt apos.atName
      let (f, first) ← holding [ov] (getMethod ov m pl)
      callWith pos f first (backTo pos (starEach [] X.env)) (backToKw pos (keywordEach [] X.env))) := by rfl) :
    PE X (.Call (.Attribute o m apos) [] [] pos) (tMethS C m sp E ta tNil) := by
  refine ⟨fun pins s σ H Q I h => ?_⟩
  refine PySem.W.methodCall_KW (pl := pl) (thn (he.run pins s σ H _ I h) fun u s1 ⟨x, H1, I1, rx, a, dx, fs, ex, ea, l, q⟩ => ?_) ht
  subst ex
  obtain rfl : u = Value.ref a := rx
  refine getmeth_ok I1 ea c hm l ?_
  exact PySem.W.callWith_K0 (first := [.ref a]) I1.kIn hm.kp (run_fnS (us := [.ref a]) (vs := [.ref a]) F hr hb (hx σ) I1 (.cons rfl .nil) q)
theorem no_field {K : PySem.W.Frag} {α : List Addr} {F H : Hp} {a : Addr} {c : Cell} {gs : List (Str × V)} (g3 : ∀ f, gs.lookup f ≠ none → f ∈ fs.map (·.1)) (hm : ¬ m ∈ fs.map (·.1)) : gs.lookup m = none := Classical.byContradiction fun z => hm (g3 m z)
theorem xMeth {j k n : Nat} {ps : List Str} {g : GF} {es : List Expr} {as : Av} {pl : Sem Bool} (hO : TabN.O[k0]? = some (.ins C fs)) (hC : Cls X.K C) (h : HasM X.prog X.w X.K X.mg X.base C j m ps n g) (hm : ¬ m ∈ fs.map (·.1)) (hj : j ≤ k) (hr : Room k X.A) (tk : Takes X W) (ho : SE X W o fo) (ha : SA X W (e :: es) as)
    (hst : starEach (e :: es) X.env = (false, eval e X.env) :: starEach es X.env := by rfl) (hpl : (backTo pos (starEach es X.env)).any (·.1) = false := by rfl)
    (ht : eval (.Call (.Attribute o m apos) (e :: es) [] pos) X.env = (do
      let ov ← eval o X.env
      standAt apos.atName
      let (f, first) ← holding [ov] (getMethod ov m pl)
      callWith pos f first (backTo pos (starEach (e :: es) X.env)) (backToKw pos (keywordEach [] X.env))) := by rfl) :
    SE X W (.Call (.Attribute o m apos) (e :: es) [] pos) (cM k0 n g fo as) := by
  obtain ⟨f, fd, h1, h2, h3⟩ := h.ex
  refine (pe_methS (E := WE W) ho hC h1 (h3.mono hj) hr h2 (fun σ => passAt tk σ) ha hst hpl ht).imp fun σ H Q ⟨ρ, μ, α, F, r, re, q⟩ => ?_
  refine ⟨ρ, μ, α, F, r, re, q.bind.mono fun w μ1 α1 F1 H1 x1 r1 q1 v rv => ?_⟩
  split at q1
  · rename_i c hc
    obtain ⟨rfl, hk⟩ := objC_ok hc
    obtain ⟨a, h1, h2, dx, gs, g1, g2, g3, g4, g5, g6⟩ := r1.ocell hO hk
    obtain ⟨b, h3, rfl⟩ := _root_.id rv
    rw [h1] at h3
    cases h3
    refine ⟨a, dx, gs, rfl, g1, Classical.byContradiction fun z => hm (g3 m z), ρ, μ1, α1, F1, r1, re.ext x1, q1.bind.mono fun ws μ2 α2 F2 H2 x2 r2 q2 vs rvs => ?_⟩
    exact ⟨.o k0 :: ws, μ2, α2, F2, r2, .cons (rv.ext x2) rvs, q2⟩
  · exact q1.elim
theorem xMeth0 {j k n : Nat} {ps : List Str} {g : GF} {pl : Sem Bool} (hO : TabN.O[k0]? = some (.ins C fs)) (hC : Cls X.K C) (h : HasM X.prog X.w X.K X.mg X.base C j m ps n g) (hm : ¬ m ∈ fs.map (·.1)) (hj : j ≤ k) (hr : Room k X.A) (tk : Takes X W) (ho : SE X W o fo)
    (ht : eval (.Call (.Attribute o m apos) [] [] pos) X.env = (do
      let ov ← eval o X.env
      standAt apos.atName
      let (f, first) ← holding [ov] (getMethod ov m pl)
      callWith pos f first (backTo pos (starEach [] X.env)) (backToKw pos (keywordEach [] X.env))) := by rfl) :
    SE X W (.Call (.Attribute o m apos) [] [] pos) (cM k0 n g fo aNil) := by
  obtain ⟨f, fd, h1, h2, h3⟩ := h.ex
  refine (pe_methS0 (E := WE W) ho hC h1 (h3.mono hj) hr h2 (fun σ => passAt tk σ) ht).imp fun σ H Q ⟨ρ, μ, α, F, r, re, q⟩ => ?_
  refine ⟨ρ, μ, α, F, r, re, q.bind.mono fun w μ1 α1 F1 H1 x1 r1 q1 v rv => ?_⟩
  split at q1
  · rename_i c hc
    obtain ⟨rfl, hk⟩ := objC_ok hc
    obtain ⟨a, h1, h2, dx, gs, g1, g2, g3, g4, g5, g6⟩ := r1.ocell hO hk
    obtain ⟨b, h3, rfl⟩ := _root_.id rv
    rw [h1] at h3
    cases h3
    refine ⟨a, dx, gs, rfl, g1, Classical.byContradiction fun z => hm (g3 m z), ?_⟩
    exact ⟨[.o k0], μ1, α1, F1, r1, .cons rv .nil, q1⟩
  · exact q1.elim
/-! dicts of texts -/
theorem dKey_is {K : PySem.W.Frag} {F : Hp} {x : Str} {kvs : List (Key × V)} {c : Cell} (g2 : Paired (fun (p : Key × V) (x : PyData) => ∃ w y, p.1 = Sum.inr w ∧ x = .tuple [.str w, y] ∧ Dq K F p.2 y) kvs c) : (valV kvs (Sum.inr x : Key)).isSome = (dKey x c).isSome := by
  obtain ⟨n1, n2⟩ := dKey_ok (x := x) g2
  cases z : dKey x c with
  | none => rw [n1 z]; rfl
  | some y => obtain ⟨v, e, _⟩ := n2 y z; rw [e]; rfl
theorem op_gDIn (hO : TabN.O[k0]? = some .dic) (hu : X.A.units + 1 < cLine) : OpR X (compareOp .In) (r2G X.K X.mg (gDIn false k0)) := by
  intro pins s σ H x y v u Q I rx ry ⟨μ, α, F, w1, w2, r, h1, h2, q⟩
  unfold gDIn at q
  split at q
  · rename_i x c hc
    obtain ⟨rfl, hk⟩ := objC_ok hc
    obtain ⟨a, e1, e2, kvs, g1, g2⟩ := r.dcell hO hk
    obtain ⟨b, h3, rfl⟩ := h2
    rw [e1] at h3
    cases h3
    have h1 : Dq X.K F _ (.str x) := h1
    cases h1
    obtain rfl : u = Value.ref a := ry
    refine d_in hu I (DGet.k (k := (Sum.inr x : Key)) g1) rx fun s3 I3 => ⟨.bl (valV kvs (Sum.inr x : Key)).isSome, H, I3, rfl, ?_⟩
    rw [dKey_is g2]
    have := q.now r (.bl (false != (dKey x c).isSome)) (.bl _)
    simpa using this
  · exact q.elim
theorem op_gDNotIn (hO : TabN.O[k0]? = some .dic) (hu : X.A.units + 1 < cLine) : OpR X (compareOp .NotIn) (r2G X.K X.mg (gDIn true k0)) := by
  intro pins s σ H x y v u Q I rx ry ⟨μ, α, F, w1, w2, r, h1, h2, q⟩
  unfold gDIn at q
  split at q
  · rename_i x c hc
    obtain ⟨rfl, hk⟩ := objC_ok hc
    obtain ⟨a, e1, e2, kvs, g1, g2⟩ := r.dcell hO hk
    obtain ⟨b, h3, rfl⟩ := h2
    rw [e1] at h3
    cases h3
    have h1 : Dq X.K F _ (.str x) := h1
    cases h1
    obtain rfl : u = Value.ref a := ry
    refine d_notIn hu I (DGet.k (k := (Sum.inr x : Key)) g1) rx fun s3 I3 => ⟨.bl (!(valV kvs (Sum.inr x : Key)).isSome), H, I3, rfl, ?_⟩
    rw [dKey_is g2]
    have := q.now r (.bl (true != (dKey x c).isSome)) (.bl _)
    simpa using this
  · exact q.elim
theorem xDIx {d y : Expr} {fd fy : Ev} (hO : TabN.O[k0]? = some .dic) (hu : X.A.units + 1 < cLine) (hd : SE X W d fd) (hy : SE X W y fy) (hs : NoSl y := by intro _ _; rfl) : SE X W (.Subscript d y pos) (e2 (gDIx k0) fd fy) := by
  refine (pe_dget hu hd hy hs).imp fun σ H Q ⟨ρ, μ, α, F, r, re, q⟩ => ?_
  refine ⟨ρ, μ, α, F, r, re, q.bind.mono fun w μ1 α1 F1 H1 x1 r1 q1 u ru => ?_⟩
  refine ⟨ρ, μ1, α1, F1, r1, re.ext x1, q1.bind.mono fun y μ2 α2 F2 H2 x2 r2 q2 v rv => ?_⟩
  have q3 := q2.calm (X' := fun _ _ _ => False)
  unfold gDIx at q3
  split at q3
  · rename_i x c hc
    obtain ⟨rfl, hk⟩ := objC_ok hc
    obtain ⟨a, e1, e2, kvs, g1, g2⟩ := r2.dcell hO hk
    obtain ⟨b, h3, rfl⟩ := ru.ext x2
    rw [e1] at h3
    cases h3
    have rv : Dq X.K F2 v (.str x) := rv
    cases rv
    obtain ⟨n1, n2⟩ := dKey_ok (x := x) g2
    cases z : dKey x c with
    | none =>
      rw [z] at q3
      exact q3.elim
    | some z' =>
      rw [z] at q3
      obtain ⟨v, e3, e4⟩ := n2 _ z
      refine ⟨a, v, rfl, ?_, q3.now r2 _ e4⟩
      have := DGet.k (k := (Sum.inr x : Key)) g1
      rw [e3] at this
      exact this
  · exact q3.elim
theorem xDPutN {d y : Expr} {fd fy : Ev} (hO : TabN.O[k0]? = some .dic) (hu : X.A.units + 1 < cLine) (hd : SE X W d fd) (hy : SE X W y fy) (he : SE X W value fe)
    (hs : swapsWith value (some (.Subscript d y pos')) pos.line X.env = pure false := by rfl) : SS X W (.Assign [.Subscript d y pos'] value pos) (sDPutN k0 fd fy fe) := by
  refine (ps_dput hu hd hy he hs).imp fun D σ H ⟨ρ, μ, α, F, r, re, q⟩ => ?_
  refine ⟨ρ, μ, α, F, r, re, (gp_lift re q).mono fun z μ1 α1 F1 H1 x1 r1 q1 v rv => ?_⟩
  refine ⟨ρ, μ1, α1, F1, r1, re.ext x1, (gp_lift (re.ext x1) q1).mono fun w μ2 α2 F2 H2 x2 r2 q2 u ru => ?_⟩
  refine ⟨ρ, μ2, α2, F2, r2, (re.ext x1).ext x2, (gp_lift ((re.ext x1).ext x2) q2).mono fun y μ3 α3 F3 H3 x3 r3 q3 t rt => ?_⟩
  split at q3
  · rename_i z x c hc
    obtain ⟨rfl, hk⟩ := objC_ok hc
    obtain ⟨a, e1, e2, kvs, g1, g2⟩ := r3.dcell hO hk
    obtain ⟨b, h3, rfl⟩ := ru.ext x3
    rw [e1] at h3
    cases h3
    have rt : Dq X.K F3 t (.str x) := rt
    cases rt
    split at q3
    · exact q3.elim
    · rename_i hn
      have hn' := not_or.mp hn
      obtain ⟨n1, n2⟩ := dKey_ok (x := x) g2
      have nk : dKey x c = none := by
        cases z : dKey x c with
        | none => rfl
        | some z' =>
          rw [z] at hn'
          exact absurd rfl hn'.1
      have rv3 : Dq X.K F3 v z := ((rv.ext x2).ext x3)
      have hl : kvs.length = c.length := Paired.length g2
      have main : OKd.dic.lies X.K α3 F3 (upd H3 a (.dK (putK kvs (Sum.inr x : Key) v))) a (c ++ [.tuple [.str x, z]]) := by
        refine ⟨_, upd_same, ?_⟩
        rw [putK_new v (n1 nk)]
        exact Paired.app g2 (.cons ⟨x, z, rfl, rfl, rv3⟩ .nil)
      obtain ⟨r4, x4⟩ := r3.writeO hO hk e1 main
      exact ⟨a, _, rfl, DPut.k (k := (Sum.inr x : Key)) g1 (by rw [hl, sizeLine_eq]; omega), q3.at x4 r4 σ ((((re.ext x1).ext x2).ext x3).ext x4)⟩
  · exact q3.elim
end
end TL
/-! TL24: (*e, ..), int(text), comprehensions with two clauses. -/
namespace TL
variable [TabN]
open PySem PySem.Spec L2 PyProof.Rows RZ StX
/-! ### (*e, ..) -/
def aStar (a : Ev) (as : Av) : Av := fun ρ μ => (a ρ μ).bind fun w μ1 => match w with
  | .d (.tuple xs) => (as ρ μ1).bind fun ws μ2 => .ok (xs.map Wv.d ++ ws) μ2
  | _ => .bad
theorem Rws.ofAll {K : PySem.W.Frag} {α : List Addr} {F : Hp} : ∀ {vs : List V} {ds : List PyData}, DqAll K F vs ds → Rws K α F vs (ds.map Wv.d)
  | _, _, .nil => .nil
  | _, _, .cons h t => .cons h (Rws.ofAll t)
theorem xStar {X : Cx} {W : WX} {e : Expr} {es : List Expr} {p : Pos} {a : Ev} {as : Av} (he : SE X W e a) (hr : SA X W es as) (hs : starEach (.Starred e p :: es) X.env = (true, eval e X.env) :: starEach es X.env := by rfl) : SA X W (.Starred e p :: es) (aStar a as) := by
  refine (pa_star he hr hs).imp fun σ H Q ⟨ρ, μ, α, F, r, re, q⟩ => ?_
  refine ⟨ρ, μ, α, F, r, re, q.bind.mono fun w μ1 α1 F1 H1 x1 r1 q1 v rv => ?_⟩
  split at q1
  · rename_i xs
    have rv : Dq X.K F1 v (.tuple xs) := rv
    cases rv with
    | tup ht hd =>
      refine ⟨_, _, rfl, .inl (sameT r1.sub ht), ρ, μ1, α1, F1, r1, re.ext x1, q1.bind.mono fun ws μ2 α2 F2 H2 x2 r2 q2 vs rvs => ?_⟩
      exact q2.now r2 _ (Paired.app (Rws.ofAll (hd.mono x2.fro)) rvs)
  · exact q1.elim
/-! ### int(text) -/
noncomputable def gIntS (ws : List Wv) (μ : Mu) : Out Wv := match ws with
  | [.d (.str a)] => match PySem.intText? a with
    | some n => if @decide (a.length ≤ 640) (Classical.propDecidable _) = true then .ok (.d (.int n)) μ else .bad
    | none => .bad
  | _ => gInt ws μ
theorem cr_gIntS {X : Cx} : CallR X (.type "int") (rnG X.K X.mg gIntS) := by
  intro pins s σ H xs us Q I ru ⟨μ, α, F, ws, r, h, q⟩
  unfold gIntS at q
  split at q
  · rename_i a
    split at q
    · rename_i n hn
      split at q
      · rename_i hl
        have hl := @of_decide_eq_true _ (Classical.propDecidable _) hl
        cases h with
        | cons h1 h2 =>
          cases h2
          have h1 : Dq X.K F _ (.str a) := h1
          cases h1
          exact call_int_str pins s σ H _ us Q I ru ⟨a, n, rfl, hn, hl, q.now r _ (.int _)⟩
      · exact q.elim
    · exact q.elim
  · exact cr_gInt pins s σ H xs us Q I ru ⟨μ, α, F, ws, r, h, q⟩
/-! ### comprehensions with two clauses -/
theorem Out.bind_assoc {α β γ : Type} (o : Out α) (k : α → Mu → Out β) (l : β → Mu → Out γ) : (o.bind k).bind l = o.bind fun a μ => (k a μ).bind l := by
  cases o <;> rfl
open Classical in
noncomputable def loopD (i : Its) (t : Gv) (c : Bv) (f : Rho → Cell → Mu → Out Cell) (ρ : Rho) : Cell → Cell → Mu → Out Cell
  | [], acc, μ => if tied i μ then .ok acc μ else .bad
  | x :: xs, acc, μ => if tied i μ then (calm (t (.d x) ρ μ)).bind fun ρ1 μ1 => (calm (c ρ1 μ1)).bind fun b μ2 =>
      if b = true then (f ρ1 acc μ2).bind fun acc' μ3 => loopD i t c f ρ xs acc' μ3 else loopD i t c f ρ xs acc μ2
    else .bad
noncomputable def lLc2 (it : Iv) (t : Gv) (c : Bv) (it1 : Iv) (t1 : Gv) (c1 : Bv) (e : Ev) (os os1 : List Nat) : Lv := fun ρ μ => (it ρ μ).bind fun i μ1 =>
  loopD i t c (fun ρ1 acc μ2 => (calm (it1 ρ1 μ2)).bind fun i1 μ3 => loopC i1 t1 c1 e (wipeR ρ1 os1) i1.xs acc μ3) (wipeR ρ os) i.xs [] μ1
theorem wipe_twice (σ : St) (os : List Nat) : L2.wipe (L2.wipe σ os) os = L2.wipe σ os := by
  have : ∀ vs : List Nat, (∀ v ∈ vs, v ∈ os) → L2.wipe (L2.wipe σ vs) os = L2.wipe σ os := by
    intro vs
    induction vs with
    | nil => intro _; rfl
    | cons v vs ih =>
      intro h
      show L2.wipe ((L2.wipe σ vs).set v none) os = _
      rw [wipe_set _ _ _ _ (h v List.mem_cons_self), ih fun u hu => h u (List.mem_cons_of_mem _ hu)]
  exact this os fun v h => h
section
variable {X : Cx} {W : WX}
/-- the accumulator, at a place in the midst -/
structure AccAt (X : Cx) (α0 : List Addr) (F0 H0 H1 : Hp) (D : Addr) (o : Cell → Mu → Out Cell) (Q : VK) (E : XK) (α2 : List Addr) (F2 H : Hp) : Prop where
  ex : ∃ μ α F acc vs, Rep X.K α F μ H ∧ ExtW α2 F2 α F ∧ Ext α0 F0 H0 α F H ∧ H D = some (.lst vs) ∧ F D = none ∧ D ∉ α ∧ DqAll X.K F vs acc ∧ gp X.K X.mg α0 F0 H0 (o acc μ) (Gl' X.K H1 Q) E
theorem RepE.extW {K : PySem.W.Frag} {α α' : List Addr} {F F' : Hp} {ρ : Rho} {σ : St} (r : RepE K α F ρ σ) (e : ExtW α F α' F') : RepE K α' F' ρ σ := by
  refine ⟨r.len, fun i w h => ?_⟩
  obtain ⟨v, h1, h2⟩ := r.at_ i w h
  refine ⟨v, h1, ?_⟩
  cases w with
  | d x => exact Dq.mono e.fro h2
  | r k =>
    obtain ⟨a, h, rfl, hk⟩ := h2
    obtain ⟨β, rfl⟩ := e.pre
    exact ⟨a, by rw [List.getElem?_append_left (List.getElem?_eq_some_iff.mp h).1]; exact h, rfl, hk⟩
  | x n C o =>
    obtain ⟨a, rfl, h⟩ := h2
    exact ⟨a, rfl, h.mono e.fro⟩
  | o k =>
    obtain ⟨a, h, rfl⟩ := h2
    obtain ⟨β, rfl⟩ := e.pre
    exact ⟨a, by rw [List.getElem?_append_left (List.getElem?_eq_some_iff.mp h).1]; exact h, rfl⟩
  | t ds =>
    obtain ⟨a, o, vs, rfl, h1, h2, h3, h4⟩ := h2
    exact ⟨a, o, vs, rfl, e.fro _ _ h1, h2, h3, h4.mono e.fro⟩
theorem lc_in {i : Its} {t : Gv} {c : Bv} {e : Ev} {kk : Cell → Mu → Out Cell} {Q : VK} {E : XK} {os : List Nat} {ρ : Rho} {σ : St} {μ : Mu} {α α0 : List Addr} {F H F0 H0 Hz : Hp} {J : It} {D : Addr} {vs : List V} {acc : Cell} {Nx : Hp → Prop} (r : Rep X.K α F μ H) (re : RepE X.K α F ρ σ) (x0 : Ext α0 F0 H0 α F H) (hD0 : Fr H0 D) (j : JOk X.K α F H J i)
    (h1 : H D = some (.lst vs)) (f1 : F D = none) (n1 : D ∉ α) (d1 : DqAll X.K F vs acc)
    (q : gp X.K X.mg α0 F0 H0 ((loopC i t c e (wipeR ρ os) i.xs acc μ).bind kk) (Gl' X.K Hz Q) E)
    (hk : ∀ H', AccAt X α0 F0 H0 Hz D kk Q E α F H' → Nx H') :
    ∃ V : Nat → Nat → Hp → Prop, (∃ m, V 0 m H) ∧ ∀ n m H, V n m H →
      (J.stop n H ∧ Nx H) ∨ (J.go n H ∧ ∃ Nx1 : Hp → Prop, (∀ H', Nx1 H' → ∃ m', m' < m ∧ V (n + 1) m' H') ∧ ∀ x H', J.yld n H x H' → tGw X.K X.mg os t x (L2.wipe σ os) H' fun σ2 H2 => L2.wipe σ2 os = L2.wipe σ os ∧ tT X.K X.mg (fun _ _ _ _ => False) c σ2 H2 fun b H3 =>
        if b = true then tE X.K X.mg (fun _ _ _ _ => False) e σ2 H3 fun y H4 => ∃ acc, H4 D = some (.lst acc) ∧ acc.length < sizeLine ∧ Nx1 (upd H4 D (.lst (acc ++ [y]))) else Nx1 H3) := by
  refine ⟨fun n m H' => m + n = i.xs.length ∧ AccAt X α0 F0 H0 Hz D (fun acc μ => (loopC i t c e (wipeR ρ os) (i.xs.drop n) acc μ).bind kk) Q E α F H', ⟨i.xs.length, rfl, ⟨μ, α, F, acc, vs, r, Ext.refl (H := H) |>.w, x0, h1, f1, n1, d1, q⟩⟩, ?_⟩
  rintro n m H1 ⟨hm, ⟨μ1, α1, F1, acc, vs, r1, x1, y1, h1, f1, n1, d1, q1⟩⟩
  by_cases hn : n < i.xs.length
  · rw [List.drop_eq_getElem_cons hn] at q1
    unfold loopC at q1
    split at q1
    · rename_i ht
      obtain ⟨jg, js, jy⟩ := j.at_ α1 F1 μ1 H1 r1 x1 ht
      refine .inr ⟨jg n hn, fun H' => AccAt X α0 F0 H0 Hz D (fun acc μ => (loopC i t c e (wipeR ρ os) (i.xs.drop (n + 1)) acc μ).bind kk) Q E α F H', fun H' nx => ⟨m - 1, by omega, by omega, nx⟩, fun x H2 hy => ?_⟩
      obtain ⟨F2, r2, x2, d2⟩ := jy n i.xs[n] x H2 (List.getElem?_eq_getElem hn) hy
      have re2 : RepE X.K α1 F2 (wipeR ρ os) (L2.wipe σ os) := ((re.wipe os).extW x1).ext x2
      rw [Out.bind_assoc] at q1
      refine ⟨wipeR ρ os, μ1, α1, F2, .d i.xs[n], r2, re2, d2, ((q1.keep (y1.trans x2)).calm (X' := fun _ _ _ => False)).mono fun ρ3 μ3 α3 F3 H3 x3 r3 q3 σ3 re3 e3 => ?_⟩
      have x13 := (x1.trans x2.w).trans x3.w
      have y13 := (y1.trans x2).trans x3
      rw [Out.bind_assoc] at q3
      refine ⟨e3.trans (wipe_twice σ os), ρ3, μ3, α3, F3, r3, re3, ((q3.keep y13).calm (X' := fun _ _ _ => False)).mono fun b μ4 α4 F4 H4 x4 r4 q4 => ?_⟩
      have x14 := x13.trans x4.w
      have y14 := y13.trans x4
      have x24 := (x2.trans x3).trans x4
      obtain ⟨g1, g2, g3⟩ := away x24 h1 f1 n1
      have d4 := d1.mono x24.fro
      cases b with
      | false => exact ⟨μ4, α4, F4, acc, vs, r4, x14, y14, g1, g2, g3, d4, q4⟩
      | true =>
        have q4 : gp X.K X.mg α0 F0 H0 ((((calm (e ρ3 μ4)).bind (lcPut acc)).bind fun acc' μ3 => loopC i t c e (wipeR ρ os) (i.xs.drop (n + 1)) acc' μ3).bind kk) (Gl' X.K Hz Q) E := q4
        rw [Out.bind_assoc, Out.bind_assoc] at q4
        refine ⟨ρ3, μ4, α4, F4, r4, re3.ext x4, ((gp.keep q4 y14).calm (X' := fun _ _ _ => False)).mono fun w μ5 α5 F5 H5 x5 r5 q5 v rv => ?_⟩
        obtain ⟨k1, k2, k3⟩ := away x5 g1 g2 g3
        unfold lcPut at q5
        split at q5
        · rename_i y
          split at q5
          · rename_i hl
            have d5 := d4.mono x5.fro
            exact ⟨vs, k1, by rw [d5.length, sizeLine_eq]; exact hl, ⟨μ5, α5, F5, acc ++ [y], vs ++ [v], r5.poke k2 k3 (by rw [k1]; exact fun _ z => nomatch z), x14.trans x5.w, (y14.trans x5).poke hD0, upd_same, k2, k3, d5.append (.cons rv .nil), q5⟩⟩
          · exact q5.elim
        · exact q5.elim
    · exact q1.elim
  · have hn' : i.xs.length ≤ n := Nat.le_of_not_lt hn
    rw [List.drop_eq_nil_of_le hn'] at q1
    unfold loopC at q1
    split at q1
    · rename_i ht
      obtain ⟨jg, js, jy⟩ := j.at_ α1 F1 μ1 H1 r1 x1 ht
      exact .inl ⟨js n hn', hk H1 ⟨μ1, α1, F1, acc, vs, r1, x1, y1, h1, f1, n1, d1, q1⟩⟩
    · exact q1.elim
theorem lc2_read {fi fi1 : Iv} {t t1 : Gv} {c c1 : Bv} {e : Ev} {os os1 : List Nat} {σ : St} {H : Hp} {Q : VK} (h : tL X.K X.mg W (lLc2 fi t c fi1 t1 c1 e os os1) σ H Q) :
    tLc2 (tI X.K X.mg W fi) (tGw X.K X.mg os t) (tT X.K X.mg W0 c) (tI X.K X.mg W0 fi1) (tGw X.K X.mg os1 t1) (tT X.K X.mg W0 c1) (tE X.K X.mg W0 e) os os1 σ H Q := by
  obtain ⟨ρ, μ, α, F, r, re, q⟩ := h
  have q' := gp.bind0 q
  refine ⟨ρ, μ, α, F, r, re, ?_⟩
  refine (show gp X.K X.mg α F H (fi ρ μ) _ _ from q').mono fun i μ1 α1 F1 H1 x1 r1 q1 J j => ?_
  intro D hD
  have q1 := q1.base x1
  have re := re.ext x1
  have hz := x1.keep
  have fp : F1 D = none := r1.sub.free hD
  have na : D ∉ α1 := fun m => r1.had D m (.of hD)
  obtain ⟨rs, xs⟩ := r1.side (o := .lst []) hD
  let f : Rho → Cell → Mu → Out Cell := fun ρ1 acc μ2 => (calm (fi1 ρ1 μ2)).bind fun i1 μ3 => loopC i1 t1 c1 e (wipeR ρ1 os1) i1.xs acc μ3
  refine ⟨fun n m H' => m + n = i.xs.length ∧ AccAt X α1 F1 H1 H D (fun acc μ => loopD i t c f (wipeR ρ os) (i.xs.drop n) acc μ) Q (fun c d H' => W c d σ H') α1 F1 H', ⟨i.xs.length, rfl, ⟨μ1, α1, F1, [], [], rs, Ext.refl (H := H1) |>.w, xs, upd_same, fp, na, .nil, q1⟩⟩, ?_⟩
  rintro n m H2 ⟨hm, ⟨μ2, α2, F2, acc, vs, r2, x2, y2, h2, f2, n2, d2, q2⟩⟩
  by_cases hn : n < i.xs.length
  · rw [List.drop_eq_getElem_cons hn] at q2
    unfold loopD at q2
    split at q2
    · rename_i ht
      obtain ⟨jg, js, jy⟩ := j.at_ α2 F2 μ2 H2 r2 x2 ht
      refine .inr ⟨jg n hn, AccAt X α1 F1 H1 H D (fun acc μ => loopD i t c f (wipeR ρ os) (i.xs.drop (n + 1)) acc μ) Q (fun c d H' => W c d σ H') α1 F1, fun H' nx => ⟨m - 1, by omega, by omega, nx⟩, fun x H3 hy => ?_⟩
      obtain ⟨F3, r3, x3, d3⟩ := jy n i.xs[n] x H3 (List.getElem?_eq_getElem hn) hy
      have re3 : RepE X.K α2 F3 (wipeR ρ os) (L2.wipe σ os) := ((re.wipe os).extW x2).ext x3
      refine ⟨wipeR ρ os, μ2, α2, F3, .d i.xs[n], r3, re3, d3, ((q2.keep (y2.trans x3)).calm (X' := fun _ _ _ => False)).mono fun ρ4 μ4 α4 F4 H4 x4 r4 q4 σ4 re4 e4 => ?_⟩
      have y14 := (y2.trans x3).trans x4
      refine ⟨e4.trans (wipe_twice σ os), ρ4, μ4, α4, F4, r4, re4, ((q4.keep y14).calm (X' := fun _ _ _ => False)).mono fun b μ5 α5 F5 H5 x5 r5 q5 => ?_⟩
      have y15 := y14.trans x5
      have x15 := (((x2.trans x3.w).trans x4.w).trans x5.w)
      obtain ⟨g1, g2, g3⟩ := away ((x3.trans x4).trans x5) h2 f2 n2
      have d5 := d2.mono ((x3.trans x4).trans x5).fro
      cases b with
      | false => exact ⟨μ5, α5, F5, acc, vs, r5, x15, y15, g1, g2, g3, d5, q5⟩
      | true =>
        have q5 : gp X.K X.mg α1 F1 H1 ((f ρ4 acc μ5).bind fun acc' μ3 => loopD i t c f (wipeR ρ os) (i.xs.drop (n + 1)) acc' μ3) (Gl' X.K H Q) (fun c d H' => W c d σ H') := q5
        have q6 : gp X.K X.mg α1 F1 H1 ((calm (fi1 ρ4 μ5)).bind fun i1 μ3 => (loopC i1 t1 c1 e (wipeR ρ4 os1) i1.xs acc μ3).bind fun acc' μ3 => loopD i t c f (wipeR ρ os) (i.xs.drop (n + 1)) acc' μ3) (Gl' X.K H Q) (fun c d H' => W c d σ H') := by
          rw [← Out.bind_assoc]
          exact q5
        refine ⟨ρ4, μ5, α5, F5, r5, re4.ext x5, ((q6.keep y15).calm (X' := fun _ _ _ => False)).mono fun i1 μ6 α6 F6 H6 x6 r6 q7 J1 j1 => ?_⟩
        obtain ⟨k1, k2, k3⟩ := away x6 g1 g2 g3
        refine lc_in (Nx := AccAt X α1 F1 H1 H D (fun acc μ => loopD i t c f (wipeR ρ os) (i.xs.drop (n + 1)) acc μ) Q (fun c d H' => W c d σ H') α1 F1) r6 ((re4.ext x5).ext x6) (y15.trans x6) (.of hD) j1 k1 k2 k3 (d5.mono x6.fro) q7 fun H' ⟨μ', α', F', acc', vs', z1, z2, z3, z4, z5, z6, z7, z8⟩ => ?_
        exact ⟨μ', α', F', acc', vs', z1, (x15.trans x6.w).trans z2, z3, z4, z5, z6, z7, z8⟩
    · exact q2.elim
  · have hn' : i.xs.length ≤ n := Nat.le_of_not_lt hn
    rw [List.drop_eq_nil_of_le hn'] at q2
    unfold loopD at q2
    split at q2
    · rename_i ht
      obtain ⟨jg, js, jy⟩ := j.at_ α2 F2 μ2 H2 r2 x2 ht
      refine .inl ⟨js n hn', ?_⟩
      have : Fr H D := hz D (.of hD)
      exact (gp.at q2 y2 r2) D vs this h2 f2 n2 d2
    · exact q2.elim
theorem xLc2 {elt tg iter tg1 iter1 : Expr} {ifs ifs1 : List Expr} {scope : Scope} {pos : Pos} {fi fi1 : Iv} {t t1 : Gv} {c c1 : Bv} {v : Ev} (own : List (Str × Nat)) (os1 : List Nat) (hc : X.calm = true) (hN : X.N.Nodup) (hi : SI X W tg iter fi)
    (hg : ∀ s H C cl fp, SGw (Bk X scope s H C cl fp) (own.map (·.2)) tg t) (ht : ∀ s H C cl fp, STs (Bk X scope s H C cl fp) W0 ifs c) (hi1 : ∀ s H C cl fp, SI (Bk X scope s H C cl fp) W0 tg1 iter1 fi1)
    (hg1 : ∀ s H C cl fp, SGw (Bk X scope s H C cl fp) os1 tg1 t1) (ht1 : ∀ s H C cl fp, STs (Bk X scope s H C cl fp) W0 ifs1 c1) (he : ∀ s H C cl fp, SE (Bk X scope s H C cl fp) W0 elt v)
    (hv : ∀ i ∈ os1, i ∈ own.map (·.2) := by decide) (ok : BlkOk X.N X.env.scope scope own := by exact blkOk_by (by decide +kernel)) (hs : ∀ x, foldedSetIterable iter X.env x = pure x := by intro _; rfl) (hs1 : ∀ env x, foldedSetIterable iter1 env x = pure x := by intro _ _; rfl) :
    SL X W (.ListComp elt [⟨tg, iter, ifs, 0⟩, ⟨tg1, iter1, ifs1, 0⟩] scope pos) (lLc2 fi t c fi1 t1 c1 v (own.map (·.2)) os1) :=
  (pe_lc2 (g := tGw X.K X.mg (own.map (·.2)) t) (tt := tT X.K X.mg W0 c) (g1 := tGw X.K X.mg os1 t1) (tt1 := tT X.K X.mg W0 c1) (te := tE X.K X.mg W0 v) hc hN hi ok hv hg ht hi1 hg1 ht1 he hs hs1).imp fun σ H Q h => lc2_read h
end
end TL
/-! TL25: try with two clauses that name what they catch. -/
namespace TL
open PySem PySem.Spec L2 PyProof.Rows RZ LamX
section
variable {X : Cx} {x1 x2 n : Str} {c1 c2 : Value} {i : Nat} {body su1 su2 : List Stmt} {s1 s2 : Stmt} {w1 w2 v1 v2 pos : Pos} {tb : WX → TS} {ts1 ts2 : Addr → Value → Option Addr → TS}
abbrev Suite (X : Cx) (sts : List Stmt) (ts : Addr → Value → Option Addr → TS) : Prop := ∀ (a : Addr) (oe : Obj) (cls : Value) (d : Option Addr) (pn : List (Addr × Obj)), Zc cls d oe → (∃ vs, oe.data = .fields vs) → PSs (X.suite a ((a, oe) :: pn)) sts (ts a cls d)
theorem try_two (stk : X.stack = X.env :: X.outer) (frm : X.env.frame = some X.env.locals) (nod : X.N.Nodup) (hi : X.N[i]? = some n) (loc : X.env.kindOf n = some .local) (nm1 : Names X x1 c1) (nm2 : Names X x2 c2)
    (run : ∀ (W : WX) (pn : List (Addr × Obj)) (xe : Value → Shared → Prop), Takes (X.tr pn xe) W → PassesOwn (model X.prog X.w) X.A X.env xe → PSs (X.tr pn xe) body (tb W))
    (do1 : Suite X (s1 :: su1) ts1) (do2 : Suite X (s2 :: su2) ts2) :
    PS X (.Try body [.ExceptHandler (some (.Name x1 w1)) (some n) (s1 :: su1) v1, .ExceptHandler (some (.Name x2 w2)) (some n) (s2 :: su2) v2] [] [] pos) (fun D σ H => tb (wAs X.K c1 i ts1 (wAs X.K c2 i ts2 (fun _ _ _ _ => False) D) D) D σ H) := by
  refine ⟨fun pins s σ H D I wish => ?_⟩
  have good := I.ok
  have frames : X.A.frames = some (X.env :: X.outer) := by rw [good.frames, stk]
  have locn : Loc X.env.scope n := .inl loc
  refine wpAny_Try_except ?_
  refine wpAny_mono ((run (wAs X.K c1 i ts1 (wAs X.K c2 i ts2 (fun _ _ _ _ => False) D) D) (X.pn ++ pins) (fun er t0 => wpAny (model X.prog X.w) X.A (noteFrame er X.env) (fun _ t1 => wpAny (model X.prog X.w) X.A (setFlight er none) (fun _ t2 => wpAny (model X.prog X.w) X.A (handleBy er X.env [.ExceptHandler (some (.Name x1 w1)) (some n) (s1 :: su1) v1, .ExceptHandler (some (.Name x2 w2)) (some n) (s2 :: su2) v2]) (SP X pins D) X.xe t2) X.xe t1) X.xe t0)
    (fun er t0 flies => ?_) PassesOwn.looking).run [] s σ H D (I.toTry _) wish) (fun fl t0 ends => ?_) (fun er t0 z => z)
  · obtain ⟨a, B, sI, pins', τ, G, cls, d, rfl, inner, nb, up, sky, na, os, ag, q⟩ := flies
    have outer : Inv X pins τ G sI := inner.ofTry good
    show wpAny (model X.prog X.w) X.A (noteFrame (.ref a) X.env) _ _ _
    refine Sky.land Zc.steady frames frm (by rw [← stk]; exact sky) fun hA flA upA => ?_
    have JA : Inv X pins τ G { t0 with heap := hA } := outer.landed nb flA.1 (up.trans upA) os ag
    obtain ⟨oA, uA, eA, zA, dA⟩ := flA.there
    have away : a ∉ frs (X.env :: X.outer) := fun hm => by
      obtain ⟨_, o', e', nof⟩ := flA.2.2.1.mem hm
      rw [eA] at e'
      cases e'
      exact nof _ dA
    have awayL : a ≠ X.env.locals := fun z => away (List.mem_filterMap.mpr ⟨X.env, List.mem_cons_self, (by rw [frm, z])⟩)
    have awayF : a ∉ X.fs := fun hm => let ⟨e0, m0, q0⟩ := List.mem_filterMap.mp hm; away (List.mem_filterMap.mpr ⟨e0, List.mem_cons_of_mem _ m0, q0⟩)
    have inA := JA.suite eA dA na awayL awayF
    -- one clause, the others told
    have clause : ∀ {x : Str} {c : Value} {ts : Addr → Value → Option Addr → TS} {b0 : Stmt} {bs : List Stmt} {np vp : Pos} {more : List ExceptHandler} {Wr : WX}, Names X x c → Suite X (b0 :: bs) ts → wAs X.K c i ts Wr D cls d τ G →
        (Wr cls d τ G → wpAny (model X.prog X.w) X.A (handleBy (.ref a) X.env more) (SP X pins D) X.xe { t0 with heap := hA }) →
        wpAny (model X.prog X.w) X.A (handleBy (.ref a) X.env (.ExceptHandler (some (.Name x np)) (some n) (b0 :: bs) vp :: more)) (SP X pins D) X.xe { t0 with heap := hA } := by
      intro x c ts b0 bs np vp more Wr nm dos q go
      obtain ⟨b, tells, yes, no⟩ := q
      refine wpAny_handleBy_cons (codeAny_handlers_test ?_) (by intro z; cases z)
      have isA : PySem.W.Looks (model X.prog X.w) hA (typeOf (.ref a)) cls := fun A Q E s k q => wpAny_typeOf_ref (k _ _ eA) (by rw [zA.1]; exact q)
      have fits := PySem.W.exm_one (M := model X.prog X.w) JA.kIn isA tells
      have look : ∀ {Q E : Value → Shared → Prop}, Q c { t0 with heap := hA } → wpAny (model X.prog X.w) (X.A.mark (some (.ref a))) (eval (.Name x np) X.env) Q E { t0 with heap := hA } := fun {Q E} q => by
        obtain ⟨hg, nodbg, hm | ⟨hm, hv, hn⟩⟩ := nm
        · exact ld_glob (X := X.suite a ((a, oA) :: (X.pn ++ pins))) inA hg hm q nodbg
        · exact ld_blt (X := X.suite a ((a, oA) :: (X.pn ++ pins))) inA hg hm hv q hn nodbg
      refine look (fits.here ?_)
      cases b with
      | false =>
        show wpAny _ X.A (handleBy (.ref a) X.env more) _ _ _
        exact go (no rfl)
      | true =>
        refine codeAny_handlers_suite_as (HandSPX.lands_againZ flA fun hB flB upB => ?_)
        have JB : Inv X pins τ G { t0 with heap := hB } := outer.landed nb flB.1 ((up.trans upA).trans upB) os ag
        obtain ⟨oB, uB, eB, zB, dB⟩ := flB.there
        refine store_ok (X := X.suite a ((a, oB) :: (X.pn ++ pins))) (v := .ref a) (JB.suite eB dB na awayL awayF) nod hi locn rfl (fun tC JC => ?_) (.inr loc)
        refine wpAny_mono ((dos a oB cls d (X.pn ++ pins) zB ⟨_, dB⟩).run [] tC _ G _ JC (yes rfl a na)) (fun fl tD ends => ?_) (fun _ _ z => z.elim)
        have unbound : ∀ {τ1 : St} {G1 : Hp} {Q : Shared → Prop}, Inv (X.suite a ((a, oB) :: (X.pn ++ pins))) [] τ1 G1 tD → (∀ tE, Inv X pins (τ1.set i none) G1 tE → Q tE) → wpAny (model X.prog X.w) X.A (do bindName X.env n .none; unbindBehindTheSuite X.env n vp) (fun _ tE => Q tE) X.xe tD := fun JD hq => gone_ok (JD.unsuite good) nod hi loc hq
        cases fl with
        | next => exact let ⟨_, _, JD, q1⟩ := ends; unbound JD fun tE JE => ⟨_, _, JE, q1⟩
        | brk => exact let ⟨_, _, JD, q1⟩ := ends; unbound JD fun tE JE => ⟨_, _, JE, q1⟩
        | cont => exact let ⟨_, _, JD, q1⟩ := ends; unbound JD fun tE JE => ⟨_, _, JE, q1⟩
        | ret u => exact let ⟨_, _, _, JD, r1, q1⟩ := ends; unbound JD fun tE JE => ⟨_, _, _, JE, r1, q1⟩
    exact clause nm1 do1 q fun q2 => clause nm2 do2 q2 fun z => z.elim
  · cases fl with
    | next => exact let ⟨τ, G, J, q⟩ := ends; wpAny_execs_nil ⟨τ, G, J.ofTry good, q⟩
    | brk => exact let ⟨τ, G, J, q⟩ := ends; ⟨τ, G, J.ofTry good, q⟩
    | cont => exact let ⟨τ, G, J, q⟩ := ends; ⟨τ, G, J.ofTry good, q⟩
    | ret u => exact let ⟨v, τ, G, J, r, q⟩ := ends; ⟨v, τ, G, J.ofTry good, r, q⟩
end
end TL
/-! the error class BadText with the field spot -/
namespace PySem
namespace LowX_BadText
open PySem.W PySem.Calls PyProof.Rows PySem.HandSPX
/-! ### the text of __init__ -/
def iA (p1 p2 : Pos) : Arguments := { posonlyargs := [], args := [{ arg := "self", annotation := none, pos := p1 }, { arg := "spot", annotation := none, pos := p2 }], vararg := none, kwonlyargs := [], kw_defaults := [], kwarg := none, defaults := [] }
def iB (q1 q2 q3 q4 : Pos) : List Stmt := [.Assign [.Attribute (.Name "self" q1) "spot" q2] (.Name "spot" q3) q4]
def iS : Scope := { kind := .function, names := [(PySem.Str.ofString "self", .local), (PySem.Str.ofString "spot", .local)], isGenerator := false, isCoroutine := false, more := [] }
/-- what the written part says of Low, at C, and of its __init__, at fI -/
structure LowTxt (K : Frag) (mg : Str → Option Value) (C fI : Addr) : Prop where
  gC : mg "BadText" = some (.ref C)
  cls : ∃ nm q N bs bm sn sub ab col dd k0 k1 k2 k3 k5, K.lookup C = some (excClassObj nm q C N bs bm true sn sub ab col dd k0 k1 k2 k3 k5 "ValueError.__new__") ∧ refsVE bm = true
  sa : findIn K (.ref C) "__setattr__" = some (some (.builtin "object.__setattr__"))
  ga : findIn K (.ref C) "__getattribute__" = some (some (.builtin "BaseException.__getattribute__"))
  gg : findIn K (.ref C) "__getattr__" = some none
  noN : findIn K (.ref C) "spot" = some none
  iC : findIn K (.ref C) "__init__" = some (some (.ref fI))
  tC : typeIn K (.ref fI) = some (.type "function")
  kC : keepIn K (.ref C) = true
  exC : subIn K (.ref C) (.type "BaseException") = some true
  tyC : typeIn K (.ref C) = some (.type "type")
  hdC : hasDictIn K C = true
  te : exmOne K (.ref C) (.ref C) = some true
  fn : ∃ (oc : Value) (od : Option Addr) (doc pm : Value) (an : Option Addr) (cdv ct : Value) (osl : Array (Option Value)) (p1 p2 q1 q2 q3 q4 : Pos),
    K.lookup fI = some ⟨oc, od, .func (fnOf "__init__" "BadText.__init__" (iA p1 p2) (iB q1 q2 q3 q4) iS .none .none doc pm an cdv ct), osl⟩ ∧ codeIn K cdv "BadText.__init__" = true
theorem one_size (v : Value) : [v].length ≤ sizeLine := by
  rw [sizeLine_eq]
  exact (by decide : 1 ≤ 16777216)
theorem kept_but {K : Frag} {h h' : Heap} {x : Addr} (X : K.In h) (hx : K.lookup x = none) (k : ∀ b o, b ≠ x → h.get? b = some o → h'.get? b = some o) : K.In h' := fun a o e =>
  k a o (fun z => by rw [z, hx] at e; cases e) (X a o e)
theorem ldC {M : Model} {s : Shared} {name : Str} {scope : Scope} {L a : Addr} {cd : Value} {m : Str → Option Value} {x : Str} {pos : Pos} {v : Value} {Q : Value → Shared → Prop} {A : Around} {E : Value → Shared → Prop} (hn : s.heap.Ns L m) (hv : m x = some v) (h : Q v s)
    (hk : scope.kind = .function := by rfl) (hl : (envOfC name scope L a cd).kindOf x = some .local := by rfl) (hd : (x == ("__debug__" : Str)) = false := by decide) :
    wpAny M A (eval (.Name x pos) (envOfC name scope L a cd)) Q E s := wpAny_Name (wpAny_loadName_local hk hl hn hv h) hd
/-- what __init__ leaves of a fresh exception at x -/
structure InitEnd (h h' : Heap) (x C dx t1 : Addr) (v : Value) : Prop where
  keep : ∀ b o, b ≠ x → h.get? b = some o → h'.get? b = some o
  obj : h'.get? x = some { cls := .ref C, dict := some dx, data := .fields #[.ref t1, .none, .none, .none, .bool false, .none] }
  dbig : h.objs.size ≤ dx
  dne : dx ≠ x
  ns : h'.Ns1 dx (fun y => if y = "spot" then some v else none)
/-- a made Low -/
structure OwnMade (h h' : Heap) (e C d : Addr) (v : Value) : Prop where
  keep : ∀ b o, h.get? b = some o → h'.get? b = some o
  new : h.objs.size ≤ e
  obj : ∃ oe vs, h'.get? e = some oe ∧ oe.cls = .ref C ∧ oe.dict = some d ∧ oe.data = .fields vs ∧ vs[1]? = some .none
  dbig : h.objs.size ≤ d
  dne : d ≠ e
  ns : h'.Ns1 d (fun y => if y = "spot" then some v else none)
section
variable {prog : Program} {w : World} {A : Around} {E : Value → Shared → Prop} {R : Result → Shared → Prop} {s : Shared} {K : Frag} {mg : Str → Option Value} {C fI : Addr}
theorem low_init (T : LowTxt K mg C fI) {x t0 : Addr} {v : Value} (X : K.In s.heap) (hlim : s.heap.NoLimit) (hx : s.heap.get? x = some (excO C t0)) (hnx : K.lookup x = none) (hroom : A.depth < recursionLimit)
    (hq : ∀ h' tk dx, InitEnd s.heap h' x C dx t0 v → R (.ok (.ret .none)) { s with heap := h', toks := tk }) :
    codeAny (model prog w) A (.call (.ref fI) ⟨[.ref x, v], []⟩) R s := by
  obtain ⟨oc, od, doc, pm, an, cdv, ct, osl, p1, p2, q1, q2, q3, q4, ho, hcd⟩ := T.fn
  obtain ⟨nm, q, N, bs, bm, sn, sub, ab, col, dd, k0, k1, k2, k3, k5, hC, hbm⟩ := T.cls
  have hcl : clsIn K C = some { name := nm, bases := bs, mro := .ref C :: bm, ns := N, qualname := q, hasDict := true, slotNames := sn, subclasses := sub, abstract := ab, collection := col, hasDel := false } := by unfold clsIn; rw [hC] <;> rfl
  refine Att.call_fn (binds := [("self", .ref x), ("spot", v)]) X hlim ho hcd hroom (BindsTo.of_eq (by first | rfl | with_unfolding_all rfl)) (by first | rfl | decide | with_unfolding_all rfl) (fun s₁ IC => ?_) rfl rfl rfl
  obtain ⟨h₁, tk₁, rfl⟩ := IC.toInCall.same
  have k : ∀ b o, s.heap.get? b = some o → h₁.get? b = some o := IC.toInCall.keep
  have hn := IC.toInCall.ns
  have hxL : s.heap.objs.size ≠ x := Nat.ne_of_gt (Heap.lt_size hx)
  have X₁ : K.In h₁ := X.keeps k
  have hx₁ := k _ _ hx
  -- self.by = by
  show wpAny _ _ (execs _ _) _ _ _
  refine wpAny_execs_cons (plainObj_wpAny_Assign_Attribute ?_)
  refine ldC (v := v) hn (by first | rfl | with_unfolding_all rfl | kernel_rfl) (ldC (v := .ref x) hn (by first | rfl | with_unfolding_all rfl | kernel_rfl) ?_)
  refine set_plain X₁ (ox := excO C t0) (od := none) ⟨hx₁, rfl, rfl, trivial⟩ T.sa ?_
  refine exc_osa X₁ hx₁ hcl (show refsVE (.ref C :: bm) = true from hbm) rfl T.noN (fun h₃ tk₃ dx k₃ dn dne hx₃ hn₃ => ?_)
  show wpAny _ _ (execs _ _) _ _ _
  have z : s.heap.objs.size < h₁.objs.size := hn.lt
  exact wpAny_execs_nil (hq h₃ tk₃ dx ⟨fun b o hb e => k₃ b o hb (k b o e), hx₃, Nat.le_of_lt (Nat.lt_of_lt_of_le z dn), dne, hn₃⟩)
theorem low_made (T : LowTxt K mg C fI) {v : Value} (X : K.In s.heap) (hlim : s.heap.NoLimit) (hroom : A.depth + 1 < recursionLimit)
    (hq : ∀ h' tk e d, OwnMade s.heap h' e C d v → R (.ok (.ret (.ref e))) { s with heap := h', toks := tk }) :
    codeAny (model prog w) A (.call (.ref C) ⟨[v], []⟩) R s := by
  obtain ⟨nm, q, N, bs, bm, sn, sub, ab, col, dd, k0, k1, k2, k3, k5, hC, hbm⟩ := T.cls
  obtain ⟨hp, g, dr, tk, os⟩ := s
  have k : ∀ b o, hp.get? b = some o → ((hp.push (kdv_tup [v])).push (excO C hp.objs.size)).get? b = some o := fun b o e => Heap.get?_push_of_some _ (Heap.get?_push_of_some _ e)
  have hget : ((hp.push (kdv_tup [v])).push (excO C hp.objs.size)).get? (hp.objs.size + 1) = some (excO C hp.objs.size) := by heap_get
  have hnx : K.lookup (hp.objs.size + 1) = none := by
    cases e : K.lookup (hp.objs.size + 1) with
    | none => rfl
    | some o =>
      have z : hp.get? (hp.objs.size + 1) = some o := X _ _ e
      exact absurd (Nat.lt_of_succ_lt (Heap.lt_size z)) (Nat.lt_irrefl _)
  refine call_own F.excBase_ValueError (fun X => refsVE_contains X bm hbm) (X _ _ hC) (looks_findIn X T.iC) (fun self => bind_fn X self T.tC) (one_size v) ?_
  refine low_init (s := ⟨(hp.push (kdv_tup [v])).push (excO C hp.objs.size), g, dr, tk, os⟩) T (X.keeps k) (hlim.keeps k) hget hnx ?_ fun h' tk' dx ⟨k', hx, dn, dne, hns⟩ => ?_
  · show A.depth + 1 < recursionLimit
    exact hroom
  · have old : ∀ b o, hp.get? b = some o → h'.get? b = some o := fun b o e => k' b o (Nat.ne_of_lt (Nat.lt_succ_of_lt (Heap.lt_size e))) (k b o e)
    have z : hp.objs.size + 1 + 1 ≤ dx := by
      first
        | (simpa only [Heap.size_push] using dn)
        | exact dn
        | (have q := dn; rw [Heap.size_push, Heap.size_push] at q; exact q)
    exact ⟨rfl, hq h' tk' (hp.objs.size + 1) dx ⟨old, Nat.le_succ _, ⟨_, _, hx, rfl, rfl, rfl, rfl⟩, Nat.le_trans (Nat.le_trans (Nat.le_succ _) (Nat.le_succ _)) z, dne, hns⟩⟩
end
end LowX_BadText
end PySem
namespace L2
open PySem PySem.Spec PyProof.Rows
theorem relO_low_BadText {v : V} {v' : Value} (r : RelV v v') (f : Str) : RelO (List.lookup f [(("spot" : Str), v)]) (if f = "spot" then some v' else none) := by
  by_cases hw : f = "spot"
  · subst hw
    rw [if_pos rfl]
    have q : List.lookup ("spot" : Str) [(("spot" : Str), v)] = some v := by simp [List.lookup]
    rw [q]
    exact r
  · rw [if_neg hw]
    have qw : (f == ("spot" : Str)) = false := by simpa using hw
    have q2 : List.lookup f [(("spot" : Str), v)] = none := by simp [List.lookup, qw]
    rw [q2]
    trivial
section
variable {X : Cx} {C fI : Addr}
/-- Low(e) -/
def tMkLow_BadText (C : Addr) (ta : TA) : St → Hp → XK → Prop := fun σ H Q => ta σ H fun vs H1 => ∃ v, vs = [v] ∧ ∀ d, H1 d = none → Q (.ref C) (some d) (upd H1 d (.xd [(("spot" : Str), v)]))
theorem pmk_low_BadText {a : Expr} {ta : TA} {p pos : Pos} {k : Nat} (T : PySem.LowX_BadText.LowTxt X.K X.mg C fI) (hr : Room k X.A) (ha : PA X [a] ta) (hg : Gl X "BadText" := by rfl)
    (he : starEach (a :: []) X.env = (false, eval a X.env) :: starEach [] X.env := by rfl) (hpl : (backTo pos (starEach [] X.env)).any (·.1) = false := by rfl) :
    PMk X (.Call (.Name "BadText" p) [a] [] pos) (tMkLow_BadText C ta) := by
  intro pins s σ H Q I h
  refine wpAny_Call_Name_kw (ld_glob I hg T.gC ?_)
  refine PySem.W.callWith_K (h₀ := X.base) I.ok.mod.kin T.kC (thn (ha.run pos pins s σ H _ I h) fun us s1 hh => ?_) he hpl
  obtain ⟨vs, H1, I1, r1, v, ev, q1⟩ := hh
  subst ev
  refine ⟨I1.kIn, ?_⟩
  cases r1 with
  | cons rv rn =>
    rename_i v' us'
    cases rn
    show wpAny _ _ (call (.ref C) [v']) _ _ _
    have hlim := I1.nolimit
    obtain ⟨hp, g, dr, tk, os⟩ := s1
    refine wpAny_call (PySem.LowX_BadText.low_made T I1.kIn hlim (by have := hr.dp; omega) fun h' tk' e d M => ?_)
    show MkP X pins σ Q (.ref e) ⟨h', g, dr, tk', os⟩
    obtain ⟨oe, fv, hoe, hc, hd, hdat, h1⟩ := M.obj
    have hns := M.ns
    obtain ⟨G', g1, g2⟩ := restrict h' fun b => decide (b ≠ e)
    have gk : ∀ b, b ≠ e → G'.get? b = h'.get? b := fun b hb => g1 b (decide_eq_true hb)
    have ge : G'.get? e = none := g2 e (by simp)
    have old : ∀ b o, hp.get? b = some o → G'.get? b = some o := fun b o q => (gk b (Nat.ne_of_lt (Nat.lt_of_lt_of_le (Heap.lt_size q) M.new))).trans (M.keep b o q)
    have ob : ObjOk X.prog X.w (upd H1 d (.xd [(("spot" : Str), v)])) G' d (.xd [(("spot" : Str), v)]) :=
      ⟨_, hns.at (fun o q => (gk d M.dne).trans q), fun f => relO_low_BadText rv f⟩
    have J : Inv X pins σ (upd H1 d (.xd [(("spot" : Str), v)])) ⟨G', g, dr, tk', os⟩ := I1.laid (t' := tk') old M.dbig ob
    refine ⟨e, oe, fv, ⟨G', g, dr, tk', os⟩, _, .ref C, some d, rfl, J, fun b o q => ?_, ge, hoe, ⟨hc, hd⟩, hdat, h1, ?_, rfl, I1.bare, raises_own T.exC T.tyC, q1 d (I1.hok.fresh M.dbig)⟩
    · by_cases hb : b = e
      · have q' : G'.get? b = some o := q
        rw [hb, ge] at q'; cases q'
      · exact (gk b hb).symm.trans q
    · rw [upd_ne (Ne.symm M.dne)]
      exact I1.hok.fresh M.new
/-- raise Low(e) -/
def tRaiseLow_BadText (C : Addr) (W : WX) (ta : TA) : TS := fun _ σ H => tMkLow_BadText C ta σ H fun cls d H' => W cls d σ H'
theorem ps_raiseLow_BadText {a : Expr} {ta : TA} {W : WX} {p pos pos2 : Pos} {k : Nat} (hc : X.calm = true) (T : PySem.LowX_BadText.LowTxt X.K X.mg C fI) (hr : Room k X.A) (tk : Takes X W) (ha : PA X [a] ta) (hg : Gl X "BadText" := by rfl)
    (he : starEach (a :: []) X.env = (false, eval a X.env) :: starEach [] X.env := by rfl) (hpl : (backTo pos (starEach [] X.env)).any (·.1) = false := by rfl) :
    PS X (.Raise (some (.Call (.Name "BadText" p) [a] [] pos)) none pos2) (tRaiseLow_BadText C W ta) := ps_raise hc tk (pmk_low_BadText T hr ha hg he hpl)
/-- low.by, low the exception that the suite holds (at a; its class cls, its dict d) -/
def tByLow_BadText (C : Addr) (a : Addr) (cls : Value) (d : Option Addr) (te : TE) : TE := fun σ H Q => te σ H fun x H1 => x = .ref a ∧ cls = .ref C ∧ ∃ (dd : Addr) (v : V), d = some dd ∧ H1 dd = some (.xd [(("spot" : Str), v)]) ∧ Q v H1
theorem pe_byLow_BadText {a : Addr} {oe : Obj} {cls : Value} {d : Option Addr} {pn : List (Addr × Obj)} {e : Expr} {te : TE} {pos : Pos} (T : PySem.LowX_BadText.LowTxt X.K X.mg C fI) (hz : Zc cls d oe) (hf : ∃ vs, oe.data = .fields vs) (he : PE (X.suite a ((a, oe) :: pn)) e te)
    (hb : attributeBase e "spot" X.env (eval e X.env) = eval e X.env := by rfl) :
    PE (X.suite a ((a, oe) :: pn)) (.Attribute e "spot" pos) (tByLow_BadText C a cls d te) := by
  refine ⟨fun pins s σ H Q I h => ?_⟩
  refine attr_of hb (thn (he.run pins s σ H _ I h) fun u s1 hh => ?_)
  obtain ⟨x, H1, I1, rx, ex, ec, dd, v, ed, ea, q⟩ := hh
  subst ex
  obtain rfl : u = Value.ref a := rx
  subst ec
  subst ed
  obtain ⟨ha, _⟩ := I1.pin (a, oe) (List.mem_append_left _ List.mem_cons_self)
  obtain ⟨vs, hd⟩ := hf
  have hx : ObjOk X.prog X.w H1 s1.heap dd (.xd [(("spot" : Str), v)]) := I1.hok dd _ ea
  obtain ⟨mA, hns, hr⟩ := hx
  obtain ⟨od, ho, hl⟩ := lookIn_ns hns
  have l : List.lookup ("spot" : Str) [(("spot" : Str), v)] = some v := by simp [List.lookup]
  obtain ⟨u, hu, ru⟩ := RelO.some_of (v := v) (o := mA "spot") (by rw [← l]; exact hr "spot")
  have J : PySem.W.InstAt s1.heap a oe C (some od) := ⟨ha, hz.1, by unfold PySem.W.notCls; rw [hd] <;> rfl, by rw [hz.2]; exact ho⟩
  exact HandSPX.exc_get I1.kIn J T.ga T.gg T.exC (PySem.W.findObj_own T.hdC T.noN rfl (by rw [hl, hu])) (handed_of ru) ⟨v, H1, I1.tok _, ru, q⟩
end
end L2

namespace TL
variable [TabN]
open PySem PySem.Spec L2 PyProof.Rows RZ LamX PySem.LowX_BadText
section
variable {X : Cx} {W : WX} {p pos pos2 : Pos} {a : Expr} {fa : Ev} {C fI : Addr} {k : Nat}
/-- raise BadText(e) -/
theorem xRaise_BadText (T : LowTxt X.K X.mg C fI) (hf : TabN.F "BadText" = [("spot" : Str)]) (hc : X.calm = true) (hr : Room k X.A) (tk : Takes X W) (hg : Gl X "BadText") (ha : SE X W a fa)
    (he : starEach (a :: []) X.env = (false, eval a X.env) :: starEach [] X.env := by rfl) (hpl : (backTo pos (starEach [] X.env)).any (·.1) = false := by rfl) :
    SS X W (.Raise (some (.Call (.Name "BadText" p) [a] [] pos)) none pos2) (sRaise "BadText" (aCons fa aNil)) :=
  ss_raise hc tk (fun ta hta => pmk_low_BadText T hr hta hg he hpl) T.gC hf ha he
/-- told: try: a() / except BadText as n: return [n.spot] / return [] -/
theorem gives_spot_BadText {Ng : List Str} {x a n : Str} {sg : Scope} {g : Addr} {cdg : Value} {q : Str} {p1 p2 p3 p4 p5 p6 p7 p8 p9 pa pb pc : Pos} (T : LowTxt X.K X.mg C fI) (hge : sg.names.lookup ("BadText" : Str) = some .globalImplicit)
    (h0 : ∀ f : Addr, (L2.start Ng [V.ref f])[0]? = some (some (V.ref f))) (hN : Ng.Nodup) (hi : Ng[1]? = some n) (hv : Vis sg n)
    (hkl : ∀ L : Addr, (envOfC x sg L g cdg).kindOf n = some .local) (hdn : (n == ("__debug__" : Str)) = false := by decide) (hcn : (n == ("__classdict__" : Str)) = false := by decide) :
    GivesTo X Ng x sg g cdg [.Try [.Expr (.Call (.Name a p1) [] [] p2) p3] [.ExceptHandler (some (.Name "BadText" p4)) (some n) [.Return (some (.List [.Attribute (.Name n p5) "spot" p6] p7)) p8] p9] [] [] pa, .Return (some (.List [] pb)) pc] a q (TTspot C "spot") := by
  intro f c' s H Q tl act hc h
  have hgl : Gl (cxOf C8.CX0 X.prog X.w X.K X.mg X.base Ng x sg g cdg X.A X.stack s H C8.E0).nox "BadText" := hge
  refine ⟨_, pss_cons (ps_try_as (X := (cxOf C8.CX0 X.prog X.w X.K X.mg X.base Ng x sg g cdg X.A X.stack s H C8.E0).nox) (i := 1) (c := .ref C)
      (tb := fun W D σ H => ∃ Ech : XK, (∀ cls d σ' H', Ech cls d H' → σ'.length = Ng.length → W cls d σ' H') ∧ σ[0]? = some (some (.ref f)) ∧ H c' = some (CodeO c' q) ∧ tl Ech H fun _ H' => D.nx σ H')
      (ts := fun a0 cls d => tRet (tLst (tCons (tByLow_BadText C a0 cls d (tVar 1)) tNil))) (Wout := fun _ _ _ _ => False) rfl rfl hN hi (hkl _) ⟨hgl, by decide, .inl T.gC⟩ L2.takes0 (fun W pn xe tk _ => ?_)
      (fun a0 oe cls d pn hz hf => pss_one (ps_ret (pe_lst (pa_cons (pe_byLow_BadText T hz hf (pe_var (i := 1) hi hv hdn hcn)) pa_nil))))) (pss_one (ps_ret (pe_lst pa_nil))), ?_⟩
  · refine ⟨fun pins s' σ H' D I h' => ?_⟩
    obtain ⟨Ech, hW, h1, h2, h3⟩ := h'
    have hp := act (fun cls d σ H => σ.length = Ng.length → W cls d σ H) pn xe Ech p1 p2 (takes_len tk) hW
    have hq := pss_one (ps_expr (pos := p3) hp)
    exact hq.run pins s' σ H' D I ⟨h1, h2, h3⟩
  · refine ⟨fun cls d H' => cls = .ref C ∧ ∃ (dd : Addr) (v : V), d = some dd ∧ H' dd = some (.xd [("spot", v)]) ∧ ∀ p, H' p = none → Q (.ref p) (upd H' p (.lst [v])), fun cls d σ' H' ⟨e1, dd, v, e2, e3, e4⟩ hl => ?_, h0 f, hc, h⟩
    have h1 : 1 < σ'.length := by rw [hl]; exact (List.getElem?_eq_some_iff.mp hi).1
    subst e1
    refine ⟨true, T.te, fun _ a0 _ => ?_, fun z => Bool.noConfusion z⟩
    exact ⟨.ref a0, List.getElem?_set_self h1, rfl, rfl, dd, v, e2, e3, one_le, e4⟩
end
end TL
/-! the error class TooMany with the field given -/
namespace PySem
namespace LowX_TooMany
open PySem.W PySem.Calls PyProof.Rows PySem.HandSPX
/-! ### the text of __init__ -/
def iA (p1 p2 : Pos) : Arguments := { posonlyargs := [], args := [{ arg := "self", annotation := none, pos := p1 }, { arg := "given", annotation := none, pos := p2 }], vararg := none, kwonlyargs := [], kw_defaults := [], kwarg := none, defaults := [] }
def iB (q1 q2 q3 q4 : Pos) : List Stmt := [.Assign [.Attribute (.Name "self" q1) "given" q2] (.Name "given" q3) q4]
def iS : Scope := { kind := .function, names := [(PySem.Str.ofString "self", .local), (PySem.Str.ofString "given", .local)], isGenerator := false, isCoroutine := false, more := [] }
/-- what the written part says of Low, at C, and of its __init__, at fI -/
structure LowTxt (K : Frag) (mg : Str → Option Value) (C fI : Addr) : Prop where
  gC : mg "TooMany" = some (.ref C)
  cls : ∃ nm q N bs bm sn sub ab col dd k0 k1 k2 k3 k5, K.lookup C = some (excClassObj nm q C N bs bm true sn sub ab col dd k0 k1 k2 k3 k5 "ValueError.__new__") ∧ refsVE bm = true
  sa : findIn K (.ref C) "__setattr__" = some (some (.builtin "object.__setattr__"))
  ga : findIn K (.ref C) "__getattribute__" = some (some (.builtin "BaseException.__getattribute__"))
  gg : findIn K (.ref C) "__getattr__" = some none
  noN : findIn K (.ref C) "given" = some none
  iC : findIn K (.ref C) "__init__" = some (some (.ref fI))
  tC : typeIn K (.ref fI) = some (.type "function")
  kC : keepIn K (.ref C) = true
  exC : subIn K (.ref C) (.type "BaseException") = some true
  tyC : typeIn K (.ref C) = some (.type "type")
  hdC : hasDictIn K C = true
  te : exmOne K (.ref C) (.ref C) = some true
  fn : ∃ (oc : Value) (od : Option Addr) (doc pm : Value) (an : Option Addr) (cdv ct : Value) (osl : Array (Option Value)) (p1 p2 q1 q2 q3 q4 : Pos),
    K.lookup fI = some ⟨oc, od, .func (fnOf "__init__" "TooMany.__init__" (iA p1 p2) (iB q1 q2 q3 q4) iS .none .none doc pm an cdv ct), osl⟩ ∧ codeIn K cdv "TooMany.__init__" = true
theorem one_size (v : Value) : [v].length ≤ sizeLine := by
  rw [sizeLine_eq]
  exact (by decide : 1 ≤ 16777216)
theorem kept_but {K : Frag} {h h' : Heap} {x : Addr} (X : K.In h) (hx : K.lookup x = none) (k : ∀ b o, b ≠ x → h.get? b = some o → h'.get? b = some o) : K.In h' := fun a o e =>
  k a o (fun z => by rw [z, hx] at e; cases e) (X a o e)
theorem ldC {M : Model} {s : Shared} {name : Str} {scope : Scope} {L a : Addr} {cd : Value} {m : Str → Option Value} {x : Str} {pos : Pos} {v : Value} {Q : Value → Shared → Prop} {A : Around} {E : Value → Shared → Prop} (hn : s.heap.Ns L m) (hv : m x = some v) (h : Q v s)
    (hk : scope.kind = .function := by rfl) (hl : (envOfC name scope L a cd).kindOf x = some .local := by rfl) (hd : (x == ("__debug__" : Str)) = false := by decide) :
    wpAny M A (eval (.Name x pos) (envOfC name scope L a cd)) Q E s := wpAny_Name (wpAny_loadName_local hk hl hn hv h) hd
/-- what __init__ leaves of a fresh exception at x -/
structure InitEnd (h h' : Heap) (x C dx t1 : Addr) (v : Value) : Prop where
  keep : ∀ b o, b ≠ x → h.get? b = some o → h'.get? b = some o
  obj : h'.get? x = some { cls := .ref C, dict := some dx, data := .fields #[.ref t1, .none, .none, .none, .bool false, .none] }
  dbig : h.objs.size ≤ dx
  dne : dx ≠ x
  ns : h'.Ns1 dx (fun y => if y = "given" then some v else none)
/-- a made Low -/
structure OwnMade (h h' : Heap) (e C d : Addr) (v : Value) : Prop where
  keep : ∀ b o, h.get? b = some o → h'.get? b = some o
  new : h.objs.size ≤ e
  obj : ∃ oe vs, h'.get? e = some oe ∧ oe.cls = .ref C ∧ oe.dict = some d ∧ oe.data = .fields vs ∧ vs[1]? = some .none
  dbig : h.objs.size ≤ d
  dne : d ≠ e
  ns : h'.Ns1 d (fun y => if y = "given" then some v else none)
section
variable {prog : Program} {w : World} {A : Around} {E : Value → Shared → Prop} {R : Result → Shared → Prop} {s : Shared} {K : Frag} {mg : Str → Option Value} {C fI : Addr}
theorem low_init (T : LowTxt K mg C fI) {x t0 : Addr} {v : Value} (X : K.In s.heap) (hlim : s.heap.NoLimit) (hx : s.heap.get? x = some (excO C t0)) (hnx : K.lookup x = none) (hroom : A.depth < recursionLimit)
    (hq : ∀ h' tk dx, InitEnd s.heap h' x C dx t0 v → R (.ok (.ret .none)) { s with heap := h', toks := tk }) :
    codeAny (model prog w) A (.call (.ref fI) ⟨[.ref x, v], []⟩) R s := by
  obtain ⟨oc, od, doc, pm, an, cdv, ct, osl, p1, p2, q1, q2, q3, q4, ho, hcd⟩ := T.fn
  obtain ⟨nm, q, N, bs, bm, sn, sub, ab, col, dd, k0, k1, k2, k3, k5, hC, hbm⟩ := T.cls
  have hcl : clsIn K C = some { name := nm, bases := bs, mro := .ref C :: bm, ns := N, qualname := q, hasDict := true, slotNames := sn, subclasses := sub, abstract := ab, collection := col, hasDel := false } := by unfold clsIn; rw [hC] <;> rfl
  refine Att.call_fn (binds := [("self", .ref x), ("given", v)]) X hlim ho hcd hroom (BindsTo.of_eq (by first | rfl | with_unfolding_all rfl)) (by first | rfl | decide | with_unfolding_all rfl) (fun s₁ IC => ?_) rfl rfl rfl
  obtain ⟨h₁, tk₁, rfl⟩ := IC.toInCall.same
  have k : ∀ b o, s.heap.get? b = some o → h₁.get? b = some o := IC.toInCall.keep
  have hn := IC.toInCall.ns
  have hxL : s.heap.objs.size ≠ x := Nat.ne_of_gt (Heap.lt_size hx)
  have X₁ : K.In h₁ := X.keeps k
  have hx₁ := k _ _ hx
  -- self.by = by
  show wpAny _ _ (execs _ _) _ _ _
  refine wpAny_execs_cons (plainObj_wpAny_Assign_Attribute ?_)
  refine ldC (v := v) hn (by first | rfl | with_unfolding_all rfl | kernel_rfl) (ldC (v := .ref x) hn (by first | rfl | with_unfolding_all rfl | kernel_rfl) ?_)
  refine set_plain X₁ (ox := excO C t0) (od := none) ⟨hx₁, rfl, rfl, trivial⟩ T.sa ?_
  refine exc_osa X₁ hx₁ hcl (show refsVE (.ref C :: bm) = true from hbm) rfl T.noN (fun h₃ tk₃ dx k₃ dn dne hx₃ hn₃ => ?_)
  show wpAny _ _ (execs _ _) _ _ _
  have z : s.heap.objs.size < h₁.objs.size := hn.lt
  exact wpAny_execs_nil (hq h₃ tk₃ dx ⟨fun b o hb e => k₃ b o hb (k b o e), hx₃, Nat.le_of_lt (Nat.lt_of_lt_of_le z dn), dne, hn₃⟩)
theorem low_made (T : LowTxt K mg C fI) {v : Value} (X : K.In s.heap) (hlim : s.heap.NoLimit) (hroom : A.depth + 1 < recursionLimit)
    (hq : ∀ h' tk e d, OwnMade s.heap h' e C d v → R (.ok (.ret (.ref e))) { s with heap := h', toks := tk }) :
    codeAny (model prog w) A (.call (.ref C) ⟨[v], []⟩) R s := by
  obtain ⟨nm, q, N, bs, bm, sn, sub, ab, col, dd, k0, k1, k2, k3, k5, hC, hbm⟩ := T.cls
  obtain ⟨hp, g, dr, tk, os⟩ := s
  have k : ∀ b o, hp.get? b = some o → ((hp.push (kdv_tup [v])).push (excO C hp.objs.size)).get? b = some o := fun b o e => Heap.get?_push_of_some _ (Heap.get?_push_of_some _ e)
  have hget : ((hp.push (kdv_tup [v])).push (excO C hp.objs.size)).get? (hp.objs.size + 1) = some (excO C hp.objs.size) := by heap_get
  have hnx : K.lookup (hp.objs.size + 1) = none := by
    cases e : K.lookup (hp.objs.size + 1) with
    | none => rfl
    | some o =>
      have z : hp.get? (hp.objs.size + 1) = some o := X _ _ e
      exact absurd (Nat.lt_of_succ_lt (Heap.lt_size z)) (Nat.lt_irrefl _)
  refine call_own F.excBase_ValueError (fun X => refsVE_contains X bm hbm) (X _ _ hC) (looks_findIn X T.iC) (fun self => bind_fn X self T.tC) (one_size v) ?_
  refine low_init (s := ⟨(hp.push (kdv_tup [v])).push (excO C hp.objs.size), g, dr, tk, os⟩) T (X.keeps k) (hlim.keeps k) hget hnx ?_ fun h' tk' dx ⟨k', hx, dn, dne, hns⟩ => ?_
  · show A.depth + 1 < recursionLimit
    exact hroom
  · have old : ∀ b o, hp.get? b = some o → h'.get? b = some o := fun b o e => k' b o (Nat.ne_of_lt (Nat.lt_succ_of_lt (Heap.lt_size e))) (k b o e)
    have z : hp.objs.size + 1 + 1 ≤ dx := by
      first
        | (simpa only [Heap.size_push] using dn)
        | exact dn
        | (have q := dn; rw [Heap.size_push, Heap.size_push] at q; exact q)
    exact ⟨rfl, hq h' tk' (hp.objs.size + 1) dx ⟨old, Nat.le_succ _, ⟨_, _, hx, rfl, rfl, rfl, rfl⟩, Nat.le_trans (Nat.le_trans (Nat.le_succ _) (Nat.le_succ _)) z, dne, hns⟩⟩
end
end LowX_TooMany
end PySem
namespace L2
open PySem PySem.Spec PyProof.Rows
theorem relO_low_TooMany {v : V} {v' : Value} (r : RelV v v') (f : Str) : RelO (List.lookup f [(("given" : Str), v)]) (if f = "given" then some v' else none) := by
  by_cases hw : f = "given"
  · subst hw
    rw [if_pos rfl]
    have q : List.lookup ("given" : Str) [(("given" : Str), v)] = some v := by simp [List.lookup]
    rw [q]
    exact r
  · rw [if_neg hw]
    have qw : (f == ("given" : Str)) = false := by simpa using hw
    have q2 : List.lookup f [(("given" : Str), v)] = none := by simp [List.lookup, qw]
    rw [q2]
    trivial
section
variable {X : Cx} {C fI : Addr}
/-- Low(e) -/
def tMkLow_TooMany (C : Addr) (ta : TA) : St → Hp → XK → Prop := fun σ H Q => ta σ H fun vs H1 => ∃ v, vs = [v] ∧ ∀ d, H1 d = none → Q (.ref C) (some d) (upd H1 d (.xd [(("given" : Str), v)]))
theorem pmk_low_TooMany {a : Expr} {ta : TA} {p pos : Pos} {k : Nat} (T : PySem.LowX_TooMany.LowTxt X.K X.mg C fI) (hr : Room k X.A) (ha : PA X [a] ta) (hg : Gl X "TooMany" := by rfl)
    (he : starEach (a :: []) X.env = (false, eval a X.env) :: starEach [] X.env := by rfl) (hpl : (backTo pos (starEach [] X.env)).any (·.1) = false := by rfl) :
    PMk X (.Call (.Name "TooMany" p) [a] [] pos) (tMkLow_TooMany C ta) := by
  intro pins s σ H Q I h
  refine wpAny_Call_Name_kw (ld_glob I hg T.gC ?_)
  refine PySem.W.callWith_K (h₀ := X.base) I.ok.mod.kin T.kC (thn (ha.run pos pins s σ H _ I h) fun us s1 hh => ?_) he hpl
  obtain ⟨vs, H1, I1, r1, v, ev, q1⟩ := hh
  subst ev
  refine ⟨I1.kIn, ?_⟩
  cases r1 with
  | cons rv rn =>
    rename_i v' us'
    cases rn
    show wpAny _ _ (call (.ref C) [v']) _ _ _
    have hlim := I1.nolimit
    obtain ⟨hp, g, dr, tk, os⟩ := s1
    refine wpAny_call (PySem.LowX_TooMany.low_made T I1.kIn hlim (by have := hr.dp; omega) fun h' tk' e d M => ?_)
    show MkP X pins σ Q (.ref e) ⟨h', g, dr, tk', os⟩
    obtain ⟨oe, fv, hoe, hc, hd, hdat, h1⟩ := M.obj
    have hns := M.ns
    obtain ⟨G', g1, g2⟩ := restrict h' fun b => decide (b ≠ e)
    have gk : ∀ b, b ≠ e → G'.get? b = h'.get? b := fun b hb => g1 b (decide_eq_true hb)
    have ge : G'.get? e = none := g2 e (by simp)
    have old : ∀ b o, hp.get? b = some o → G'.get? b = some o := fun b o q => (gk b (Nat.ne_of_lt (Nat.lt_of_lt_of_le (Heap.lt_size q) M.new))).trans (M.keep b o q)
    have ob : ObjOk X.prog X.w (upd H1 d (.xd [(("given" : Str), v)])) G' d (.xd [(("given" : Str), v)]) :=
      ⟨_, hns.at (fun o q => (gk d M.dne).trans q), fun f => relO_low_TooMany rv f⟩
    have J : Inv X pins σ (upd H1 d (.xd [(("given" : Str), v)])) ⟨G', g, dr, tk', os⟩ := I1.laid (t' := tk') old M.dbig ob
    refine ⟨e, oe, fv, ⟨G', g, dr, tk', os⟩, _, .ref C, some d, rfl, J, fun b o q => ?_, ge, hoe, ⟨hc, hd⟩, hdat, h1, ?_, rfl, I1.bare, raises_own T.exC T.tyC, q1 d (I1.hok.fresh M.dbig)⟩
    · by_cases hb : b = e
      · have q' : G'.get? b = some o := q
        rw [hb, ge] at q'; cases q'
      · exact (gk b hb).symm.trans q
    · rw [upd_ne (Ne.symm M.dne)]
      exact I1.hok.fresh M.new
/-- raise Low(e) -/
def tRaiseLow_TooMany (C : Addr) (W : WX) (ta : TA) : TS := fun _ σ H => tMkLow_TooMany C ta σ H fun cls d H' => W cls d σ H'
theorem ps_raiseLow_TooMany {a : Expr} {ta : TA} {W : WX} {p pos pos2 : Pos} {k : Nat} (hc : X.calm = true) (T : PySem.LowX_TooMany.LowTxt X.K X.mg C fI) (hr : Room k X.A) (tk : Takes X W) (ha : PA X [a] ta) (hg : Gl X "TooMany" := by rfl)
    (he : starEach (a :: []) X.env = (false, eval a X.env) :: starEach [] X.env := by rfl) (hpl : (backTo pos (starEach [] X.env)).any (·.1) = false := by rfl) :
    PS X (.Raise (some (.Call (.Name "TooMany" p) [a] [] pos)) none pos2) (tRaiseLow_TooMany C W ta) := ps_raise hc tk (pmk_low_TooMany T hr ha hg he hpl)
/-- low.by, low the exception that the suite holds (at a; its class cls, its dict d) -/
def tByLow_TooMany (C : Addr) (a : Addr) (cls : Value) (d : Option Addr) (te : TE) : TE := fun σ H Q => te σ H fun x H1 => x = .ref a ∧ cls = .ref C ∧ ∃ (dd : Addr) (v : V), d = some dd ∧ H1 dd = some (.xd [(("given" : Str), v)]) ∧ Q v H1
theorem pe_byLow_TooMany {a : Addr} {oe : Obj} {cls : Value} {d : Option Addr} {pn : List (Addr × Obj)} {e : Expr} {te : TE} {pos : Pos} (T : PySem.LowX_TooMany.LowTxt X.K X.mg C fI) (hz : Zc cls d oe) (hf : ∃ vs, oe.data = .fields vs) (he : PE (X.suite a ((a, oe) :: pn)) e te)
    (hb : attributeBase e "given" X.env (eval e X.env) = eval e X.env := by rfl) :
    PE (X.suite a ((a, oe) :: pn)) (.Attribute e "given" pos) (tByLow_TooMany C a cls d te) := by
  refine ⟨fun pins s σ H Q I h => ?_⟩
  refine attr_of hb (thn (he.run pins s σ H _ I h) fun u s1 hh => ?_)
  obtain ⟨x, H1, I1, rx, ex, ec, dd, v, ed, ea, q⟩ := hh
  subst ex
  obtain rfl : u = Value.ref a := rx
  subst ec
  subst ed
  obtain ⟨ha, _⟩ := I1.pin (a, oe) (List.mem_append_left _ List.mem_cons_self)
  obtain ⟨vs, hd⟩ := hf
  have hx : ObjOk X.prog X.w H1 s1.heap dd (.xd [(("given" : Str), v)]) := I1.hok dd _ ea
  obtain ⟨mA, hns, hr⟩ := hx
  obtain ⟨od, ho, hl⟩ := lookIn_ns hns
  have l : List.lookup ("given" : Str) [(("given" : Str), v)] = some v := by simp [List.lookup]
  obtain ⟨u, hu, ru⟩ := RelO.some_of (v := v) (o := mA "given") (by rw [← l]; exact hr "given")
  have J : PySem.W.InstAt s1.heap a oe C (some od) := ⟨ha, hz.1, by unfold PySem.W.notCls; rw [hd] <;> rfl, by rw [hz.2]; exact ho⟩
  exact HandSPX.exc_get I1.kIn J T.ga T.gg T.exC (PySem.W.findObj_own T.hdC T.noN rfl (by rw [hl, hu])) (handed_of ru) ⟨v, H1, I1.tok _, ru, q⟩
end
end L2

namespace TL
variable [TabN]
open PySem PySem.Spec L2 PyProof.Rows RZ LamX PySem.LowX_TooMany
section
variable {X : Cx} {W : WX} {p pos pos2 : Pos} {a : Expr} {fa : Ev} {C fI : Addr} {k : Nat}
/-- raise TooMany(e) -/
theorem xRaise_TooMany (T : LowTxt X.K X.mg C fI) (hf : TabN.F "TooMany" = [("given" : Str)]) (hc : X.calm = true) (hr : Room k X.A) (tk : Takes X W) (hg : Gl X "TooMany") (ha : SE X W a fa)
    (he : starEach (a :: []) X.env = (false, eval a X.env) :: starEach [] X.env := by rfl) (hpl : (backTo pos (starEach [] X.env)).any (·.1) = false := by rfl) :
    SS X W (.Raise (some (.Call (.Name "TooMany" p) [a] [] pos)) none pos2) (sRaise "TooMany" (aCons fa aNil)) :=
  ss_raise hc tk (fun ta hta => pmk_low_TooMany T hr hta hg he hpl) T.gC hf ha he
/-- told: try: a() / except TooMany as n: return [n.given] / return [] -/
theorem gives_spot_TooMany {Ng : List Str} {x a n : Str} {sg : Scope} {g : Addr} {cdg : Value} {q : Str} {p1 p2 p3 p4 p5 p6 p7 p8 p9 pa pb pc : Pos} (T : LowTxt X.K X.mg C fI) (hge : sg.names.lookup ("TooMany" : Str) = some .globalImplicit)
    (h0 : ∀ f : Addr, (L2.start Ng [V.ref f])[0]? = some (some (V.ref f))) (hN : Ng.Nodup) (hi : Ng[1]? = some n) (hv : Vis sg n)
    (hkl : ∀ L : Addr, (envOfC x sg L g cdg).kindOf n = some .local) (hdn : (n == ("__debug__" : Str)) = false := by decide) (hcn : (n == ("__classdict__" : Str)) = false := by decide) :
    GivesTo X Ng x sg g cdg [.Try [.Expr (.Call (.Name a p1) [] [] p2) p3] [.ExceptHandler (some (.Name "TooMany" p4)) (some n) [.Return (some (.List [.Attribute (.Name n p5) "given" p6] p7)) p8] p9] [] [] pa, .Return (some (.List [] pb)) pc] a q (TTspot C "given") := by
  intro f c' s H Q tl act hc h
  have hgl : Gl (cxOf C8.CX0 X.prog X.w X.K X.mg X.base Ng x sg g cdg X.A X.stack s H C8.E0).nox "TooMany" := hge
  refine ⟨_, pss_cons (ps_try_as (X := (cxOf C8.CX0 X.prog X.w X.K X.mg X.base Ng x sg g cdg X.A X.stack s H C8.E0).nox) (i := 1) (c := .ref C)
      (tb := fun W D σ H => ∃ Ech : XK, (∀ cls d σ' H', Ech cls d H' → σ'.length = Ng.length → W cls d σ' H') ∧ σ[0]? = some (some (.ref f)) ∧ H c' = some (CodeO c' q) ∧ tl Ech H fun _ H' => D.nx σ H')
      (ts := fun a0 cls d => tRet (tLst (tCons (tByLow_TooMany C a0 cls d (tVar 1)) tNil))) (Wout := fun _ _ _ _ => False) rfl rfl hN hi (hkl _) ⟨hgl, by decide, .inl T.gC⟩ L2.takes0 (fun W pn xe tk _ => ?_)
      (fun a0 oe cls d pn hz hf => pss_one (ps_ret (pe_lst (pa_cons (pe_byLow_TooMany T hz hf (pe_var (i := 1) hi hv hdn hcn)) pa_nil))))) (pss_one (ps_ret (pe_lst pa_nil))), ?_⟩
  · refine ⟨fun pins s' σ H' D I h' => ?_⟩
    obtain ⟨Ech, hW, h1, h2, h3⟩ := h'
    have hp := act (fun cls d σ H => σ.length = Ng.length → W cls d σ H) pn xe Ech p1 p2 (takes_len tk) hW
    have hq := pss_one (ps_expr (pos := p3) hp)
    exact hq.run pins s' σ H' D I ⟨h1, h2, h3⟩
  · refine ⟨fun cls d H' => cls = .ref C ∧ ∃ (dd : Addr) (v : V), d = some dd ∧ H' dd = some (.xd [("given", v)]) ∧ ∀ p, H' p = none → Q (.ref p) (upd H' p (.lst [v])), fun cls d σ' H' ⟨e1, dd, v, e2, e3, e4⟩ hl => ?_, h0 f, hc, h⟩
    have h1 : 1 < σ'.length := by rw [hl]; exact (List.getElem?_eq_some_iff.mp hi).1
    subst e1
    refine ⟨true, T.te, fun _ a0 _ => ?_, fun z => Bool.noConfusion z⟩
    exact ⟨.ref a0, List.getElem?_set_self h1, rfl, rfl, dd, v, e2, e3, one_le, e4⟩
end
end TL
/-! TLH: a lambda handed to a def that tells what a call tells or refuses, by two classes of errors. -/
namespace TL
variable [TabN]
open PySem PySem.Spec L2 PyProof.Rows RZ LamX
/-- what is told of an error with a field -/
def TTone (C : Addr) (fl s : Str) (cls : Value) (d : Option Addr) (H' : Hp) (Q : VK) : Prop := cls = .ref C ∧ ∃ (dd : Addr) (v : V), d = some dd ∧ H' dd = some (.xd [(fl, v)]) ∧ ∀ p, H' p = none → Q (.ref p) (upd H' p (.tup [.str s, v]))
def TThear (C1 C2 : Addr) (f1 f2 s1 s2 s3 : Str) : (XK → Hp → VK → Prop) → Hp → VK → Prop := fun tl H Q =>
  tl (fun cls d H' => TTone C1 f1 s1 cls d H' Q ∨ TTone C2 f2 s2 cls d H' Q) H (fun w H' => ∀ p, H' p = none → Q (.ref p) (upd H' p (.tup [.str s3, w])))
def tellD (s : Str) (ws : List Wv) (μ : Mu) : Out Wv := match ws with
  | [.d u] => .ok (.d (.tuple [.str s, u])) μ
  | _ => .bad
def eHear (y1 y2 s1 s2 s3 : Str) (fb : Ev) : Ev := fun ρ μ => match fb ρ μ with
  | .ok w μ' => tellD s3 [w] μ'
  | .err z ws μ' => if z = y1 then tellD s1 ws μ' else if z = y2 then tellD s2 ws μ' else .bad
  | .bad => .bad
theorem two_le : 2 ≤ sizeLine := by decide
section
variable {K : PySem.W.Frag} {mg : Str → Option Value} {W : WX} {α α' : List Addr} {F F' H H' : Hp} {μ' : Mu} {ws : List Wv} {d C : Addr} {fs : List (Str × V)} {fl s : Str} {Q : VK} {E : XK}
theorem one_read (q : gp K mg α F H (tellD s ws μ') (Gw K Q) E) (e : Ext α F H α' F' H') (r' : Rep K α' F' μ' H') (h2 : H' d = some (.xd fs)) (h3 : fs.map (·.1) = [fl]) (h4 : Rws K α' F' (fs.map (·.2)) ws) : TTone C fl s (.ref C) (some d) H' Q := by
  unfold tellD at q
  split at q
  · rename_i u
    match fs, h3, h4, h2 with
    | [(g, v)], h3, h4, h2 =>
      have e3 : g = fl := (List.cons.inj h3).1
      subst e3
      cases h4 with
      | cons h5 h6 =>
        have h5 : Dq K F' v u := h5
        refine ⟨rfl, d, v, rfl, h2, fun p hp => ?_⟩
        obtain ⟨r2, x2⟩ := r'.new (o := .tup [.str s, v]) hp
        exact q.at (e.trans x2) r2 _ (.tup (.inl (.of upd_same)) (.cons (.str s) (.cons (h5.mono x2.fro) .nil)))
  · exact (show False from q).elim
theorem hear_read {y1 y2 f1 f2 s1 s2 s3 : Str} {C1 C2 : Addr} {fb : Ev} {σ : L2.St} (hm1 : mg y1 = some (.ref C1)) (hf1 : TabN.F y1 = [f1]) (hm2 : mg y2 = some (.ref C2)) (hf2 : TabN.F y2 = [f2]) (hT : TabN.T ≠ []) (h : tE K mg W (eHear y1 y2 s1 s2 s3 fb) σ H Q) :
    tLam TabN.T (TThear C1 C2 f1 f2 s1 s2 s3) (fun E => tE K mg (fun cls d _ H => E cls d H) fb) σ H Q := by
  obtain ⟨ρ, μ, α, F, r, re, q⟩ := h
  refine ⟨fun p hp => ?_, fun H1 eN t => ?_⟩
  · obtain ⟨ps, h1, h2, h3⟩ := r.tab.tab p hp
    refine ⟨ps, h1, h2, fun pos cv hc => ?_⟩
    obtain ⟨c, e1, e2⟩ := h3 pos cv hc
    exact ⟨c, e1, r.sub _ _ e2⟩
  · obtain ⟨F1, r1, x1⟩ := r.grow hT eN t
    refine ⟨ρ, μ, α, F1, r1, re.ext x1, ?_⟩
    unfold eHear at q
    cases z : fb ρ μ with
    | bad =>
      rw [z] at q
      exact q.elim
    | ok w μ' =>
      rw [z] at q
      intro α' F' H' e r' v rv p hp
      have q : gp K mg α F H (tellD s3 [w] μ') (Gw K Q) _ := q
      unfold tellD at q
      split at q
      · rename_i u hu
        cases hu
        have rv : Dq K F' v u := rv
        obtain ⟨r2, x2⟩ := r'.new (o := .tup [.str s3, v]) hp
        exact q.at ((x1.trans e).trans x2) r2 _ (.tup (.inl (.of upd_same)) (.cons (.str s3) (.cons (rv.mono x2.fro) .nil)))
      · exact (show False from q).elim
    | err s ws μ' =>
      rw [z] at q
      intro α' F' H' C' d fs e r' h1 h2 h3 h4
      have q9 : gp K mg α F H (if s = y1 then tellD s1 ws μ' else if s = y2 then tellD s2 ws μ' else .bad) (Gw K Q) (fun c d H' => W c d σ H') := q
      clear q z
      by_cases hs : s = y1
      · rw [if_pos hs] at q9
        subst hs
        rw [hm1] at h1
        cases h1
        rw [hf1] at h3
        exact .inl (one_read q9 (x1.trans e) r' h2 h3 h4)
      · rw [if_neg hs] at q9
        by_cases hs2 : s = y2
        · rw [if_pos hs2] at q9
          subst hs2
          rw [hm2] at h1
          cases h1
          rw [hf2] at h3
          exact .inr (one_read q9 (x1.trans e) r' h2 h3 h4)
        · rw [if_neg hs2] at q9
          exact (show False from q9).elim
end
section
variable {X : Cx} {C1 f1 C2 f2 : Addr}
theorem gives_hear {Ng : List Str} {x a n m s1 s2 s3 : Str} {sg : Scope} {g : Addr} {cdg : Value} {q : Str} {k1 k2 : Nat} {p1 p2 p3 p4 p5 p6 p7 p8 p9 pa pb pc pd pe pf pg ph pi pj pk pl pm pn : Pos} (T1 : PySem.LowX_BadText.LowTxt X.K X.mg C1 f1) (T2 : PySem.LowX_TooMany.LowTxt X.K X.mg C2 f2) (apart : PySem.W.exmOne X.K (.ref C2) (.ref C1) = some false)
    (g1 : sg.names.lookup ("BadText" : Str) = some .globalImplicit) (g2 : sg.names.lookup ("TooMany" : Str) = some .globalImplicit)
    (h0 : ∀ f : Addr, (L2.start Ng [V.ref f])[0]? = some (some (V.ref f))) (hN : Ng.Nodup) (hi : Ng[1]? = some n) (hj : Ng[2]? = some m) (hv : Vis sg n) (hvm : Vis sg m) (hlm : Loc sg m)
    (hkl : ∀ L : Addr, (envOfC x sg L g cdg).kindOf n = some .local) (hlm2 : sg.names.lookup m = some .local) (hdn : (n == ("__debug__" : Str)) = false := by decide) (hcn : (n == ("__classdict__" : Str)) = false := by decide) (hdm : (m == ("__debug__" : Str)) = false := by decide) (hcm : (m == ("__classdict__" : Str)) = false := by decide) :
    GivesTo X Ng x sg g cdg [.Try [.Assign [.Name m pa] (.Call (.Name a p1) [] [] p2) p3] [.ExceptHandler (some (.Name "BadText" p4)) (some n) [.Return (some (.Tuple [.Constant (.str s1) 0 pb, .Attribute (.Name n p5) "spot" p6] k1 p7)) p8] p9,
        .ExceptHandler (some (.Name "TooMany" pc)) (some n) [.Return (some (.Tuple [.Constant (.str s2) 0 pd, .Attribute (.Name n pe) "given" pf] k1 pg)) ph] pi] [] [] pj, .Return (some (.Tuple [.Constant (.str s3) 0 pk, .Name m pl] k2 pm)) pn] a q (TThear C1 C2 "spot" "given" s1 s2 s3) := by
  intro f c' s H Q tl act hc h
  have e1 : Gl (cxOf C8.CX0 X.prog X.w X.K X.mg X.base Ng x sg g cdg X.A X.stack s H C8.E0).nox "BadText" := g1
  have e2 : Gl (cxOf C8.CX0 X.prog X.w X.K X.mg X.base Ng x sg g cdg X.A X.stack s H C8.E0).nox "TooMany" := g2
  refine ⟨_, pss_cons (try_two (X := (cxOf C8.CX0 X.prog X.w X.K X.mg X.base Ng x sg g cdg X.A X.stack s H C8.E0).nox) (i := 1) (c1 := .ref C1) (c2 := .ref C2)
      (tb := fun W D σ H => ∃ Ech : XK, (∀ cls d σ' H', Ech cls d H' → σ'.length = Ng.length → W cls d σ' H') ∧ σ[0]? = some (some (.ref f)) ∧ H c' = some (CodeO c' q) ∧ tl Ech H fun v H' => D.nx (σ.set 2 (some v)) H')
      (ts1 := fun a0 cls d => tRet (tTup (tCons (tC (.str s1)) (tCons (tByLow_BadText C1 a0 cls d (tVar 1)) tNil)))) (ts2 := fun a0 cls d => tRet (tTup (tCons (tC (.str s2)) (tCons (tByLow_TooMany C2 a0 cls d (tVar 1)) tNil))))
      rfl rfl hN hi (hkl _) ⟨e1, by decide, .inl T1.gC⟩ ⟨e2, by decide, .inl T2.gC⟩ (fun W pn xe tk _ => ?_)
      (fun a0 oe cls d pn hz hf => pss_one (ps_ret (pe_tup (pa_cons pe_str (pa_cons (pe_byLow_BadText T1 hz hf (pe_var (i := 1) hi hv hdn hcn)) pa_nil)))))
      (fun a0 oe cls d pn hz hf => pss_one (ps_ret (pe_tup (pa_cons pe_str (pa_cons (pe_byLow_TooMany T2 hz hf (pe_var (i := 1) hi hv hdn hcn)) pa_nil))))))
    (pss_one (ps_ret (pe_tup (pa_cons pe_str (pa_cons (pe_var (i := 2) hj hvm hdm hcm) pa_nil))))), ?_⟩
  · refine ⟨fun pins s' σ H' D I h' => ?_⟩
    obtain ⟨Ech, hW, h1, h2, h3⟩ := h'
    have hp := act (fun cls d σ H => σ.length = Ng.length → W cls d σ H) pn xe Ech p1 p2 (takes_len tk) hW
    have hq := pss_one (ps_set (pos := p3) (pos' := pa) (i := 2) hN hj hlm hp rfl (.inr hlm2))
    exact hq.run pins s' σ H' D I ⟨h1, h2, h3⟩
  · refine ⟨fun cls d H' => TTone C1 "spot" s1 cls d H' Q ∨ TTone C2 "given" s2 cls d H' Q, fun cls d σ' H' e hl => ?_, h0 f, hc, ?_⟩
    · have h1 : 1 < σ'.length := by rw [hl]; exact (List.getElem?_eq_some_iff.mp hi).1
      rcases e with ⟨rfl, dd, v, e2, e3, e4⟩ | ⟨rfl, dd, v, e2, e3, e4⟩
      · exact ⟨true, T1.te, fun _ a0 _ => ⟨.ref a0, List.getElem?_set_self h1, rfl, rfl, dd, v, e2, e3, two_le, e4⟩, fun z => Bool.noConfusion z⟩
      · refine ⟨false, apart, fun z => Bool.noConfusion z, fun _ => ?_⟩
        exact ⟨true, T2.te, fun _ a0 _ => ⟨.ref a0, List.getElem?_set_self h1, rfl, rfl, dd, v, e2, e3, two_le, e4⟩, fun z => Bool.noConfusion z⟩
    · have hl : 2 < (L2.start Ng [V.ref f]).length := by
        unfold L2.start
        have := (List.getElem?_eq_some_iff.mp hj).1
        rw [List.length_append, List.length_map, List.length_replicate]
        simp
        omega
      have w : (fun (v : V) (H' : Hp) => ∃ u, ((L2.start Ng [V.ref f]).set 2 (some v))[2]? = some (some u) ∧ [V.str s3, u].length ≤ sizeLine ∧ ∀ p, H' p = none → Q (.ref p) (upd H' p (.tup [.str s3, u]))) = fun v H' => ∀ p, H' p = none → Q (.ref p) (upd H' p (.tup [.str s3, v])) := by
        funext v H'
        rw [List.getElem?_set_self hl]
        exact propext ⟨fun ⟨u, e, _, z⟩ => by cases e; exact z, fun z => ⟨v, rfl, two_le, z⟩⟩
      show tl _ H (fun v H' => ∃ u, ((L2.start Ng [V.ref f]).set 2 (some v))[2]? = some (some u) ∧ [V.str s3, u].length ≤ sizeLine ∧ ∀ p, H' p = none → Q (.ref p) (upd H' p (.tup [.str s3, u])))
      rw [w]
      exact h
end
section
variable {X : Cx} {W : WX} {x y1 y2 a fl1 fl2 s1 s2 s3 : Str} {p lpos pos : Pos} {C1 C2 g c P : Addr} {gd : FuncData} {st : Stmt} {k : Nat} {params : Arguments} {body : Expr} {scope : Scope} {fb : Ev} {Ng : List Str}
theorem xHear (T : Told X.K X.mg x a st g gd) (hy1 : X.mg y1 = some (.ref C1)) (hf1 : TabN.F y1 = [fl1]) (hy2 : X.mg y2 = some (.ref C2)) (hf2 : TabN.F y2 = [fl2]) (Sg : FnScope Ng [a] (defScope st)) (hNg : Ng[0]? = some a) (hva : Vis (defScope st) a)
    (hG : ∀ cdv q, GivesTo X Ng x (defScope st) g cdv (defBody st) a q (TThear C1 C2 fl1 fl2 s1 s2 s3))
    (TB : TabB X.base X.mg c P) (hcode : X.env.code = .ref c) (hmT : (P, X.env.qual ++ "<lambda>") ∈ TabN.T) (hu : ∀ p ∈ TabN.T, p.1 = P → p.2 = X.env.qual ++ "<lambda>") (hr : Room (k + 2) X.A) (hg : Gl X x) (L : lamSB X.env.scope scope = true)
    (hbody : ∀ (A : Around) (outer : List Env) (s : Shared) (H : Hp) (E : XK) (f c' : Addr), Room k (A.deeper (lamEnv X scope s.heap.objs.size f c')) → SE (lamCx X A outer s H E scope f c') (fun cls d _ H => E cls d H) body fb)
    (hdef : defaultsOf params X.env = ([], []) := by rfl)
    (hbind : ∀ (q : Str) (cl : List (Str × Addr)) (pm cv ctv : Value), bindArgs (PySem.W.kla_fn "<lambda>" q params body scope cl pm cv ctv) ⟨[], []⟩ = pure [] := by intro _ _ _ _ _; rfl)
    (hdb : (x == ("__debug__" : Str)) = false := by decide) (hd : (a == ("__debug__" : Str)) = false := by decide) (hcd : (a == ("__classdict__" : Str)) = false := by decide) :
    SE X W (.Call (.Name x p) [.Lambda params body scope lpos] [] pos) (eHear y1 y2 s1 s2 s3 fb) := by
  obtain ⟨oc, od, kV, doc, pm, an, cdv, ct, osl, egd, lk, cd⟩ := T.F.ex
  have hb := T.b
  have hk := T.F.kp
  have hm := T.m
  rw [egd] at lk hb
  refine (pe_lamcall (T := TabN.T) (TT := TThear C1 C2 fl1 fl2 s1 s2 s3) (t := fun E => tE X.K X.mg (fun cls d _ H => E cls d H) fb) hg hm hk lk cd hb Sg hNg hva (hG cdv _) TB hcode hmT hu hr (lamS_by L) hdef hbind hbody hdb hd hcd).imp fun σ H Q h => ?_
  exact hear_read hy1 hf1 hy2 hf2 (fun e => by rw [e] at hmT; cases hmT) h
end
end TL
/-! TL26: an object that is made, used and left within one def. -/
namespace TL
open PySem PySem.Spec L2 PyProof.Rows RZ
/-! ### within: a base without cells, the caller's objects as they are -/
section
variable [TabN] {K : PySem.W.Frag} {α β : List Addr} {F F' H H' : Hp} {μ : Mu}
theorem Rep.none_ (r : Rep K α F μ H) (hO : TabN.O = []) : Rep K [] F [] H :=
  ⟨rfl, r.sub, by rw [hO]; exact Nat.le_refl _, fun k c h => by simp at h, fun i j a c c' h => by simp at h, fun a m => by simp at m, r.tab⟩
/-- behind a computation that knows nothing of the caller's cells -/
theorem Rep.aside (r : Rep K α F μ H) (hO : TabN.O = []) (e : Ext [] F H β F' H') (sub : Same F' H') (tab : TabsOk F' H') : Rep K α F' μ H' ∧ Ext α F H α F' H' := by
  have isl : ∀ k, isL k := fun k => .inl (by rw [hO]; rfl)
  have fr : ∀ a o, H a = some o → (∀ ps, o ≠ .tbl ps) → H' a = some o := fun a o h nt => e.frame a o h (by simp) nt
  refine ⟨⟨r.len, sub, r.len0, fun k c h => ?_, r.inj, fun a m z => r.had a m (e.keep a z), tab⟩, ⟨⟨[], by simp⟩, e.fro, fun a o h _ nt => fr a o h nt, e.keep, fun a xs h c z => ?_, fun a h => .inl h⟩⟩
  · obtain ⟨a, vs, h1, h2, h3, h4⟩ := r.lcell (isl k) h
    refine ⟨a, h1, ?_, .of (isl k) (fr a _ h2 fun _ z => nomatch z) (h4.mono e.fro)⟩
    cases z : F' a with
    | none => rfl
    | some u =>
      rcases e.newF a _ h2 (.lst vs) (by rw [z]; exact fun z => nomatch z) with q | q
      · exact absurd h3 q
      · simp at q
  · rcases e.newF a xs h c z with q | q
    · exact .inl q
    · simp at q
end
/-! ### a Reader is made -/
/-- the kinds of its three cells -/
abbrev rdK (C : Addr) : List OKd := [.ins C [("words", none), ("end", none), ("at", none), ("entered", none), ("names", some 1), ("faults", some 2)], .dic, .lst]
/-- .. in the store's tables -/
abbrev rdT (T : TabN) (C : Addr) : TabN := ⟨T.T, T.F, rdK C⟩
/-- what __init__ leaves: the object at x, its dict of names at p, its list of faults at q, its words v -/
structure MadeR [TabN] (K : PySem.W.Frag) (C x dx : Addr) (t : Str) (wl : List PyData) (F H F' H' : Hp) (v : V) (p q : Addr) : Prop where
  fro : Same F F'
  rep : Rep K [] F' [] H'
  hx : H' x = some (.ins C dx [("words", v), ("end", .int t.length), ("at", .int 0), ("entered", .int 0), ("names", .ref p), ("faults", .ref q)])
  dv : Dq K F' v (.tuple wl)
  hp : H' p = some (.dK [])
  hq : H' q = some (.lst [])
  fx : F' x = none
  fp : F' p = none
  fq : F' q = none
  ne : p ≠ q ∧ p ≠ x ∧ q ≠ x
  np : Fr H p ∧ Fr H q
  frame : ∀ a o, H a = some o → a ≠ x → (∀ ps, o ≠ .tbl ps) → H' a = some o
  keep : ∀ a, Fr H' a → Fr H a
  newF : ∀ a u, H a = some u → IsC u → F' a ≠ none → F a ≠ none
abbrev tInit (T : TabN) (K : PySem.W.Frag) (mg : Str → Option Value) (W : WX) (g : GF) : TS := tSeq (sFld K (tVar 0) (@tE T K mg W (cF 1 g (aCons (eVar 1) aNil))) "words") (tSeq (sFld K (tVar 0) (@tE T K mg W (en gLen (aCons (eVar 1) aNil))) "end")
  (tSeq (sFld K (tVar 0) (tC (.int 0)) "at") (tSeq (sFld K (tVar 0) (tC (.int 0)) "entered") (tSeq (sFld K (tVar 0) tDNewK "names") (sFld K (tVar 0) (tLst tNil) "faults")))))
structure NoAt (K : PySem.W.Frag) (C : Addr) : Prop where
  n0 : NoAttr K C "words"
  n1 : NoAttr K C "end"
  n2 : NoAttr K C "at"
  n3 : NoAttr K C "entered"
  n4 : NoAttr K C "names"
  n5 : NoAttr K C "faults"
section
variable [T : TabN] {K : PySem.W.Frag} {mg : Str → Option Value} {W : WX} {F H : Hp}
theorem rep_nil {α : List Addr} (r : Rep K α F [] H) : α = [] := List.length_eq_zero_iff.mp (by rw [← r.len]; rfl)
theorem init_reads {g : GF} {C x dx : Addr} {t : Str} {wl : List PyData} {σ : L2.St} {D : Ends} (h0 : σ[0]? = some (some (.ref x))) (h1 : σ[1]? = some (some (.str t))) (hl : σ.length = 2) (hx : H x = some (.ins C dx [])) (fx : F x = none) (r : Rep K [] F [] H) (hg : g [.d (.str t)] [] = .ok (.d (.tuple wl)) [])
    (ht : t.length ≤ 16777216) (cl : Cls K C) (na : NoAt K C) (fin : ∀ F' H' v p q, MadeR K C x dx t wl F H F' H' v p q → D.nx σ H') : tInit T K mg W g D σ H := by
  have re : ∀ F0 : Hp, RepE K [] F0 [none, some (.d (.str t))] σ := fun F0 => ⟨by rw [hl]; rfl, fun i w h => by
    match i, h with
    | 1, h => cases h; exact ⟨_, h1, .str t⟩
    | i + 2, h => simp at h⟩
  have nt : ∀ (C dx : Addr) fs ps, some (HO.ins C dx fs) ≠ some (.tbl ps) := fun _ _ _ _ z => nomatch z
  have isx : ∀ (fs : List (Str × V)), IsC (.ins C dx fs) := fun fs => .ins C dx fs
  have L : ∀ {f : Str} {v : V} {fs : List (Str × V)} {n : Nat}, fs.length ≤ n → (putF f v fs).length ≤ n + 1 := fun h => Nat.le_trans (length_putF _ _ _) (by omega)
  have L0 : ([] : List (Str × V)).length ≤ 0 := Nat.le_refl _
  -- the words
  refine ⟨[none, some (.d (.str t))], [], [], F, r, re F, ?_⟩
  have e0 : cF 1 g (aCons (eVar 1) aNil) [none, some (.d (.str t))] [] = .ok (.d (.tuple wl)) [] := by
    show (if ([Wv.d (.str t)] : List Wv).length = 1 then g [Wv.d (.str t)] [] else Out.bad) = _
    rw [if_pos (show ([Wv.d (.str t)] : List Wv).length = 1 from rfl), hg]
  rw [e0]
  intro α1 F1 H1 x1 r1 v dv
  cases rep_nil r1
  have dv : Dq K F1 v (.tuple wl) := dv
  have hx1 : H1 x = some (.ins C dx []) := x1.frame _ _ hx (by simp) fun ps z => nomatch z
  have fx1 : F1 x = none := Classical.byContradiction fun z => (x1.newF x _ hx (isx _) z).elim (fun q => q fx) (by simp)
  refine ⟨_, h0, x, C, dx, [], rfl, hx1, cl, na.n0, by decide, ?_⟩
  -- the end
  have r1' := r1.poke (o := .ins C dx (putF "words" v [])) fx1 (by simp) (by rw [hx1]; exact nt _ _ _)
  refine ⟨[none, some (.d (.str t))], [], [], F1, r1', re F1, ?_⟩
  have e1 : en gLen (aCons (eVar 1) aNil) [none, some (.d (.str t))] [] = .ok (.d (.int t.length)) [] := by
    show calm (if t.length ≤ 16777216 then Out.ok (wI t.length) ([] : Mu) else .bad) = _
    rw [if_pos ht]
    rfl
  rw [e1]
  intro α2 F2 H2 x2 r2 w dw
  cases rep_nil r2
  have dw : Dq K F2 w (.int t.length) := dw
  cases dw
  have hx2 : H2 x = some (.ins C dx (putF "words" v [])) := x2.frame _ _ upd_same (by simp) fun ps z => nomatch z
  have fx2 : F2 x = none := Classical.byContradiction fun z => (x2.newF x _ upd_same (isx _) z).elim (fun q => q fx1) (by simp)
  refine ⟨_, h0, x, C, dx, _, rfl, hx2, cl, na.n1, Nat.lt_of_le_of_lt (L L0) (by decide), ?_⟩
  refine ⟨_, h0, x, C, dx, _, rfl, upd_same, cl, na.n2, Nat.lt_of_le_of_lt (L (L L0)) (by decide), ?_⟩
  refine ⟨_, h0, x, C, dx, _, rfl, upd_same, cl, na.n3, Nat.lt_of_le_of_lt (L (L (L L0))) (by decide), ?_⟩
  intro p hp
  have pne : p ≠ x := fun z => by rw [z, upd_same] at hp; cases hp
  refine ⟨_, h0, x, C, dx, _, rfl, (by rw [upd_ne (Ne.symm pne)]; exact upd_same), cl, na.n4, Nat.lt_of_le_of_lt (L (L (L (L L0)))) (by decide), ?_⟩
  refine ⟨by decide, fun q hq => ?_⟩
  have qne : q ≠ x := fun z => by rw [z, upd_same] at hq; cases hq
  have qnp : q ≠ p := fun z => by rw [z, upd_ne pne, upd_same] at hq; cases hq
  refine ⟨_, h0, x, C, dx, _, rfl, (by rw [upd_ne (Ne.symm qne)]; exact upd_same), cl, na.n5, Nat.lt_of_le_of_lt (L (L (L (L (L L0))))) (by decide), ?_⟩
  have c1 := r2.poke (o := .ins C dx (putF "end" (.int t.length) (putF "words" v []))) fx2 (by simp) (by rw [hx2]; exact nt _ _ _)
  have c2 := c1.poke (o := .ins C dx (putF "at" (.int 0) (putF "end" (.int t.length) (putF "words" v [])))) fx2 (by simp) (by rw [upd_same]; exact nt _ _ _)
  have c3 := c2.poke (o := .ins C dx (putF "entered" (.int 0) (putF "at" (.int 0) (putF "end" (.int t.length) (putF "words" v []))))) fx2 (by simp) (by rw [upd_same]; exact nt _ _ _)
  have fp : F2 p = none := c3.sub.free hp
  obtain ⟨c4, _⟩ := c3.side (o := .dK []) hp
  have c5 := c4.poke (D := x) (o := .ins C dx (putF "names" (.ref p) (putF "entered" (.int 0) (putF "at" (.int 0) (putF "end" (.int t.length) (putF "words" v [])))))) fx2 (by simp) (by rw [upd_ne (Ne.symm pne), upd_same]; exact nt _ _ _)
  have fq : F2 q = none := c5.sub.free hq
  obtain ⟨c6, _⟩ := c5.side (o := .lst []) hq
  have c7 := c6.poke (D := x) (o := .ins C dx (putF "faults" (.ref q) (putF "names" (.ref p) (putF "entered" (.int 0) (putF "at" (.int 0) (putF "end" (.int t.length) (putF "words" v []))))))) fx2 (by simp) (by rw [upd_ne (Ne.symm qne), upd_same]; exact nt _ _ _)
  have hp0 : H2 p = none := by
    rw [upd_ne pne, upd_ne pne, upd_ne pne] at hp
    exact hp
  have hq0 : H2 q = none := by
    rw [upd_ne qne, upd_ne qnp, upd_ne qne, upd_ne qne, upd_ne qne] at hq
    exact hq
  have low : ∀ a, a ≠ x → Fr H2 a → Fr H a := fun a ha z => x1.keep a fun o ho => x2.keep a z o (by rw [upd_ne ha]; exact ho)
  have up : ∀ a o, H a = some o → a ≠ x → (∀ ps, o ≠ .tbl ps) → (upd H1 x (.ins C dx (putF "words" v []))) a = some o := fun a o ha ne nt => by
    rw [upd_ne ne]
    exact x1.frame a o ha (by simp) nt
  refine fin F2 _ v p q ⟨x1.fro.trans x2.fro, c7, upd_same, dv.mono x2.fro, ?_, ?_, fx2, fp, fq, ⟨Ne.symm qnp, pne, qne⟩, ⟨low p pne (.of hp0), low q qne (.of hq0)⟩, fun a o ha ne nt => ?_, fun a z => ?_, fun a u ha c z => ?_⟩
  · rw [upd_ne pne, upd_ne (Ne.symm qnp), upd_ne pne, upd_same]
  · rw [upd_ne qne, upd_same]
  · have h2 := x2.frame a o (up a o ha ne nt) (by simp) nt
    have np : a ≠ p := fun z => by rw [z, hp0] at h2; cases h2
    have nq : a ≠ q := fun z => by rw [z, hq0] at h2; cases h2
    rw [upd_ne ne, upd_ne nq, upd_ne ne, upd_ne np, upd_ne ne, upd_ne ne, upd_ne ne]
    exact h2
  · by_cases ne : a = x
    · rw [ne] at z
      exact (z.no upd_same (fun ps z => nomatch z)).elim
    · by_cases np : a = p
      · rw [np] at z
        exact (z.no (o := .dK []) (by rw [upd_ne pne, upd_ne (Ne.symm qnp), upd_ne pne, upd_same]) (fun ps z => nomatch z)).elim
      · by_cases nq : a = q
        · rw [nq] at z
          exact (z.no (o := .lst []) (by rw [upd_ne qne, upd_same]) (fun ps z => nomatch z)).elim
        · refine low a ne fun o ho => z o ?_
          rw [upd_ne ne, upd_ne nq, upd_ne ne, upd_ne np, upd_ne ne, upd_ne ne, upd_ne ne]
          exact ho
  · have ne : a ≠ x := fun q => z (q ▸ fx2)
    rcases x2.newF a u (up a u ha ne c.nt) c z with q | q
    · rcases x1.newF a u ha c q with q | q
      · exact q
      · simp at q
    · simp at q
end
/-- __init__'s promise -/
def spInit (T : TabN) (K : PySem.W.Frag) (C : Addr) (g : GF) : Sp := fun vs H Q _ => ∃ (x dx : Addr) (t : Str) (F : Hp) (wl : List PyData), vs = [.ref x, .str t] ∧ H x = some (.ins C dx []) ∧ F x = none ∧ @Rep T K [] F [] H ∧ g [.d (.str t)] [] = .ok (.d (.tuple wl)) [] ∧ t.length ≤ 16777216 ∧
  ∀ F' H' v p q, @MadeR T K C x dx t wl F H F' H' v p q → Q .non H'
section
variable {P : Program} {w : World} {K : PySem.W.Frag} {mg : Str → Option Value} {base : Heap} {k : Nat} {f fI C : Addr} {x qual : Str} {st : Stmt} {fd : FuncData} {N : List Str} {g : GF} {T : TabN}
theorem init_ok (F : Fun K x qual st fI fd) (S : FnScope ["self", "text"] ["self", "text"] (defScope st)) (cl : Cls K C) (na : NoAt K C)
    (body : ∀ (cdv : Value) (A : Around) (outer : List Env) (s : Shared) (H : Hp) (E : XK), Room k (A.deeper (envOfC qual (defScope st) s.heap.objs.size fI cdv)) →
      PSs (cxOf (L2.CX P w) P w K mg base ["self", "text"] qual (defScope st) fI cdv A outer s H E) (defBody st) (tInit T K mg (fun cls d _ H => E cls d H) g)) :
    FnOk P w K mg base (L2.CX P w) (k + 1) fI fd ["self", "text"] (spInit T K C g) := by
  refine F.okX S (fun vs H Q E ⟨x, dx, t, F, wl, e, _⟩ => by rw [e]; rfl) fun cdv A outer s H vs Q E hr h => ⟨_, body cdv A outer s H E hr, ?_⟩
  obtain ⟨x, dx, t, F, wl, rfl, hx, fx, r, hg, ht, fin⟩ := h
  exact @init_reads T K mg _ F H g C x dx t wl _ _ rfl rfl rfl hx fx r hg ht cl na fin
def rdStart (t : Str) (wl : List PyData) : Mu := [some [.tuple wl, .int t.length, .int 0, .int 0, .none, .none], some [], some []]
def rdRho (n : Nat) (t : Str) : Rho := (initR n [.d (.str t)]).set 1 (some (.o 0))
/-- a def that makes a Reader of its text, and goes on with b -/
noncomputable def withR (g : GF) (n : Nat) (b : Sv) : GF := fun ws μ => match ws with
  | [.d (.str t)] => if @decide (t.length ≤ 16777216) (Classical.propDecidable _) = true then match g [.d (.str t)] [] with
    | .ok (.d (.tuple wl)) [] => match b (rdRho n t) (rdStart t wl) with
      | .ok (.rt (.d x)) _ => .ok (.d x) μ
      | .ok (.er y us _) _ => match allD us with
        | some c => .err y (c.map Wv.d) μ
        | none => .bad
      | _ => .bad
    | _ => .bad
    else .bad
  | _ => .bad
theorem rws_cross {T T' : TabN} {K : PySem.W.Frag} {α α' : List Addr} {F : Hp} : ∀ {vs : List V} {c : Cell}, @Rws T K α F vs (c.map Wv.d) → @Rws T' K α' F vs (c.map Wv.d)
  | [], [], _ => .nil
  | [], _ :: _, h => by cases h
  | _ :: _, [], h => by cases h
  | v :: vs, d :: c, h => by
    cases h with
    | cons r t => exact .cons (show Dq K F v d from r) (rws_cross t)
theorem within_ok (hO : T.O = []) (F : Fun K x qual st f fd) (S : FnScope N ["text"] (defScope st)) (hN : 1 < N.length) {b : Sv}
    (body : ∀ (cdv : Value) (A : Around) (outer : List Env) (s : Shared) (H : Hp) (E : XK), Room k (A.deeper (envOfC qual (defScope st) s.heap.objs.size f cdv)) →
      PSs (cxOf (L2.CX P w) P w K mg base N qual (defScope st) f cdv A outer s H E) (defBody st) (tSeq (tAsg (tMake C (spInit T K C g) [] (fun _ _ _ => False) (tCons (tVar 0) tNil)) (gName 1)) (@tS (rdT T C) K mg (fun cls d _ H => E cls d H) b))) :
    FnOk P w K mg base (L2.CX P w) (k + 1) f fd ["text"] (@spG T K mg 1 (withR g N.length b)) := by
  refine F.okX S (fun vs H Q E h => h.len) fun cdv A outer s H vs Q E hr h => ⟨_, body cdv A outer s H E hr, ?_⟩
  obtain ⟨ws, μ, α, F0, r, rv, q⟩ := h
  unfold arity at q
  split at q
  · unfold withR at q
    split at q
    · rename_i t _
      split at q
      · rename_i ht
        have ht := @of_decide_eq_true _ (Classical.propDecidable _) ht
        split at q
        · rename_i wl hg
          obtain ⟨v0, rfl, d0⟩ : ∃ v0, vs = [v0] ∧ Dq K F0 v0 (.str t) := by
            cases rv with
            | cons h1 h2 =>
              cases h2
              exact ⟨_, rfl, h1⟩
          cases d0
          have hs1 : 1 < (L2.start N [V.str t]).length := by
            unfold L2.start
            rw [List.length_append, List.length_map, List.length_replicate]
            simp
            omega
          refine ⟨.str t, rfl, fun x dx hx hdx ne => ?_⟩
          have r0 := r.none_ hO
          obtain ⟨r1, e1⟩ := r0.side (o := .own x) hdx
          have hx1 : (upd H dx (.own x)) x = none := by rw [upd_ne (Ne.symm ne)]; exact hx
          obtain ⟨r2, e2⟩ := r1.side (o := .ins C dx []) hx1
          have e12 := e1.trans e2
          refine ⟨x, dx, t, F0, wl, rfl, upd_same, r.sub.free hx, r2, hg, ht, fun F' H' v p q' M => ⟨rfl, ?_⟩⟩
          obtain ⟨hpq, hpx, hqx⟩ := M.ne
          have back : ∀ a, Fr (upd (upd H dx (.own x)) x (.ins C dx [])) a → Fr H a := fun a z => e12.keep a z
          have eA : Ext [] F0 H [x, p, q'] F' H' := ⟨⟨[x, p, q'], rfl⟩, M.fro, fun a o ha _ nt => M.frame a o (e12.frame a o ha (by simp) nt) (fun z => by rw [z, hx] at ha; cases ha) nt, fun a z => back a (M.keep a z),
            fun a u ha c z => .inl (M.newF a u (e12.frame a u ha (by simp) c.nt) c z), fun a m => .inr (by
              rcases List.mem_cons.mp m with rfl | m
              · exact .of hx
              · rcases List.mem_cons.mp m with rfl | m
                · exact back _ M.np.1
                · rcases List.mem_cons.mp m with rfl | m
                  · exact back _ M.np.2
                  · cases m)⟩
          have rR : @Rep (rdT T C) K [x, p, q'] F' (rdStart t wl) H' := by
            refine @Rep.mk (rdT T C) _ _ _ _ _ rfl M.rep.sub (Nat.le_refl _) (fun k c h => ?_) (fun i j a c c' h1 h2 h3 h4 => ?_) (fun a m => ?_) (@TabsOk.mk (rdT T C) F' H' M.rep.tab.tab M.rep.tab.out)
            · match k, h with
              | 0, h =>
                cases h
                refine ⟨x, rfl, M.fx, ?_⟩
                refine ⟨dx, _, M.hx, (by show 6 ≤ 100; decide), fun f hf => ?_, rfl, fun i f hi => ?_, fun i f j hi => ?_⟩
                · by_cases h0 : f = "words"
                  · rw [h0]; decide
                  · by_cases h1 : f = "end"
                    · rw [h1]; decide
                    · by_cases h2 : f = "at"
                      · rw [h2]; decide
                      · by_cases h3 : f = "entered"
                        · rw [h3]; decide
                        · by_cases h4 : f = "names"
                          · rw [h4]; decide
                          · by_cases h5 : f = "faults"
                            · rw [h5]; decide
                            · refine (hf ?_).elim
                              have nb : ∀ {a b : Str}, ¬ a = b → (a == b) = false := fun h => beq_eq_false_iff_ne.mpr h
                              simp only [List.lookup, nb h0, nb h1, nb h2, nb h3, nb h4, nb h5]
                · match i, hi with
                  | 0, hi => cases hi; exact ⟨v, _, rfl, rfl, M.dv⟩
                  | 1, hi => cases hi; exact ⟨_, _, rfl, rfl, .int _⟩
                  | 2, hi => cases hi; exact ⟨_, _, rfl, rfl, .int _⟩
                  | 3, hi => cases hi; exact ⟨_, _, rfl, rfl, .int _⟩
                  | 4, hi => cases hi
                  | 5, hi => cases hi
                  | i + 6, hi => simp at hi
                · match i, hi with
                  | 0, hi => cases hi
                  | 1, hi => cases hi
                  | 2, hi => cases hi
                  | 3, hi => cases hi
                  | 4, hi => cases hi; exact ⟨p, rfl, rfl, by show 1 < 3; decide⟩
                  | 5, hi => cases hi; exact ⟨q', rfl, rfl, by show 2 < 3; decide⟩
                  | i + 6, hi => simp at hi
              | 1, h => cases h; exact ⟨p, rfl, M.fp, [], M.hp, .nil⟩
              | 2, h => cases h; exact ⟨q', rfl, M.fq, [], M.hq, .nil⟩
              | k + 3, h => simp [rdStart] at h
            · have lt : ∀ {n : Nat} {c0 : Cell}, (rdStart t wl)[n]? = some (some c0) → n < 3 := fun h => (List.getElem?_eq_some_iff.mp h).1
              have li := lt h1
              have lj := lt h2
              match i, j, li, lj with
              | 0, 0, _, _ => rfl
              | 1, 1, _, _ => rfl
              | 2, 2, _, _ => rfl
              | 0, 1, _, _ => cases h3; cases h4; exact absurd rfl hpx
              | 0, 2, _, _ => cases h3; cases h4; exact absurd rfl hqx
              | 1, 0, _, _ => cases h3; cases h4; exact absurd rfl hpx
              | 1, 2, _, _ => cases h3; cases h4; exact absurd rfl hpq
              | 2, 0, _, _ => cases h3; cases h4; exact absurd rfl hqx
              | 2, 1, _, _ => cases h3; cases h4; exact absurd rfl hpq
            · intro z
              rcases List.mem_cons.mp m with rfl | m
              · exact z.no M.hx (fun _ z => nomatch z)
              · rcases List.mem_cons.mp m with rfl | m
                · exact z.no M.hp (fun _ z => nomatch z)
                · rcases List.mem_cons.mp m with rfl | m
                  · exact z.no M.hq (fun _ z => nomatch z)
                  · cases m
          have reR : @RepE (rdT T C) K [x, p, q'] F' (rdRho N.length t) ((L2.start N [V.str t]).set 1 (some (.ref x))) := by
            have := @repE_start (rdT T C) K [x, p, q'] F' N [V.str t] [.d (.str t)] (.cons (show Dq K F' _ _ from .str t) .nil)
            exact @RepE.set (rdT T C) _ _ _ _ _ this _ _ 1 ⟨x, rfl, rfl⟩
          refine ⟨rdRho N.length t, rdStart t wl, [x, p, q'], F', rR, reR, ?_⟩
          cases hb : b (rdRho N.length t) (rdStart t wl) with
          | bad => rw [hb] at q; exact q.elim
          | err y us μ' => rw [hb] at q; exact q.elim
          | ok fl μ' =>
            rw [hb] at q
            intro α' F'' H'' e' r'
            have sub : Same F'' H'' := @Rep.sub (rdT T C) _ _ _ _ _ r'
            have tab0 := @Rep.tab (rdT T C) _ _ _ _ _ r'
            have tab : @TabsOk T F'' H'' := @TabsOk.mk T F'' H'' (@TabsOk.tab (rdT T C) _ _ tab0) (@TabsOk.out (rdT T C) _ _ tab0)
            obtain ⟨rZ, eZ⟩ := r.aside hO (eA.trans e') sub tab
            cases fl with
            | rt w =>
              cases w with
              | d d1 => exact fun v hv => q.at eZ rZ v hv
              | _ => exact q.elim
            | nx _ => exact q.elim
            | bk _ => exact q.elim
            | ct _ => exact q.elim
            | er y us ρ' =>
              intro σ' C' d fs _ h1 h2 h2n h3
              have q : @gp T K mg _ α F0 H (match allD us with
                | some c => .err y (c.map Wv.d) μ
                | none => .bad) (Gw K Q) E := q
              cases hc : allD us with
              | none =>
                rw [hc] at q
                exact q.elim
              | some c =>
                rw [hc] at q
                rw [allD_map hc] at h3
                exact q α F'' H'' C' d fs eZ rZ h1 h2 h2n (rws_cross h3)
        · exact q.elim
      · exact q.elim
    · exact q.elim
  · exact q.elim
end
end TL
/-! TL27: small facts for printed proofs about Readers. -/
namespace TL
open PySem PySem.Spec L2 PyProof.Rows RZ
abbrev rdFs : List (Str × Option Nat) := [("words", none), ("end", none), ("at", none), ("entered", none), ("names", some 1), ("faults", some 2)]
theorem rd0 [TabN] {C : Addr} (h : TabN.O = rdK C) : TabN.O[0]? = some (.ins C rdFs) := by rw [h]; rfl
theorem rd1 [TabN] {C : Addr} (h : TabN.O = rdK C) : TabN.O[1]? = some .dic := by rw [h]; rfl
theorem rd2 [TabN] {C : Addr} (h : TabN.O = rdK C) : isL 2 := .inr (by rw [h]; rfl)
theorem rdk {j : Nat} {f g : Str} {u v : Option Nat} (h : some (f, u) = some (g, v)) (ne : ¬ f = g) {P : Prop} : P := absurd (congrArg Prod.fst (Option.some.inj h)) ne
theorem rdu2 : ∀ (j : Nat) (v : Option Nat), rdFs[j]? = some (("at" : Str), v) → j = 2
  | 0, v, h => rdk (j := 0) h (by decide)
  | 1, v, h => rdk (j := 0) h (by decide)
  | 2, v, h => rfl
  | 3, v, h => rdk (j := 0) h (by decide)
  | 4, v, h => rdk (j := 0) h (by decide)
  | 5, v, h => rdk (j := 0) h (by decide)
  | j + 6, v, h => by simp [rdFs] at h
theorem rdu3 : ∀ (j : Nat) (v : Option Nat), rdFs[j]? = some (("entered" : Str), v) → j = 3
  | 0, v, h => rdk (j := 0) h (by decide)
  | 1, v, h => rdk (j := 0) h (by decide)
  | 2, v, h => rdk (j := 0) h (by decide)
  | 3, v, h => rfl
  | 4, v, h => rdk (j := 0) h (by decide)
  | 5, v, h => rdk (j := 0) h (by decide)
  | j + 6, v, h => by simp [rdFs] at h
theorem hu1 {A : Around} {k : Nat} (h : Room k A) : A.units + 1 < cLine := by
  have := h.un
  omega
theorem fnf_bad [TabN] {P : Program} {w : World} {K : PySem.W.Frag} {mg : Str → Option Value} {base : Heap} {j n : Nat} {f : Addr} {fd : FuncData} {ps : List Str} (hn : ps.length = n) : FnOk P w K mg base (L2.CX P w) j f fd ps (spG K mg n fun _ _ => .bad) := by
  refine ⟨fun vs H Q E h => by rw [h.len, hn], fun A outer s H args us vs Q E hr he hb hv h => ?_⟩
  obtain ⟨ws, μ, α, F, r, rv, q⟩ := h
  unfold arity at q
  split at q <;> exact q.elim
theorem no_exc {X : Cx} : Passes (L2.CX X.prog X.w) X (fun _ _ _ => False) := fun pins σ H s e s' I h => by
  obtain ⟨_, _, _, _, _, _, _, _, _, _, _, _, z⟩ := h
  exact z.elim
/-- an error of the class at S is none that «except R» names -/
theorem exm_no {K : PySem.W.Frag} {S R : Addr} (h1 : PySem.W.subIn K (.ref R) (.type "BaseException") = some true) (h2 : PySem.W.isClsIn K R = true) (h3 : PySem.W.typeIn K (.ref R) = some (.type "type")) (h4 : PySem.W.subIn K (.ref S) (.ref R) = some false) :
    PySem.W.exmOne K (.ref S) (.ref R) = some false := by
  have e1 : (PySem.W.subIn K (.ref R) (.type "BaseException") == some true) = true := by rw [h1] <;> rfl
  have e2 : ((PySem.W.clsIn K R).isSome && PySem.W.typeIn K (.ref R) == some (.type "type")) = true := by
    have h2' : (PySem.W.clsIn K R).isSome = true := h2
    rw [h2', h3] <;> rfl
  show (if (PySem.W.subIn K (.ref R) (.type "BaseException") == some true) = true then (if ((PySem.W.clsIn K R).isSome && PySem.W.typeIn K (.ref R) == some (.type "type")) = true then PySem.W.subIn K (.ref S) (.ref R) else none) else none) = some false
  rw [if_pos e1, if_pos e2]
  exact h4
end TL
/-! XKW: an own exception (over ValueError) made with its field given by name; isinstance of one that has a dict. -/
namespace PySem
namespace XE
open PySem.W PySem.Calls PyProof.Rows PySem.HandSPX Builtin Builtin.ObjectAttr
/-- the parts of an own class over ValueError -/
structure CB where
  nm : Str
  q : Str
  N : Addr
  bs : List Value
  bm : List Value
  sn : List Str
  sub : List Value
  ab : Bool
  col : Option Bool
  dd : Option Addr
  k0 : Option Value
  k1 : Option Value
  k2 : Option Value
  k3 : Option Value
  k5 : Option Value
abbrev CB.ob (b : CB) (C : Addr) : Obj := excClassObj b.nm b.q C b.N b.bs b.bm true b.sn b.sub b.ab b.col b.dd b.k0 b.k1 b.k2 b.k3 b.k5 "ValueError.__new__"
theorem CB.has {b : CB} (hb : refsVE b.bm = true) (C : Addr) (X : String) (r : Bool) (h : veTail.contains (.type X) = r) : (Value.ref C :: b.bm).contains (.type X) = r := by
  rw [List.contains_cons, refsVE_contains X _ hb, h]
  cases r <;> rfl
section
variable {prog : Program} {w : World} {M : Model} {A : Around} {E : Value → Shared → Prop} {R : Result → Shared → Prop} {h : Heap} {g : Array GenState} {dr : Drawn} {t : Nat} {os : OsState} {C fI : Addr} {b : CB} {f : Str} {v : Value}
theorem kw_check {Q : Unit → Shared → Prop} (hb : refsVE b.bm = true) (hC : h.get? C = some (b.ob C)) (hq : Q () ⟨h, g, dr, t, os⟩) : wpAny M A (checkBuiltinCall "ValueError.__new__" ⟨[.ref C], [(f, v)]⟩) Q E ⟨h, g, dr, t, os⟩ := by
  have c1 := CB.has hb C "ValueError" true (by decide +kernel)
  have F := F.excBase_ValueError
  have c2 := F.noStar
  simp only [checkBuiltinCall, F.newKind, F.newSplit, F.newRow]
  repeat (first | refine wpAny_loadPart_at hC ?_ | (refine wpAny_isSubtype_exc hC ?_; rw [c1]) | refine wpAny_staticBase_exc hC ?_ | refine wpAny_madeBy_exc hC ?_ | simp only [bne_self_eq_false, Bool.false_eq_true, if_false] | wp_step)
  exact hq
theorem kw_new (hb : refsVE b.bm = true) (hC : h.get? C = some (b.ob C)) (hq : R (.ok (.ret (.ref (h.objs.size + 1)))) ⟨(h.push (W.kdv_tup [])).push (excO C h.objs.size), g, dr, t, os⟩) :
    codeAny (model prog w) A (.builtin "ValueError.__new__" ⟨[.ref C], [(f, v)]⟩) R ⟨h, g, dr, t, os⟩ := by
  have F := F.excBase_ValueError
  have z0 := F.ends
  have c1 := CB.has hb C "ValueError" true (by decide +kernel)
  have c2 := CB.has hb C "AttributeError" false (by decide +kernel)
  have c3 := CB.has hb C "NameError" false (by decide +kernel)
  have z1 : ([] : List Value).length ≤ sizeLine := Nat.zero_le _
  refine codeAny_builtinAt F.entry ?_
  unfold Builtin.«BaseException.__new__»
  refine wpAt_bind ?_
  show wpAt _ _ _ (stack >>= _) _ _ _
  refine wpAt_bind (wpAt_stack fun p below => wpAt_of_wpAny ?_)
  wp_walk
  refine wpAt_of_wpAny ?_
  rw [F.owner]
  repeat (first | with_reducible refine wpAny_madeHere_exc F.canon hC ?_ | with_reducible refine wpAny_loadPart_at hC ?_ | (with_reducible refine wpAny_isSubtype_exc hC ?_; first | rw [c1] | rw [c2] | rw [c3]) | wp_step)
  show R _ _
  rw [Heap.size_push]
  exact hq
theorem kw_type {Q : Fin → Shared → Prop} (hb : refsVE b.bm = true) (hC : h.get? C = some (b.ob C)) (hi : W.Looks (model prog w) h (typeLookup (.ref C) "__init__") (some (.ref fI))) (hs : ∀ self, W.Looks (model prog w) h (bindSpecial (.ref fI) self) (.ref fI, [self]))
    (hq : codeAny (model prog w) A (.call (.ref fI) ⟨[.ref (h.objs.size + 1)], [(f, v)]⟩)
      (fun r s' => match r with | .ok (.ret v) => v = .none ∧ Q (.done (.ret (.ref (h.objs.size + 1)))) s' | .ok _ => False | .error e => E e s')
      ⟨(h.push (W.kdv_tup [])).push (excO C h.objs.size), g, dr, t, os⟩) :
    wpAny (model prog w) A (Builtin.«type.__call__» ⟨[.ref C], [(f, v)]⟩) Q E ⟨h, g, dr, t, os⟩ := by
  repeat (first | with_reducible refine wpAny_loadPart_at hC ?_ | with_reducible refine wpAny_madeBy_exc hC ?_ | wp_step)
  refine codeAny_call_builtin_code (Code.quiet_builtin _ F.excBase_ValueError.quiet) (kw_check hb hC (kw_new hb hC ?_))
  show wpAny _ _ _ _ _ _
  have old : ∀ b o, h.get? b = some o → ((h.push (W.kdv_tup [])).push (excO C h.objs.size)).get? b = some o := fun b o e => Heap.get?_push_of_some _ (Heap.get?_push_of_some _ e)
  have hC2 := old _ _ hC
  have new : ((h.push (W.kdv_tup [])).push (excO C h.objs.size)).get? (h.objs.size + 1) = some (excO C h.objs.size) := by heap_get
  have self : (Value.ref C :: b.bm).contains (.ref C) = true := by simp
  have i2 := hi.keeps old
  have s2 := (hs (.ref (h.objs.size + 1))).keeps old
  unfold isInstance
  repeat (first | with_reducible refine wpAny_loadPart_at new ?_ | (with_reducible refine wpAny_isSubtype_exc hC2 ?_; rw [self]) | wp_step)
  show wpAny _ _ (typeLookup (.ref C) _) _ _ _
  refine i2.at (wpAny_holding (wpAny_bind (s2.at (wpAny_bind (wpAny_call (codeAny_mono hq fun r s' z => ?_))))))
  cases r with
  | error e => exact z
  | ok fl =>
    cases fl with
    | ret u =>
      obtain ⟨rfl, z⟩ := z
      first
        | exact wpAny_pure (wpAny_pure z)
        | (wp_walk; exact z)
    | next => exact z.elim
    | brk => exact z.elim
    | cont => exact z.elim
theorem kw_call (hb : refsVE b.bm = true) (hC : h.get? C = some (b.ob C)) (hi : W.Looks (model prog w) h (typeLookup (.ref C) "__init__") (some (.ref fI))) (hs : ∀ self, W.Looks (model prog w) h (bindSpecial (.ref fI) self) (.ref fI, [self]))
    (hq : codeAny (model prog w) (A.under (.builtin "type.__call__" ⟨[.ref C], [(f, v)]⟩)) (.call (.ref fI) ⟨[.ref (h.objs.size + 1)], [(f, v)]⟩) (W.InitBack (h.objs.size + 1) R) ⟨(h.push (W.kdv_tup [])).push (excO C h.objs.size), g, dr, t, os⟩) :
    codeAny (model prog w) A (.call (.ref C) ⟨[], [(f, v)]⟩) R ⟨h, g, dr, t, os⟩ := by
  have l1 := tc_lookup
  have l2 := tc_bind (.ref C)
  have ty : (⟨h, g, dr, t, os⟩ : Shared).TypeIs (.ref C) "type" := ⟨_, hC, rfl⟩
  refine codeAny_of_tree ?_
  show wpAny _ _ (callAny (.ref C) _) _ _ _
  repeat (any_goals (first | assumption | with_reducible refine wpAny_loadPart_at hC ?_ | wp_step))
  refine ⟨rfl, codeAny_call_builtin_at (Code.quiet_builtin _ (by decide +kernel)) entry_typeCall (wpAny_check_type_call_sub hC (kw_type hb hC hi hs (codeAny_mono hq fun r s' z => ?_)))⟩
  rcases r with e | (u | _ | _ | _) <;> exact z
end
/-- what the written part says of an own class at C (over ValueError) -/
structure XCls (K : Frag) (C : Addr) : Prop where
  cls : ∃ b : CB, K.lookup C = some (b.ob C) ∧ refsVE b.bm = true
  sa : findIn K (.ref C) "__setattr__" = some (some (.builtin "object.__setattr__"))
  ga : findIn K (.ref C) "__getattribute__" = some (some (.builtin "BaseException.__getattribute__"))
  gg : findIn K (.ref C) "__getattr__" = some none
  kC : keepIn K (.ref C) = true
  exC : subIn K (.ref C) (.type "BaseException") = some true
  hdC : hasDictIn K C = true
  ca : findIn K (.ref C) "__class__" = some (some (.builtin "object.__class__"))
  cg : specialIn K (.builtin "object.__class__") "__get__" = some (some (.builtin "getset_descriptor.__get__"))
  ct : takesIn K (.builtin "object.__class__") = some true
  cm : mroIn K C (.type "object") = some true
section
variable {prog : Program} {w : World} {A : Around} {E : Value → Shared → Prop} {s : Shared} {K : Frag} {x C : Addr} {ox : Obj} {od : Option Obj}
theorem XCls.found (T : XCls K C) : findObj K C od "__class__" = some (.bind (.builtin "getset_descriptor.__get__") (.builtin "object.__class__")) := by
  obtain ⟨b, hC, _⟩ := T.cls
  have hc : ∃ cd, clsIn K C = some cd := by
    unfold clsIn
    rw [hC]
    exact ⟨_, rfl⟩
  obtain ⟨cd, hc⟩ := hc
  unfold findObj
  rw [hc, Option.bind_some, T.ca, Option.bind_some]
  simp [T.cg, T.ct]
/-- e.__class__, e with a dict or without -/
theorem XCls.cls_of (T : XCls K C) {Q : Option Value → Shared → Prop} (X : K.In s.heap) (I : InstAt s.heap x ox C od) (h : Q (some (.ref C)) { s with toks := s.toks + 1 }) : wpAny (model prog w) A (getAttr? (.ref x) "__class__") Q E s := by
  obtain ⟨hp, g, dr, t, os⟩ := s
  have a0 := I.type (M := model prog w)
  have a1 := looks_findIn (M := model prog w) X T.ga
  have a2 := looks_findIn (M := model prog w) X T.gg
  have a3 := looks_find (M := model prog w) X I (T.found (od := od))
  have a4 : Looks (model prog w) hp (isInstance (.ref x) (.type "BaseException")) true := a0.andThen (looks_subIn X T.exC)
  have n1 : (false && onTheHeap (Value.builtin "BaseException.__getattribute__")) = false := rfl
  have n2 : (onTheHeap (Value.ref C) && Value.builtin "BaseException.__getattribute__" == Value.builtin "object.__getattribute__") = false := by
    rw [show (Value.builtin "BaseException.__getattribute__" == Value.builtin "object.__getattribute__") = false by decide +kernel]
    rfl
  unfold getAttr? getAttrBy? getAttrBy
  refine wpAny_bind (wpAny_mkText (wpAny_bind (wpAny_attempt (wpAny_holding (wpAny_bind (a0.at (wpAny_bind (a1.at ?_))))))))
  show wpAny _ _ (if (onTheHeap (Value.ref C) && Value.builtin "BaseException.__getattribute__" == Value.builtin "object.__getattribute__") = true then _ else _) _ _ _
  rw [n2, if_neg (by decide)]
  unfold getAttrByItsOwn hookBefore
  refine wpAny_bind ?_
  rw [if_pos (show onTheHeap (Value.ref C) = true from rfl)]
  refine a2.at (wpAny_bind (wpAny_attempt (wpAny_holding ?_)))
  unfold callGetattribute
  rw [n1, if_neg (by decide)]
  unfold boundAndCalled
  rw [PySem.F.excAttr_ValueError.ga.bind (.ref x)]
  refine wpAny_bind (wpAny_pure ?_)
  show wpAny _ _ (call (.builtin "BaseException.__getattribute__") [.ref x, .str "__class__" t]) _ _ _
  refine wpAny_call (codeAny_call_builtin PySem.F.excAttr_ValueError.ga.plain PySem.F.entry_bexc_ga (@check_slot (model prog w) _ _ ⟨hp, g, dr, t + 1, os⟩ "BaseException.__getattribute__" "BaseException" "__getattribute__" (.ref x) [.str "__class__" t] [] _ (by decide +kernel) (by decide +kernel) a4 (PySem.F.args_bexc_ga (.ref x) (.str "__class__" t)) ?_))
  unfold Builtin.«object.__getattribute__»
  refine wpAny_bind (wpAny_of_eq (a := ((Value.ref x : Value), [Value.str "__class__" t])) (by first | rfl | (simp only [slotArgs]; rfl)) (wpAny_bind (wpAny_pure (wpAny_bind (a0.at (wpAny_bind (a3.at ?_)))))))
  show wpAny _ _ (holding [Value.builtin "object.__class__"] (call (.builtin "getset_descriptor.__get__") [.builtin "object.__class__", .ref x, .ref C]) >>= ret) _ _ _
  refine wpAny_bind (wpAny_holding (wpAny_call (class_get (s := ⟨hp, g, dr, t + 1, os⟩) (ox := ox) (od := od) X I T.cm (wpAny_pure ?_))))
  show wpAny _ _ (handedOut (.ref C)) _ _ _
  rw [handedOut_of (v := .ref C) rfl]
  first
    | exact wpAny_pure (wpAny_pure h)
    | exact wpAny_pure h
    | exact wpAny_pure (wpAny_bind (wpAny_pure (wpAny_pure h)))
/-- what isinstance asks of such an exception -/
theorem XCls.kit (T : XCls K C) : KitX K (.ref x) (.ref C) (fun h => InstAt h x ox C od) where
  ty := fun _ _ _ I => I.type
  it := fun _ _ X _ => by
    obtain ⟨b, hC, _⟩ := T.cls
    intro A' Q' E' s' k q
    unfold isType loadHead
    exact wpAny_bind (wpAny_loadPart (k _ _ (X _ _ hC)) (wpAny_pure q))
  ne := fun h tp dd its n sl X htp => by
    obtain ⟨b, hC, _⟩ := T.cls
    refine Bool.eq_false_iff.mpr fun q => ?_
    have e : C = tp := Value.ref.inj (beq_iff_eq.mp q)
    subst e
    have z : Value.type "type" = Value.type "tuple" := congrArg Obj.cls (Option.some.inj ((X _ _ hC).symm.trans htp))
    injection z with z
    exact absurd z (by decide)
  ca := fun X I k => T.cls_of X I k
end
end XE
end PySem
namespace L2
open PySem PySem.Spec PyProof.Rows
/-- isinstance(e, c), e an exception value -/
def rIsX (K : PySem.W.Frag) : List V → Hp → VK → Prop := fun xs H Q => ∃ (a C : Addr) (d : Option Addr) (c : V) (u : Value) (r : Bool), xs = [.ref a, c] ∧ ClsV c u ∧ PySem.XE.XCls K C ∧ H a = some (exo a C d) ∧ (∀ dd, d = some dd → ∃ fs, H dd = some (exd dd fs)) ∧ PySem.W.kitOne K (.ref C) u = some r ∧ Q (.bl r) H
theorem call_isX {X : Cx} : CallR X (.builtin "isinstance") (rIsX X.K) := by
  intro pins s σ H xs us Q I r h
  obtain ⟨a, C, d, c, u, b, rfl, k, T, ea, ed, e, q⟩ := h
  obtain ⟨u1, u2, rfl, r1, r2⟩ := vals2 r
  obtain rfl : u1 = Value.ref a := r1
  have e2 := k.eq r2
  subst e2
  obtain ⟨t1, ho⟩ := exo_at I.hok ea
  cases d with
  | none =>
    have J : PySem.W.InstAt s.heap a { cls := .ref C, dict := none, data := .fields #[.ref t1, .none, .none, .none, .bool false, .none] } C none := ⟨ho, rfl, rfl, trivial⟩
    exact PySem.W.kia_one T.kit I.kIn J e (fun z => nomatch z) fun tk => ⟨.bl b, H, I.tok tk, rfl, q⟩
  | some dd =>
    obtain ⟨fs, ed⟩ := ed dd rfl
    obtain ⟨mA, hns, hr⟩ := exd_at I.hok ed
    obtain ⟨od, hod, hl⟩ := lookIn_ns hns
    have J : PySem.W.InstAt s.heap a { cls := .ref C, dict := some dd, data := .fields #[.ref t1, .none, .none, .none, .bool false, .none] } C (some od) := ⟨ho, rfl, rfl, hod⟩
    exact PySem.W.kia_one T.kit I.kIn J e (fun z => nomatch z) fun tk => ⟨.bl b, H, I.tok tk, rfl, q⟩
end L2
/-! XE: own exceptions as values. -/
namespace PySem
namespace XE
open PySem.W PySem.Calls PyProof.Rows PySem.HandSPX
theorem one_size (v : Value) : [v].length ≤ sizeLine := by
  rw [sizeLine_eq]
  exact (by decide : 1 ≤ 16777216)
theorem ldC {M : Model} {s : Shared} {name : Str} {scope : Scope} {L a : Addr} {cd : Value} {m : Str → Option Value} {x : Str} {pos : Pos} {v : Value} {Q : Value → Shared → Prop} {A : Around} {E : Value → Shared → Prop} (hn : s.heap.Ns L m) (hv : m x = some v) (h : Q v s)
    (hk : scope.kind = .function := by rfl) (hl : (envOfC name scope L a cd).kindOf x = some .local := by rfl) (hd : (x == ("__debug__" : Str)) = false := by decide) :
    wpAny M A (eval (.Name x pos) (envOfC name scope L a cd)) Q E s := wpAny_Name (wpAny_loadName_local hk hl hn hv h) hd
structure InitEnd (f : Str) (h h' : Heap) (x C dx t1 : Addr) (v : Value) : Prop where
  keep : ∀ b o, b ≠ x → h.get? b = some o → h'.get? b = some o
  obj : h'.get? x = some { cls := .ref C, dict := some dx, data := .fields #[.ref t1, .none, .none, .none, .bool false, .none] }
  dbig : h.objs.size ≤ dx
  dne : dx ≠ x
  ns : h'.Ns1 dx (fun y => if y = f then some v else none)
/-- a made exception, as it stands -/
structure ExMade (f : Str) (h h' : Heap) (e C d : Addr) (v : Value) : Prop where
  keep : ∀ b o, h.get? b = some o → h'.get? b = some o
  new : h.objs.size ≤ e
  obj : ∃ t1 : Addr, h'.get? e = some { cls := .ref C, dict := some d, data := .fields #[.ref t1, .none, .none, .none, .bool false, .none] }
  dbig : h.objs.size ≤ d
  dne : d ≠ e
  ns : h'.Ns1 d (fun y => if y = f then some v else none)
end XE
namespace XE_given
open PySem.W PySem.Calls PyProof.Rows PySem.HandSPX PySem.XE
def iA (p1 p2 : Pos) : Arguments := { posonlyargs := [], args := [{ arg := "self", annotation := none, pos := p1 }, { arg := "given", annotation := none, pos := p2 }], vararg := none, kwonlyargs := [], kw_defaults := [], kwarg := none, defaults := [] }
def iB (q1 q2 q3 q4 : Pos) : List Stmt := [.Assign [.Attribute (.Name "self" q1) "given" q2] (.Name "given" q3) q4]
def iS : Scope := { kind := .function, names := [(PySem.Str.ofString "self", .local), (PySem.Str.ofString "given", .local)], isGenerator := false, isCoroutine := false, more := [] }
/-- and of its __init__ -/
structure XTxt (qn : Str) (K : Frag) (C fI : Addr) : Prop where
  X : XCls K C
  noN : findIn K (.ref C) "given" = some none
  iC : findIn K (.ref C) "__init__" = some (some (.ref fI))
  tC : typeIn K (.ref fI) = some (.type "function")
  fn : ∃ (oc : Value) (od : Option Addr) (doc pm : Value) (an : Option Addr) (cdv ct : Value) (osl : Array (Option Value)) (p1 p2 q1 q2 q3 q4 : Pos),
    K.lookup fI = some ⟨oc, od, .func (fnOf "__init__" qn (iA p1 p2) (iB q1 q2 q3 q4) iS .none .none doc pm an cdv ct), osl⟩ ∧ codeIn K cdv qn = true
section
variable {prog : Program} {w : World} {A : Around} {E : Value → Shared → Prop} {R : Result → Shared → Prop} {s : Shared} {K : Frag} {C fI : Addr} {qn : Str}
theorem low_end (T : XTxt qn K C fI) {x t0 : Addr} {v : Value} {args : Args} (hargs : args = ⟨[.ref x, v], []⟩ ∨ args = ⟨[.ref x], [("given", v)]⟩) (X : K.In s.heap) (hlim : s.heap.NoLimit) (hx : s.heap.get? x = some (excO C t0)) (hroom : A.depth < recursionLimit)
    (hq : ∀ h' tk dx, InitEnd "given" s.heap h' x C dx t0 v → R (.ok (.ret .none)) { s with heap := h', toks := tk }) :
    codeAny (model prog w) A (.call (.ref fI) args) R s := by
  obtain ⟨oc, od, doc, pm, an, cdv, ct, osl, p1, p2, q1, q2, q3, q4, ho, hcd⟩ := T.fn
  obtain ⟨b, hC, hbm⟩ := T.X.cls
  have hcl : ∃ cd, clsIn K C = some cd ∧ refsVE cd.mro = true ∧ cd.hasDict = true := by
    unfold clsIn
    rw [hC]
    exact ⟨_, rfl, show refsVE (.ref C :: b.bm) = true from hbm, rfl⟩
  obtain ⟨cd, hcl, hcm, hch⟩ := hcl
  have hb : BindsTo s (fnOf "__init__" qn (iA p1 p2) (iB q1 q2 q3 q4) iS .none .none doc pm an cdv ct) args [("self", .ref x), ("given", v)] := by
    rcases hargs with rfl | rfl
    · exact BindsTo.of_eq (by first | rfl | with_unfolding_all rfl)
    · exact BindsTo.of_eq (by first | rfl | with_unfolding_all rfl)
  refine Att.call_fn (binds := [("self", .ref x), ("given", v)]) X hlim ho hcd hroom hb (by first | rfl | decide | with_unfolding_all rfl) (fun s₁ IC => ?_) rfl rfl rfl
  obtain ⟨h₁, tk₁, rfl⟩ := IC.toInCall.same
  have k : ∀ b o, s.heap.get? b = some o → h₁.get? b = some o := IC.toInCall.keep
  have hn := IC.toInCall.ns
  have hxL : s.heap.objs.size ≠ x := Nat.ne_of_gt (Heap.lt_size hx)
  have X₁ : K.In h₁ := X.keeps k
  have hx₁ := k _ _ hx
  show wpAny _ _ (execs _ _) _ _ _
  refine wpAny_execs_cons (plainObj_wpAny_Assign_Attribute ?_)
  refine ldC (v := v) hn (by first | rfl | with_unfolding_all rfl | kernel_rfl) (ldC (v := .ref x) hn (by first | rfl | with_unfolding_all rfl | kernel_rfl) ?_)
  refine set_plain X₁ (ox := excO C t0) (od := none) ⟨hx₁, rfl, rfl, trivial⟩ T.X.sa ?_
  refine exc_osa X₁ hx₁ hcl hcm hch T.noN (fun h₃ tk₃ dx k₃ dn dne hx₃ hn₃ => ?_)
  show wpAny _ _ (execs _ _) _ _ _
  have z : s.heap.objs.size < h₁.objs.size := hn.lt
  exact wpAny_execs_nil (hq h₃ tk₃ dx ⟨fun b o hb e => k₃ b o hb (k b o e), hx₃, Nat.le_of_lt (Nat.lt_of_lt_of_le z dn), dne, hn₃⟩)
theorem made_by_place (T : XTxt qn K C fI) {v : Value} (X : K.In s.heap) (hlim : s.heap.NoLimit) (hroom : A.depth + 1 < recursionLimit)
    (hq : ∀ h' tk e d, ExMade "given" s.heap h' e C d v → R (.ok (.ret (.ref e))) { s with heap := h', toks := tk }) :
    codeAny (model prog w) A (.call (.ref C) ⟨[v], []⟩) R s := by
  obtain ⟨b, hC, hbm⟩ := T.X.cls
  obtain ⟨hp, g, dr, tk, os⟩ := s
  have k : ∀ b o, hp.get? b = some o → ((hp.push (kdv_tup [v])).push (excO C hp.objs.size)).get? b = some o := fun b o e => Heap.get?_push_of_some _ (Heap.get?_push_of_some _ e)
  have hget : ((hp.push (kdv_tup [v])).push (excO C hp.objs.size)).get? (hp.objs.size + 1) = some (excO C hp.objs.size) := by heap_get
  refine call_own F.excBase_ValueError (fun X => refsVE_contains X b.bm hbm) (X _ _ hC) (looks_findIn X T.iC) (fun self => bind_fn X self T.tC) (one_size v) ?_
  refine low_end (s := ⟨(hp.push (kdv_tup [v])).push (excO C hp.objs.size), g, dr, tk, os⟩) T (.inl rfl) (X.keeps k) (hlim.keeps k) hget ?_ fun h' tk' dx ⟨k', hx, dn, dne, hns⟩ => ?_
  · show A.depth + 1 < recursionLimit
    exact hroom
  · have old : ∀ b o, hp.get? b = some o → h'.get? b = some o := fun b o e => k' b o (Nat.ne_of_lt (Nat.lt_succ_of_lt (Heap.lt_size e))) (k b o e)
    have z : hp.objs.size + 1 + 1 ≤ dx := by
      first
        | (simpa only [Heap.size_push] using dn)
        | exact dn
        | (have q := dn; rw [Heap.size_push, Heap.size_push] at q; exact q)
    exact ⟨rfl, hq h' tk' (hp.objs.size + 1) dx ⟨old, Nat.le_succ _, ⟨_, hx⟩, Nat.le_trans (Nat.le_trans (Nat.le_succ _) (Nat.le_succ _)) z, dne, hns⟩⟩
theorem made_by_name (T : XTxt qn K C fI) {v : Value} (X : K.In s.heap) (hlim : s.heap.NoLimit) (hroom : A.depth + 1 < recursionLimit)
    (hq : ∀ h' tk e d, ExMade "given" s.heap h' e C d v → R (.ok (.ret (.ref e))) { s with heap := h', toks := tk }) :
    codeAny (model prog w) A (.call (.ref C) ⟨[], [("given", v)]⟩) R s := by
  obtain ⟨b, hC, hbm⟩ := T.X.cls
  obtain ⟨hp, g, dr, tk, os⟩ := s
  have k : ∀ b o, hp.get? b = some o → ((hp.push (kdv_tup [])).push (excO C hp.objs.size)).get? b = some o := fun b o e => Heap.get?_push_of_some _ (Heap.get?_push_of_some _ e)
  have hget : ((hp.push (kdv_tup [])).push (excO C hp.objs.size)).get? (hp.objs.size + 1) = some (excO C hp.objs.size) := by heap_get
  refine kw_call hbm (X _ _ hC) (looks_findIn X T.iC) (fun self => bind_fn X self T.tC) ?_
  refine low_end (s := ⟨(hp.push (kdv_tup [])).push (excO C hp.objs.size), g, dr, tk, os⟩) T (.inr rfl) (X.keeps k) (hlim.keeps k) hget ?_ fun h' tk' dx ⟨k', hx, dn, dne, hns⟩ => ?_
  · show A.depth + 1 < recursionLimit
    exact hroom
  · have old : ∀ b o, hp.get? b = some o → h'.get? b = some o := fun b o e => k' b o (Nat.ne_of_lt (Nat.lt_succ_of_lt (Heap.lt_size e))) (k b o e)
    have z : hp.objs.size + 1 + 1 ≤ dx := by
      first
        | (simpa only [Heap.size_push] using dn)
        | exact dn
        | (have q := dn; rw [Heap.size_push, Heap.size_push] at q; exact q)
    exact ⟨rfl, hq h' tk' (hp.objs.size + 1) dx ⟨old, Nat.le_succ _, ⟨_, hx⟩, Nat.le_trans (Nat.le_trans (Nat.le_succ _) (Nat.le_succ _)) z, dne, hns⟩⟩
end
end XE_given
namespace XE_index
open PySem.W PySem.Calls PyProof.Rows PySem.HandSPX PySem.XE
def iA (p1 p2 : Pos) : Arguments := { posonlyargs := [], args := [{ arg := "self", annotation := none, pos := p1 }, { arg := "index", annotation := none, pos := p2 }], vararg := none, kwonlyargs := [], kw_defaults := [], kwarg := none, defaults := [] }
def iB (q1 q2 q3 q4 : Pos) : List Stmt := [.Assign [.Attribute (.Name "self" q1) "index" q2] (.Name "index" q3) q4]
def iS : Scope := { kind := .function, names := [(PySem.Str.ofString "self", .local), (PySem.Str.ofString "index", .local)], isGenerator := false, isCoroutine := false, more := [] }
/-- and of its __init__ -/
structure XTxt (qn : Str) (K : Frag) (C fI : Addr) : Prop where
  X : XCls K C
  noN : findIn K (.ref C) "index" = some none
  iC : findIn K (.ref C) "__init__" = some (some (.ref fI))
  tC : typeIn K (.ref fI) = some (.type "function")
  fn : ∃ (oc : Value) (od : Option Addr) (doc pm : Value) (an : Option Addr) (cdv ct : Value) (osl : Array (Option Value)) (p1 p2 q1 q2 q3 q4 : Pos),
    K.lookup fI = some ⟨oc, od, .func (fnOf "__init__" qn (iA p1 p2) (iB q1 q2 q3 q4) iS .none .none doc pm an cdv ct), osl⟩ ∧ codeIn K cdv qn = true
section
variable {prog : Program} {w : World} {A : Around} {E : Value → Shared → Prop} {R : Result → Shared → Prop} {s : Shared} {K : Frag} {C fI : Addr} {qn : Str}
theorem low_end (T : XTxt qn K C fI) {x t0 : Addr} {v : Value} {args : Args} (hargs : args = ⟨[.ref x, v], []⟩ ∨ args = ⟨[.ref x], [("index", v)]⟩) (X : K.In s.heap) (hlim : s.heap.NoLimit) (hx : s.heap.get? x = some (excO C t0)) (hroom : A.depth < recursionLimit)
    (hq : ∀ h' tk dx, InitEnd "index" s.heap h' x C dx t0 v → R (.ok (.ret .none)) { s with heap := h', toks := tk }) :
    codeAny (model prog w) A (.call (.ref fI) args) R s := by
  obtain ⟨oc, od, doc, pm, an, cdv, ct, osl, p1, p2, q1, q2, q3, q4, ho, hcd⟩ := T.fn
  obtain ⟨b, hC, hbm⟩ := T.X.cls
  have hcl : ∃ cd, clsIn K C = some cd ∧ refsVE cd.mro = true ∧ cd.hasDict = true := by
    unfold clsIn
    rw [hC]
    exact ⟨_, rfl, show refsVE (.ref C :: b.bm) = true from hbm, rfl⟩
  obtain ⟨cd, hcl, hcm, hch⟩ := hcl
  have hb : BindsTo s (fnOf "__init__" qn (iA p1 p2) (iB q1 q2 q3 q4) iS .none .none doc pm an cdv ct) args [("self", .ref x), ("index", v)] := by
    rcases hargs with rfl | rfl
    · exact BindsTo.of_eq (by first | rfl | with_unfolding_all rfl)
    · exact BindsTo.of_eq (by first | rfl | with_unfolding_all rfl)
  refine Att.call_fn (binds := [("self", .ref x), ("index", v)]) X hlim ho hcd hroom hb (by first | rfl | decide | with_unfolding_all rfl) (fun s₁ IC => ?_) rfl rfl rfl
  obtain ⟨h₁, tk₁, rfl⟩ := IC.toInCall.same
  have k : ∀ b o, s.heap.get? b = some o → h₁.get? b = some o := IC.toInCall.keep
  have hn := IC.toInCall.ns
  have hxL : s.heap.objs.size ≠ x := Nat.ne_of_gt (Heap.lt_size hx)
  have X₁ : K.In h₁ := X.keeps k
  have hx₁ := k _ _ hx
  show wpAny _ _ (execs _ _) _ _ _
  refine wpAny_execs_cons (plainObj_wpAny_Assign_Attribute ?_)
  refine ldC (v := v) hn (by first | rfl | with_unfolding_all rfl | kernel_rfl) (ldC (v := .ref x) hn (by first | rfl | with_unfolding_all rfl | kernel_rfl) ?_)
  refine set_plain X₁ (ox := excO C t0) (od := none) ⟨hx₁, rfl, rfl, trivial⟩ T.X.sa ?_
  refine exc_osa X₁ hx₁ hcl hcm hch T.noN (fun h₃ tk₃ dx k₃ dn dne hx₃ hn₃ => ?_)
  show wpAny _ _ (execs _ _) _ _ _
  have z : s.heap.objs.size < h₁.objs.size := hn.lt
  exact wpAny_execs_nil (hq h₃ tk₃ dx ⟨fun b o hb e => k₃ b o hb (k b o e), hx₃, Nat.le_of_lt (Nat.lt_of_lt_of_le z dn), dne, hn₃⟩)
theorem made_by_place (T : XTxt qn K C fI) {v : Value} (X : K.In s.heap) (hlim : s.heap.NoLimit) (hroom : A.depth + 1 < recursionLimit)
    (hq : ∀ h' tk e d, ExMade "index" s.heap h' e C d v → R (.ok (.ret (.ref e))) { s with heap := h', toks := tk }) :
    codeAny (model prog w) A (.call (.ref C) ⟨[v], []⟩) R s := by
  obtain ⟨b, hC, hbm⟩ := T.X.cls
  obtain ⟨hp, g, dr, tk, os⟩ := s
  have k : ∀ b o, hp.get? b = some o → ((hp.push (kdv_tup [v])).push (excO C hp.objs.size)).get? b = some o := fun b o e => Heap.get?_push_of_some _ (Heap.get?_push_of_some _ e)
  have hget : ((hp.push (kdv_tup [v])).push (excO C hp.objs.size)).get? (hp.objs.size + 1) = some (excO C hp.objs.size) := by heap_get
  refine call_own F.excBase_ValueError (fun X => refsVE_contains X b.bm hbm) (X _ _ hC) (looks_findIn X T.iC) (fun self => bind_fn X self T.tC) (one_size v) ?_
  refine low_end (s := ⟨(hp.push (kdv_tup [v])).push (excO C hp.objs.size), g, dr, tk, os⟩) T (.inl rfl) (X.keeps k) (hlim.keeps k) hget ?_ fun h' tk' dx ⟨k', hx, dn, dne, hns⟩ => ?_
  · show A.depth + 1 < recursionLimit
    exact hroom
  · have old : ∀ b o, hp.get? b = some o → h'.get? b = some o := fun b o e => k' b o (Nat.ne_of_lt (Nat.lt_succ_of_lt (Heap.lt_size e))) (k b o e)
    have z : hp.objs.size + 1 + 1 ≤ dx := by
      first
        | (simpa only [Heap.size_push] using dn)
        | exact dn
        | (have q := dn; rw [Heap.size_push, Heap.size_push] at q; exact q)
    exact ⟨rfl, hq h' tk' (hp.objs.size + 1) dx ⟨old, Nat.le_succ _, ⟨_, hx⟩, Nat.le_trans (Nat.le_trans (Nat.le_succ _) (Nat.le_succ _)) z, dne, hns⟩⟩
theorem made_by_name (T : XTxt qn K C fI) {v : Value} (X : K.In s.heap) (hlim : s.heap.NoLimit) (hroom : A.depth + 1 < recursionLimit)
    (hq : ∀ h' tk e d, ExMade "index" s.heap h' e C d v → R (.ok (.ret (.ref e))) { s with heap := h', toks := tk }) :
    codeAny (model prog w) A (.call (.ref C) ⟨[], [("index", v)]⟩) R s := by
  obtain ⟨b, hC, hbm⟩ := T.X.cls
  obtain ⟨hp, g, dr, tk, os⟩ := s
  have k : ∀ b o, hp.get? b = some o → ((hp.push (kdv_tup [])).push (excO C hp.objs.size)).get? b = some o := fun b o e => Heap.get?_push_of_some _ (Heap.get?_push_of_some _ e)
  have hget : ((hp.push (kdv_tup [])).push (excO C hp.objs.size)).get? (hp.objs.size + 1) = some (excO C hp.objs.size) := by heap_get
  refine kw_call hbm (X _ _ hC) (looks_findIn X T.iC) (fun self => bind_fn X self T.tC) ?_
  refine low_end (s := ⟨(hp.push (kdv_tup [])).push (excO C hp.objs.size), g, dr, tk, os⟩) T (.inr rfl) (X.keeps k) (hlim.keeps k) hget ?_ fun h' tk' dx ⟨k', hx, dn, dne, hns⟩ => ?_
  · show A.depth + 1 < recursionLimit
    exact hroom
  · have old : ∀ b o, hp.get? b = some o → h'.get? b = some o := fun b o e => k' b o (Nat.ne_of_lt (Nat.lt_succ_of_lt (Heap.lt_size e))) (k b o e)
    have z : hp.objs.size + 1 + 1 ≤ dx := by
      first
        | (simpa only [Heap.size_push] using dn)
        | exact dn
        | (have q := dn; rw [Heap.size_push, Heap.size_push] at q; exact q)
    exact ⟨rfl, hq h' tk' (hp.objs.size + 1) dx ⟨old, Nat.le_succ _, ⟨_, hx⟩, Nat.le_trans (Nat.le_trans (Nat.le_succ _) (Nat.le_succ _)) z, dne, hns⟩⟩
end
end XE_index
namespace XE_spot
open PySem.W PySem.Calls PyProof.Rows PySem.HandSPX PySem.XE
def iA (p1 p2 : Pos) : Arguments := { posonlyargs := [], args := [{ arg := "self", annotation := none, pos := p1 }, { arg := "spot", annotation := none, pos := p2 }], vararg := none, kwonlyargs := [], kw_defaults := [], kwarg := none, defaults := [] }
def iB (q1 q2 q3 q4 : Pos) : List Stmt := [.Assign [.Attribute (.Name "self" q1) "spot" q2] (.Name "spot" q3) q4]
def iS : Scope := { kind := .function, names := [(PySem.Str.ofString "self", .local), (PySem.Str.ofString "spot", .local)], isGenerator := false, isCoroutine := false, more := [] }
/-- and of its __init__ -/
structure XTxt (qn : Str) (K : Frag) (C fI : Addr) : Prop where
  X : XCls K C
  noN : findIn K (.ref C) "spot" = some none
  iC : findIn K (.ref C) "__init__" = some (some (.ref fI))
  tC : typeIn K (.ref fI) = some (.type "function")
  fn : ∃ (oc : Value) (od : Option Addr) (doc pm : Value) (an : Option Addr) (cdv ct : Value) (osl : Array (Option Value)) (p1 p2 q1 q2 q3 q4 : Pos),
    K.lookup fI = some ⟨oc, od, .func (fnOf "__init__" qn (iA p1 p2) (iB q1 q2 q3 q4) iS .none .none doc pm an cdv ct), osl⟩ ∧ codeIn K cdv qn = true
section
variable {prog : Program} {w : World} {A : Around} {E : Value → Shared → Prop} {R : Result → Shared → Prop} {s : Shared} {K : Frag} {C fI : Addr} {qn : Str}
theorem low_end (T : XTxt qn K C fI) {x t0 : Addr} {v : Value} {args : Args} (hargs : args = ⟨[.ref x, v], []⟩ ∨ args = ⟨[.ref x], [("spot", v)]⟩) (X : K.In s.heap) (hlim : s.heap.NoLimit) (hx : s.heap.get? x = some (excO C t0)) (hroom : A.depth < recursionLimit)
    (hq : ∀ h' tk dx, InitEnd "spot" s.heap h' x C dx t0 v → R (.ok (.ret .none)) { s with heap := h', toks := tk }) :
    codeAny (model prog w) A (.call (.ref fI) args) R s := by
  obtain ⟨oc, od, doc, pm, an, cdv, ct, osl, p1, p2, q1, q2, q3, q4, ho, hcd⟩ := T.fn
  obtain ⟨b, hC, hbm⟩ := T.X.cls
  have hcl : ∃ cd, clsIn K C = some cd ∧ refsVE cd.mro = true ∧ cd.hasDict = true := by
    unfold clsIn
    rw [hC]
    exact ⟨_, rfl, show refsVE (.ref C :: b.bm) = true from hbm, rfl⟩
  obtain ⟨cd, hcl, hcm, hch⟩ := hcl
  have hb : BindsTo s (fnOf "__init__" qn (iA p1 p2) (iB q1 q2 q3 q4) iS .none .none doc pm an cdv ct) args [("self", .ref x), ("spot", v)] := by
    rcases hargs with rfl | rfl
    · exact BindsTo.of_eq (by first | rfl | with_unfolding_all rfl)
    · exact BindsTo.of_eq (by first | rfl | with_unfolding_all rfl)
  refine Att.call_fn (binds := [("self", .ref x), ("spot", v)]) X hlim ho hcd hroom hb (by first | rfl | decide | with_unfolding_all rfl) (fun s₁ IC => ?_) rfl rfl rfl
  obtain ⟨h₁, tk₁, rfl⟩ := IC.toInCall.same
  have k : ∀ b o, s.heap.get? b = some o → h₁.get? b = some o := IC.toInCall.keep
  have hn := IC.toInCall.ns
  have hxL : s.heap.objs.size ≠ x := Nat.ne_of_gt (Heap.lt_size hx)
  have X₁ : K.In h₁ := X.keeps k
  have hx₁ := k _ _ hx
  show wpAny _ _ (execs _ _) _ _ _
  refine wpAny_execs_cons (plainObj_wpAny_Assign_Attribute ?_)
  refine ldC (v := v) hn (by first | rfl | with_unfolding_all rfl | kernel_rfl) (ldC (v := .ref x) hn (by first | rfl | with_unfolding_all rfl | kernel_rfl) ?_)
  refine set_plain X₁ (ox := excO C t0) (od := none) ⟨hx₁, rfl, rfl, trivial⟩ T.X.sa ?_
  refine exc_osa X₁ hx₁ hcl hcm hch T.noN (fun h₃ tk₃ dx k₃ dn dne hx₃ hn₃ => ?_)
  show wpAny _ _ (execs _ _) _ _ _
  have z : s.heap.objs.size < h₁.objs.size := hn.lt
  exact wpAny_execs_nil (hq h₃ tk₃ dx ⟨fun b o hb e => k₃ b o hb (k b o e), hx₃, Nat.le_of_lt (Nat.lt_of_lt_of_le z dn), dne, hn₃⟩)
theorem made_by_place (T : XTxt qn K C fI) {v : Value} (X : K.In s.heap) (hlim : s.heap.NoLimit) (hroom : A.depth + 1 < recursionLimit)
    (hq : ∀ h' tk e d, ExMade "spot" s.heap h' e C d v → R (.ok (.ret (.ref e))) { s with heap := h', toks := tk }) :
    codeAny (model prog w) A (.call (.ref C) ⟨[v], []⟩) R s := by
  obtain ⟨b, hC, hbm⟩ := T.X.cls
  obtain ⟨hp, g, dr, tk, os⟩ := s
  have k : ∀ b o, hp.get? b = some o → ((hp.push (kdv_tup [v])).push (excO C hp.objs.size)).get? b = some o := fun b o e => Heap.get?_push_of_some _ (Heap.get?_push_of_some _ e)
  have hget : ((hp.push (kdv_tup [v])).push (excO C hp.objs.size)).get? (hp.objs.size + 1) = some (excO C hp.objs.size) := by heap_get
  refine call_own F.excBase_ValueError (fun X => refsVE_contains X b.bm hbm) (X _ _ hC) (looks_findIn X T.iC) (fun self => bind_fn X self T.tC) (one_size v) ?_
  refine low_end (s := ⟨(hp.push (kdv_tup [v])).push (excO C hp.objs.size), g, dr, tk, os⟩) T (.inl rfl) (X.keeps k) (hlim.keeps k) hget ?_ fun h' tk' dx ⟨k', hx, dn, dne, hns⟩ => ?_
  · show A.depth + 1 < recursionLimit
    exact hroom
  · have old : ∀ b o, hp.get? b = some o → h'.get? b = some o := fun b o e => k' b o (Nat.ne_of_lt (Nat.lt_succ_of_lt (Heap.lt_size e))) (k b o e)
    have z : hp.objs.size + 1 + 1 ≤ dx := by
      first
        | (simpa only [Heap.size_push] using dn)
        | exact dn
        | (have q := dn; rw [Heap.size_push, Heap.size_push] at q; exact q)
    exact ⟨rfl, hq h' tk' (hp.objs.size + 1) dx ⟨old, Nat.le_succ _, ⟨_, hx⟩, Nat.le_trans (Nat.le_trans (Nat.le_succ _) (Nat.le_succ _)) z, dne, hns⟩⟩
theorem made_by_name (T : XTxt qn K C fI) {v : Value} (X : K.In s.heap) (hlim : s.heap.NoLimit) (hroom : A.depth + 1 < recursionLimit)
    (hq : ∀ h' tk e d, ExMade "spot" s.heap h' e C d v → R (.ok (.ret (.ref e))) { s with heap := h', toks := tk }) :
    codeAny (model prog w) A (.call (.ref C) ⟨[], [("spot", v)]⟩) R s := by
  obtain ⟨b, hC, hbm⟩ := T.X.cls
  obtain ⟨hp, g, dr, tk, os⟩ := s
  have k : ∀ b o, hp.get? b = some o → ((hp.push (kdv_tup [])).push (excO C hp.objs.size)).get? b = some o := fun b o e => Heap.get?_push_of_some _ (Heap.get?_push_of_some _ e)
  have hget : ((hp.push (kdv_tup [])).push (excO C hp.objs.size)).get? (hp.objs.size + 1) = some (excO C hp.objs.size) := by heap_get
  refine kw_call hbm (X _ _ hC) (looks_findIn X T.iC) (fun self => bind_fn X self T.tC) ?_
  refine low_end (s := ⟨(hp.push (kdv_tup [])).push (excO C hp.objs.size), g, dr, tk, os⟩) T (.inr rfl) (X.keeps k) (hlim.keeps k) hget ?_ fun h' tk' dx ⟨k', hx, dn, dne, hns⟩ => ?_
  · show A.depth + 1 < recursionLimit
    exact hroom
  · have old : ∀ b o, hp.get? b = some o → h'.get? b = some o := fun b o e => k' b o (Nat.ne_of_lt (Nat.lt_succ_of_lt (Heap.lt_size e))) (k b o e)
    have z : hp.objs.size + 1 + 1 ≤ dx := by
      first
        | (simpa only [Heap.size_push] using dn)
        | exact dn
        | (have q := dn; rw [Heap.size_push, Heap.size_push] at q; exact q)
    exact ⟨rfl, hq h' tk' (hp.objs.size + 1) dx ⟨old, Nat.le_succ _, ⟨_, hx⟩, Nat.le_trans (Nat.le_trans (Nat.le_succ _) (Nat.le_succ _)) z, dne, hns⟩⟩
end
end XE_spot
end PySem
namespace L2
open PySem PySem.Spec PyProof.Rows
/-- what is said of a new exception value with its field -/
theorem inv_made {X : Cx} {pins : List (Addr × Obj)} {σ : St} {H : Hp} {hp h' : Heap} {g : Array GenState} {dr : Drawn} {tk tk' : Nat} {os : OsState} {e C d : Addr} {f : Str} {v : V} {v' : Value} (I : Inv X pins σ H ⟨hp, g, dr, tk, os⟩) (M : PySem.XE.ExMade f hp h' e C d v') (r : RelV v v') :
    H e = none ∧ H d = none ∧ d ≠ e ∧ Inv X pins σ (upd (upd H d (exd d [(f, v)])) e (exo e C (some d))) ⟨h', g, dr, tk', os⟩ := by
  obtain ⟨t1, hoe⟩ := M.obj
  have hns := M.ns
  obtain ⟨G', g1, g2⟩ := restrict h' fun b => decide (b ≠ e)
  have gk : ∀ b, b ≠ e → G'.get? b = h'.get? b := fun b hb => g1 b (decide_eq_true hb)
  have ge : G'.get? e = none := g2 e (by simp)
  have old : ∀ b o, hp.get? b = some o → G'.get? b = some o := fun b o q => (gk b (Nat.ne_of_lt (Nat.lt_of_lt_of_le (Heap.lt_size q) M.new))).trans (M.keep b o q)
  have ob : ObjOk X.prog X.w (upd H d (exd d [(f, v)])) G' d (exd d [(f, v)]) :=
    exd_ok (hns.at (fun o q => (gk d M.dne).trans q)) (relO_put (fs := []) r fun g => True.intro)
  have J : Inv X pins σ (upd H d (exd d [(f, v)])) ⟨G', g, dr, tk', os⟩ := I.laid (t' := tk') old M.dbig ob
  have he : upd H d (exd d [(f, v)]) e = none := by
    rw [upd_ne (Ne.symm M.dne)]
    exact I.hok.fresh M.new
  refine ⟨I.hok.fresh M.new, I.hok.fresh M.dbig, M.dne, ?_⟩
  refine J.laidN (h' := h') (t' := tk') (fun b o q => ?_) ge he (exo_ok hoe)
  by_cases hb : b = e
  · have q' : G'.get? b = some o := q
    rw [hb, ge] at q'
    cases q'
  · exact (gk b hb).symm.trans q
/-- C(e) or C(f=e) as a value -/
def tExV (C : Addr) (f : Str) (ta : TA) : TE := fun σ H Q => ta σ H fun vs H1 => ∃ v, vs = [v] ∧ ∀ a d, H1 a = none → H1 d = none → d ≠ a → Q (.ref a) (upd (upd H1 d (exd d [(f, v)])) a (exo a C (some d)))
/-- C() as a value -/
def tEx0 (C : Addr) : TE := fun σ H Q => ∀ a, H a = none → Q (.ref a) (upd H a (exo a C none))
section
variable {X : Cx} {C fI : Addr} {qn : Str} {k : Nat}
theorem pe_ex0 {bmB : List Value} {B newId initId : String} {x : Str} {p pos : Pos} (F : ExcBaseFacts B newId initId bmB) (q : PySem.W.excIn X.K C bmB newId = true) (gC : X.mg x = some (.ref C)) (kC : PySem.W.keepIn X.K (.ref C) = true) (hg : Gl X x)
    (hs : starEach [] X.env = [] := by rfl) (hdb : (x == ("__debug__" : Str)) = false := by decide) :
    PE X (.Call (.Name x p) [] [] pos) (tEx0 C) := by
  refine ⟨fun pins s σ H Q I h => ?_⟩
  refine wpAny_Call_Name_kw (ld_glob I hg gC ?_ hdb)
  refine PySem.W.callWith_KW0 (h₀ := X.base) (kws := []) I.ok.mod.kin kC rfl ?_ (by rfl)
  refine wpAny_evalAll_nil ⟨I.kIn, ?_⟩
  show wpAny _ _ (call (.ref C) []) _ _ _
  obtain ⟨bm, N, nm, qn, bs, hdct, sn, sub, ab, col, dd, k0, k1, k2, k3, k5, mN, hC, hN, hni, T⟩ := exc_obj I.kIn q
  refine wpAny_call_exc_subT F T hC hN hni (fun h' a hm => ?_) (by show 0 ≤ sizeLine; rw [sizeLine_eq]; omega)
  have hn : H a = none := I.hok.gone hm.new
  obtain ⟨t, ht, _, _⟩ := hm.there
  exact ⟨.ref a, upd H a (exo a C none), I.laidN hm.keeps hm.new hn (exo_ok ht), rfl, h a hn⟩
theorem pe_exP_given {a : Expr} {ta : TA} {x : Str} {p pos : Pos} (T : PySem.XE_given.XTxt qn X.K C fI) (gC : X.mg x = some (.ref C)) (hr : Room k X.A) (ha : PA X [a] ta) (hg : Gl X x)
    (he : starEach (a :: []) X.env = (false, eval a X.env) :: starEach [] X.env := by rfl) (hpl : (backTo pos (starEach [] X.env)).any (·.1) = false := by rfl) (hdb : (x == ("__debug__" : Str)) = false := by decide) :
    PE X (.Call (.Name x p) [a] [] pos) (tExV C "given" ta) := by
  refine ⟨fun pins s σ H Q I h => ?_⟩
  refine wpAny_Call_Name_kw (ld_glob I hg gC ?_ hdb)
  refine PySem.W.callWith_K (h₀ := X.base) I.ok.mod.kin T.X.kC (thn (ha.run pos pins s σ H _ I h) fun us s1 hh => ?_) he hpl
  obtain ⟨vs, H1, I1, r1, v, ev, q1⟩ := hh
  subst ev
  refine ⟨I1.kIn, ?_⟩
  cases r1 with
  | cons rv rn =>
    rename_i v' us'
    cases rn
    show wpAny _ _ (call (.ref C) [v']) _ _ _
    have hlim := I1.nolimit
    obtain ⟨hp, g, dr, tk, os⟩ := s1
    refine wpAny_call (PySem.XE_given.made_by_place T I1.kIn hlim (by have := hr.dp; omega) fun h' tk' e d M => ?_)
    obtain ⟨n1, n2, n3, J⟩ := inv_made (tk' := tk') I1 M rv
    exact ⟨.ref e, _, J, rfl, q1 e d n1 n2 n3⟩
theorem pe_exK_given {a : Expr} {ta : TE} {x : Str} {p pos kpos : Pos} (T : PySem.XE_given.XTxt qn X.K C fI) (gC : X.mg x = some (.ref C)) (hr : Room k X.A) (ha : PE X a ta) (hg : Gl X x) (hdb : (x == ("__debug__" : Str)) = false := by decide)
    (hpl : ((backTo pos (starEach [] X.env)).any (·.1) || (backToKw pos (keywordEach [⟨some "given", a, kpos⟩] X.env)).any (·.1.isNone)) = false := by rfl) :
    PE X (.Call (.Name x p) [] [⟨some "given", a, kpos⟩] pos) (tExV C "given" (tCons ta tNil)) := by
  refine ⟨fun pins s σ H Q I h => ?_⟩
  refine wpAny_Call_Name_kw (ld_glob I hg gC ?_ hdb)
  refine PySem.W.callWith_KW0 (h₀ := X.base) I.ok.mod.kin T.X.kC (by rfl) ?_ hpl
  refine thn ((pk_cons (nm := some "given") (kpos := kpos) ha pk_nil).run pos pins s σ H _ I h) fun us s1 hh => ?_
  obtain ⟨vs, H1, I1, r1, v, ev, q1⟩ := hh
  subst ev
  refine ⟨I1.kIn, ?_⟩
  cases r1 with
  | cons rv rn =>
    rename_i v' us'
    cases rn
    show wpAny _ _ (call (.ref C) [] [(("given" : Str), v')]) _ _ _
    have hlim := I1.nolimit
    obtain ⟨hp, g, dr, tk, os⟩ := s1
    refine wpAny_call (PySem.XE_given.made_by_name T I1.kIn hlim (by have := hr.dp; omega) fun h' tk' e d M => ?_)
    obtain ⟨n1, n2, n3, J⟩ := inv_made (tk' := tk') I1 M rv
    exact ⟨.ref e, _, J, rfl, q1 e d n1 n2 n3⟩
theorem pe_exP_index {a : Expr} {ta : TA} {x : Str} {p pos : Pos} (T : PySem.XE_index.XTxt qn X.K C fI) (gC : X.mg x = some (.ref C)) (hr : Room k X.A) (ha : PA X [a] ta) (hg : Gl X x)
    (he : starEach (a :: []) X.env = (false, eval a X.env) :: starEach [] X.env := by rfl) (hpl : (backTo pos (starEach [] X.env)).any (·.1) = false := by rfl) (hdb : (x == ("__debug__" : Str)) = false := by decide) :
    PE X (.Call (.Name x p) [a] [] pos) (tExV C "index" ta) := by
  refine ⟨fun pins s σ H Q I h => ?_⟩
  refine wpAny_Call_Name_kw (ld_glob I hg gC ?_ hdb)
  refine PySem.W.callWith_K (h₀ := X.base) I.ok.mod.kin T.X.kC (thn (ha.run pos pins s σ H _ I h) fun us s1 hh => ?_) he hpl
  obtain ⟨vs, H1, I1, r1, v, ev, q1⟩ := hh
  subst ev
  refine ⟨I1.kIn, ?_⟩
  cases r1 with
  | cons rv rn =>
    rename_i v' us'
    cases rn
    show wpAny _ _ (call (.ref C) [v']) _ _ _
    have hlim := I1.nolimit
    obtain ⟨hp, g, dr, tk, os⟩ := s1
    refine wpAny_call (PySem.XE_index.made_by_place T I1.kIn hlim (by have := hr.dp; omega) fun h' tk' e d M => ?_)
    obtain ⟨n1, n2, n3, J⟩ := inv_made (tk' := tk') I1 M rv
    exact ⟨.ref e, _, J, rfl, q1 e d n1 n2 n3⟩
theorem pe_exK_index {a : Expr} {ta : TE} {x : Str} {p pos kpos : Pos} (T : PySem.XE_index.XTxt qn X.K C fI) (gC : X.mg x = some (.ref C)) (hr : Room k X.A) (ha : PE X a ta) (hg : Gl X x) (hdb : (x == ("__debug__" : Str)) = false := by decide)
    (hpl : ((backTo pos (starEach [] X.env)).any (·.1) || (backToKw pos (keywordEach [⟨some "index", a, kpos⟩] X.env)).any (·.1.isNone)) = false := by rfl) :
    PE X (.Call (.Name x p) [] [⟨some "index", a, kpos⟩] pos) (tExV C "index" (tCons ta tNil)) := by
  refine ⟨fun pins s σ H Q I h => ?_⟩
  refine wpAny_Call_Name_kw (ld_glob I hg gC ?_ hdb)
  refine PySem.W.callWith_KW0 (h₀ := X.base) I.ok.mod.kin T.X.kC (by rfl) ?_ hpl
  refine thn ((pk_cons (nm := some "index") (kpos := kpos) ha pk_nil).run pos pins s σ H _ I h) fun us s1 hh => ?_
  obtain ⟨vs, H1, I1, r1, v, ev, q1⟩ := hh
  subst ev
  refine ⟨I1.kIn, ?_⟩
  cases r1 with
  | cons rv rn =>
    rename_i v' us'
    cases rn
    show wpAny _ _ (call (.ref C) [] [(("index" : Str), v')]) _ _ _
    have hlim := I1.nolimit
    obtain ⟨hp, g, dr, tk, os⟩ := s1
    refine wpAny_call (PySem.XE_index.made_by_name T I1.kIn hlim (by have := hr.dp; omega) fun h' tk' e d M => ?_)
    obtain ⟨n1, n2, n3, J⟩ := inv_made (tk' := tk') I1 M rv
    exact ⟨.ref e, _, J, rfl, q1 e d n1 n2 n3⟩
theorem pe_exP_spot {a : Expr} {ta : TA} {x : Str} {p pos : Pos} (T : PySem.XE_spot.XTxt qn X.K C fI) (gC : X.mg x = some (.ref C)) (hr : Room k X.A) (ha : PA X [a] ta) (hg : Gl X x)
    (he : starEach (a :: []) X.env = (false, eval a X.env) :: starEach [] X.env := by rfl) (hpl : (backTo pos (starEach [] X.env)).any (·.1) = false := by rfl) (hdb : (x == ("__debug__" : Str)) = false := by decide) :
    PE X (.Call (.Name x p) [a] [] pos) (tExV C "spot" ta) := by
  refine ⟨fun pins s σ H Q I h => ?_⟩
  refine wpAny_Call_Name_kw (ld_glob I hg gC ?_ hdb)
  refine PySem.W.callWith_K (h₀ := X.base) I.ok.mod.kin T.X.kC (thn (ha.run pos pins s σ H _ I h) fun us s1 hh => ?_) he hpl
  obtain ⟨vs, H1, I1, r1, v, ev, q1⟩ := hh
  subst ev
  refine ⟨I1.kIn, ?_⟩
  cases r1 with
  | cons rv rn =>
    rename_i v' us'
    cases rn
    show wpAny _ _ (call (.ref C) [v']) _ _ _
    have hlim := I1.nolimit
    obtain ⟨hp, g, dr, tk, os⟩ := s1
    refine wpAny_call (PySem.XE_spot.made_by_place T I1.kIn hlim (by have := hr.dp; omega) fun h' tk' e d M => ?_)
    obtain ⟨n1, n2, n3, J⟩ := inv_made (tk' := tk') I1 M rv
    exact ⟨.ref e, _, J, rfl, q1 e d n1 n2 n3⟩
theorem pe_exK_spot {a : Expr} {ta : TE} {x : Str} {p pos kpos : Pos} (T : PySem.XE_spot.XTxt qn X.K C fI) (gC : X.mg x = some (.ref C)) (hr : Room k X.A) (ha : PE X a ta) (hg : Gl X x) (hdb : (x == ("__debug__" : Str)) = false := by decide)
    (hpl : ((backTo pos (starEach [] X.env)).any (·.1) || (backToKw pos (keywordEach [⟨some "spot", a, kpos⟩] X.env)).any (·.1.isNone)) = false := by rfl) :
    PE X (.Call (.Name x p) [] [⟨some "spot", a, kpos⟩] pos) (tExV C "spot" (tCons ta tNil)) := by
  refine ⟨fun pins s σ H Q I h => ?_⟩
  refine wpAny_Call_Name_kw (ld_glob I hg gC ?_ hdb)
  refine PySem.W.callWith_KW0 (h₀ := X.base) I.ok.mod.kin T.X.kC (by rfl) ?_ hpl
  refine thn ((pk_cons (nm := some "spot") (kpos := kpos) ha pk_nil).run pos pins s σ H _ I h) fun us s1 hh => ?_
  obtain ⟨vs, H1, I1, r1, v, ev, q1⟩ := hh
  subst ev
  refine ⟨I1.kIn, ?_⟩
  cases r1 with
  | cons rv rn =>
    rename_i v' us'
    cases rn
    show wpAny _ _ (call (.ref C) [] [(("spot" : Str), v')]) _ _ _
    have hlim := I1.nolimit
    obtain ⟨hp, g, dr, tk, os⟩ := s1
    refine wpAny_call (PySem.XE_spot.made_by_name T I1.kIn hlim (by have := hr.dp; omega) fun h' tk' e d M => ?_)
    obtain ⟨n1, n2, n3, J⟩ := inv_made (tk' := tk') I1 M rv
    exact ⟨.ref e, _, J, rfl, q1 e d n1 n2 n3⟩
/-- e.f, e an exception value -/
def tXv (K : PySem.W.Frag) (f : Str) (te : TE) : TE := fun σ H Q => te σ H fun x H1 => ∃ (a dd C : Addr) (fs : List (Str × V)) (v : V), PySem.XE.XCls K C ∧ PySem.W.findIn K (.ref C) f = some none ∧ x = .ref a ∧ H1 a = some (exo a C (some dd)) ∧ H1 dd = some (exd dd fs) ∧ fs.lookup f = some v ∧ Q v H1
theorem pe_xv {e : Expr} {te : TE} {pos : Pos} {n : Str} (he : PE X e te) (hb : attributeBase e n X.env (eval e X.env) = eval e X.env := by rfl) :
    PE X (.Attribute e n pos) (tXv X.K n te) := by
  refine ⟨fun pins s σ H Q I h => ?_⟩
  refine attr_of hb (thn (he.run pins s σ H _ I h) fun u s1 hh => ?_)
  obtain ⟨x, H1, I1, rx, a, dd, C, fs, v, T, hno, ex, ea, ed, l, q⟩ := hh
  subst ex
  obtain rfl : u = Value.ref a := rx
  obtain ⟨t1, ho⟩ := exo_at I1.hok ea
  obtain ⟨mA, hns, hr⟩ := exd_at I1.hok ed
  obtain ⟨od, hod, hl⟩ := lookIn_ns hns
  obtain ⟨u, hu, ru⟩ := RelO.some_of (v := v) (o := mA n) (by rw [← l]; exact hr n)
  have J : PySem.W.InstAt s1.heap a { cls := .ref C, dict := some dd, data := .fields #[.ref t1, .none, .none, .none, .bool false, .none] } C (some od) := ⟨ho, rfl, rfl, hod⟩
  exact HandSPX.exc_get I1.kIn J T.ga T.gg T.exC (PySem.W.findObj_own T.hdC hno rfl (by rw [hl, hu])) (handed_of ru) ⟨v, H1, I1.tok _, ru, q⟩
end
end L2
/-! TLX: errors of own classes as values: made, their field read, isinstance. -/
namespace TL
open PySem PySem.Spec L2 PyProof.Rows PySem.XE PySem.HandSPX
/-- where the error classes stand -/
class ClsN where
  A : Str → Addr
/-- n(e), n(f=e): a new error of the class n -/
def eX1 [ClsN] (n f : Str) (e : Ev) : Ev := fun ρ μ => (e ρ μ).bind fun w μ1 => match w with
  | .d y => .ok (.x n (ClsN.A n) (some (f, y))) μ1
  | _ => .bad
/-- n() -/
def eX0 [ClsN] (n : Str) : Ev := fun ρ μ => .ok (.x n (ClsN.A n) none) μ
/-- e.f -/
def gXf [ClsN] (cl : List (Str × Str)) (f : Str) (w : Wv) (μ : Mu) : Out Wv := match w with
  | .x n C (some q) => if ((n, f) : Str × Str) ∈ cl ∧ C = ClsN.A n ∧ q.1 = f then .ok (.d q.2) μ else .bad
  | _ => .bad
/-- the classes ahead of which none of these stands -/
def overs : List Str := ["LetterError", "ValueError", "Exception"]
/-- isinstance(e, t) -/
def gXi [ClsN] (cl : List (Str × Str)) (t : Str) (w : Wv) (μ : Mu) : Out Wv := match w with
  | .x n C _ => if n ∈ cl.map (fun q => q.1) ∧ C = ClsN.A n then .ok (.d (.bool (decide (n = t) || decide (t ∈ overs)))) μ else .bad
  | _ => .bad
/-- what stands of one class: its name, its field -/
structure XOne [ClsN] (K : PySem.W.Frag) (n f : Str) (C : Addr) : Prop where
  X : XCls K C
  b : ∃ b : CB, K.lookup C = some (b.ob C) ∧ b.nm = n ∧ b.bm = if n = "LetterError" then veTail else .ref (ClsN.A "LetterError") :: veTail
  g : f = "given" → ∃ qn fI, PySem.XE_given.XTxt qn K C fI
  i : f = "index" → ∃ qn fI, PySem.XE_index.XTxt qn K C fI
  s : f = "spot" → ∃ qn fI, PySem.XE_spot.XTxt qn K C fI
  z : f = "" → PySem.W.excIn K C veTail "ValueError.__new__" = true
structure XFac [ClsN] (cl : List (Str × Str)) (K : PySem.W.Frag) (mg : Str → Option Value) : Prop where
  le : (("LetterError", "") : Str × Str) ∈ cl
  nv : ∀ q ∈ cl, q.1 ≠ "ValueError" ∧ q.1 ≠ "Exception"
  one : ∀ q ∈ cl, mg q.1 = some (.ref (ClsN.A q.1)) ∧ XOne K q.1 q.2 (ClsN.A q.1)
section
variable [TabN] [ClsN] {X : Cx} {W : WX} {cl : List (Str × Str)} {n : Str} {e : Expr} {f : Ev} {p pos kpos : Pos} {k : Nat}
theorem exd_tbl {a : Addr} {fs : List (Str × V)} (ps : Array Value) : exd a fs ≠ .tbl ps := fun z => by
  have z' : HO.ext _ = HO.tbl ps := z
  cases z'
/-- the reading of a new error, from that of its field's value -/
theorem new_x {fl : Str} {σ : St} {H : Hp} {Q : VK} (h : tE X.K X.mg W (eX1 n fl f) σ H Q) : tExV (ClsN.A n) fl (tCons (tE X.K X.mg W f) tNil) σ H Q := by
  obtain ⟨ρ, μ, α, F, r, re, q⟩ := h
  refine ⟨ρ, μ, α, F, r, re, q.bind.mono fun w μ1 α1 F1 H1 x1 r1 q1 v rv => ⟨v, rfl, fun a d ha hd ne => ?_⟩⟩
  cases w with
  | d y =>
    obtain ⟨r2, x2⟩ := r1.new hd (nt := exd_tbl)
    have ha2 : upd H1 d (exd d [(fl, v)]) a = none := by
      rw [upd_ne (Ne.symm ne)]
      exact ha
    obtain ⟨r3, x3⟩ := r2.new ha2 (o := exo a (ClsN.A n) (some d)) (nt := fun ps => exo_tbl)
    refine gp.at q1 (x2.trans x3) r3 (.ref a) ⟨a, rfl, d, v, upd_same, ?_, ?_⟩
    · show upd (upd F1 d _) a _ d = _
      rw [upd_ne ne, upd_same]
    · exact Dq.mono (x2.trans x3).fro rv
  | r _ => exact q1.elim
  | t _ => exact q1.elim
  | o _ => exact q1.elim
  | x _ _ _ => exact q1.elim
theorem xX0 (hx : XFac cl X.K X.mg) (hc : (n, ("" : Str)) ∈ cl) (hg : Gl X n) (hdb : (n == ("__debug__" : Str)) = false := by decide +kernel) : SE X W (.Call (.Name n p) [] [] pos) (eX0 n) := by
  obtain ⟨h1, h2⟩ := hx.one _ hc
  refine (pe_ex0 F.excBase_ValueError (h2.z rfl) h1 h2.X.kC hg (hdb := hdb)).imp fun σ H Q ⟨ρ, μ, α, F, r, re, q⟩ => ?_
  intro a ha
  obtain ⟨r3, x3⟩ := r.new ha (o := exo a (ClsN.A n) none) (nt := fun ps => exo_tbl)
  exact gp.at q x3 r3 (.ref a) ⟨a, rfl, upd_same⟩
theorem xXf {fl : Str} (hx : XFac cl X.K X.mg) (hno : ∀ q ∈ cl, q.2 = fl → PySem.W.findIn X.K (.ref (ClsN.A q.1)) fl = some none) (he : SE X W e f) (hb : attributeBase e fl X.env (eval e X.env) = eval e X.env := by rfl) : SE X W (.Attribute e fl pos) (e1 (gXf cl fl) f) := by
  refine (pe_xv he hb).imp fun σ H Q ⟨ρ, μ, α, F, r, re, q⟩ => ?_
  refine ⟨ρ, μ, α, F, r, re, q.bind.mono fun w μ1 α1 F1 H1 x1 r1 q1 v rv => ?_⟩
  have q2 := gp.calm (X' := fun _ _ _ => False) q1
  unfold gXf at q2
  split at q2
  · rename_i n C o
    split at q2
    · rename_i h
      obtain ⟨hm, rfl, hf⟩ := h
      obtain ⟨a, rfl, d, u, g1, g2, g3⟩ := rv
      obtain ⟨h1, h2⟩ := hx.one _ hm
      exact ⟨a, d, ClsN.A n, _, u, h2.X, hno _ hm rfl, rfl, r1.sub _ _ g1, r1.sub _ _ g2, by rw [hf]; simp [List.lookup], q2.now r1 _ g3⟩
    · exact q2.elim
  · exact q2.elim
end
section
variable [ClsN]
/-- the answers of isinstance over these classes -/
theorem name_inj {cl : List (Str × Str)} {K : PySem.W.Frag} {mg : Str → Option Value} (hx : XFac cl K mg) {q t : Str × Str} (hq : q ∈ cl) (ht : t ∈ cl) (h : ClsN.A q.1 = ClsN.A t.1) : q.1 = t.1 := by
  obtain ⟨b1, l1, n1, _⟩ := (hx.one _ hq).2.b
  obtain ⟨b2, l2, n2, _⟩ := (hx.one _ ht).2.b
  rw [h, l2] at l1
  have d := congrArg Obj.data (Option.some.inj l1)
  have c := Data.cls.inj d
  have m := congrArg ClassData.name c
  have m : b2.nm = b1.nm := m
  rw [← n1, ← n2, m]
theorem ref_ne {a b : Addr} (h : a ≠ b) : (Value.ref a == Value.ref b) = false := Bool.eq_false_iff.mpr fun q => h (Value.ref.inj (beq_iff_eq.mp q))
theorem kit_own {cl : List (Str × Str)} {K : PySem.W.Frag} {mg : Str → Option Value} (hx : XFac cl K mg) {q t : Str × Str} (hq : q ∈ cl) (ht : t ∈ cl) : PySem.W.kitOne K (.ref (ClsN.A q.1)) (.ref (ClsN.A t.1)) = some (decide (q.1 = t.1) || decide (t.1 ∈ overs)) := by
  unfold PySem.W.kitOne
  by_cases h : q.1 = t.1
  · rw [h, if_pos (beq_iff_eq.mpr rfl), decide_eq_true rfl]
    rfl
  · have na : ClsN.A q.1 ≠ ClsN.A t.1 := fun z => h (name_inj hx hq ht z)
    obtain ⟨b1, l1, n1, m1⟩ := (hx.one _ hq).2.b
    obtain ⟨b2, l2, n2, m2⟩ := (hx.one _ ht).2.b
    have c1 : ((PySem.W.clsIn K (ClsN.A t.1)).isSome && PySem.W.typeIn K (.ref (ClsN.A t.1)) == some (.type "type")) = true := by
      have z1 : (PySem.W.clsIn K (ClsN.A t.1)).isSome = true := by
        unfold PySem.W.clsIn
        rw [l2]
        rfl
      have z2 : PySem.W.typeIn K (.ref (ClsN.A t.1)) = some (.type "type") := by
        show (K.lookup (ClsN.A t.1)).map _ = _
        rw [l2]
        rfl
      rw [z1, z2]
      exact beq_iff_eq.mpr rfl
    have c2 : PySem.W.subIn K (.ref (ClsN.A q.1)) (.ref (ClsN.A t.1)) = some ((Value.ref (ClsN.A q.1) :: b1.bm).contains (.ref (ClsN.A t.1))) := by
      show PySem.W.mroIn K _ _ = _
      unfold PySem.W.mroIn PySem.W.clsIn
      rw [l1]
      rfl
    rw [if_neg (by rw [ref_ne na]; decide)]
    show (if _ = true then _ else none) = _
    rw [if_pos c1, c2, List.contains_cons, ref_ne (Ne.symm na), Bool.false_or, decide_eq_false h, Bool.false_or, m1]
    have ov : decide (t.1 ∈ overs) = decide (t.1 = "LetterError") := by
      obtain ⟨v1, v2⟩ := hx.nv _ ht
      refine decide_eq_decide.mpr ⟨fun z => ?_, fun z => by rw [z]; exact List.mem_cons_self⟩
      rcases List.mem_cons.mp z with z | z
      · exact z
      · rcases List.mem_cons.mp z with z | z
        · exact absurd z v1
        · exact absurd (List.mem_singleton.mp z) v2
    rw [ov]
    by_cases hL : q.1 = "LetterError"
    · rw [if_pos hL, decide_eq_false (fun z => h (hL.trans z.symm))]
      rfl
    · rw [if_neg hL, List.contains_cons]
      by_cases tL : t.1 = "LetterError"
      · rw [tL, beq_iff_eq.mpr rfl, decide_eq_true rfl]
        rfl
      · have n2 : ClsN.A t.1 ≠ ClsN.A "LetterError" := fun z => tL (name_inj hx ht hx.le z)
        rw [ref_ne n2, decide_eq_false tL]
        rfl
theorem kit_type {cl : List (Str × Str)} {K : PySem.W.Frag} {mg : Str → Option Value} (hx : XFac cl K mg) {q : Str × Str} (hq : q ∈ cl) {t : Str} {T : String} (hT : PySem.W.kitMeta T = true) (hv : veTail.contains (.type T) = decide (t ∈ overs)) (hn : ∀ q ∈ cl, q.1 ≠ t) : PySem.W.kitOne K (.ref (ClsN.A q.1)) (.type T) = some (decide (q.1 = t) || decide (t ∈ overs)) := by
  obtain ⟨b1, l1, n1, m1⟩ := (hx.one _ hq).2.b
  have rb : refsVE b1.bm = true := by
    rw [m1]
    split <;> rfl
  have c2 : PySem.W.subIn K (.ref (ClsN.A q.1)) (.type T) = some ((Value.ref (ClsN.A q.1) :: b1.bm).contains (.type T)) := by
    show PySem.W.mroIn K _ _ = _
    unfold PySem.W.mroIn PySem.W.clsIn
    rw [l1]
    rfl
  unfold PySem.W.kitOne
  have z0 : ¬ ((Value.ref (ClsN.A q.1) == Value.type T) = true) := fun z => by
    have z := beq_iff_eq.mp z
    cases z
  rw [if_neg z0]
  show (if _ = true then _ else none) = _
  rw [if_pos hT, c2, CB.has rb _ T _ hv, decide_eq_false (hn q hq), Bool.false_or]
end
section
variable [TabN] [ClsN] {X : Cx} {W : WX} {cl : List (Str × Str)} {e : Expr} {f : Ev} {p p2 pos : Pos}
theorem xi_read {t : Str} {c : V} {u : Value} (hx : XFac cl X.K X.mg) (hc : ClsV c u) (hk : ∀ q ∈ cl, PySem.W.kitOne X.K (.ref (ClsN.A q.1)) u = some (decide (q.1 = t) || decide (t ∈ overs))) {σ : St} {H : Hp} {Q : VK} (h : tE X.K X.mg W (e1 (gXi cl t) f) σ H Q) :
    tCB (rIsX X.K) (tCons (tE X.K X.mg W f) (tCons (tC c) tNil)) σ H Q := by
  obtain ⟨ρ, μ, α, F, r, re, q⟩ := h
  refine ⟨ρ, μ, α, F, r, re, q.bind.mono fun w μ1 α1 F1 H1 x1 r1 q1 v rv => ?_⟩
  have q2 := gp.calm (X' := fun _ _ _ => False) q1
  unfold gXi at q2
  split at q2
  · rename_i n C o
    split at q2
    · rename_i h
      obtain ⟨hm, rfl⟩ := h
      obtain ⟨q0, hq0, rfl⟩ := List.mem_map.mp hm
      obtain ⟨a, rfl, g⟩ := rv
      obtain ⟨_, h2⟩ := hx.one _ hq0
      cases o with
      | none => exact ⟨a, _, none, c, u, _, rfl, hc, h2.X, r1.sub _ _ g, (fun _ z => by cases z), hk _ hq0, q2.now r1 _ (.bl _)⟩
      | some o =>
        obtain ⟨d, u2, g1, g2, _⟩ := g
        exact ⟨a, _, some d, c, u, _, rfl, hc, h2.X, r1.sub _ _ g1, (fun dd z => ⟨_, by cases z; exact r1.sub _ _ g2⟩), hk _ hq0, q2.now r1 _ (.bl _)⟩
    · exact q2.elim
  · exact q2.elim
theorem xXi {t : Str × Str} (hx : XFac cl X.K X.mg) (ht : t ∈ cl) (hm : X.mg "isinstance" = none) (hg : Gl X "isinstance") (hgT : Gl X t.1) (he : SE X W e f) (hdb : (t.1 == ("__debug__" : Str)) = false := by decide +kernel)
    (h1 : starEach (e :: [.Name t.1 p2]) X.env = (false, eval e X.env) :: starEach [.Name t.1 p2] X.env := by rfl) : SE X W (.Call (.Name "isinstance" p) [e, .Name t.1 p2] [] pos) (e1 (gXi cl t.1) f) := by
  obtain ⟨m1, h2⟩ := hx.one _ ht
  exact (pe_callB call_isX hg hm (by decide +kernel) (pa_cons he (pa_cons (pe_glob (v := .ref (ClsN.A t.1)) hgT m1 rfl hdb) pa_nil) h1) (by decide) (by decide) h1 (by rfl)).imp fun σ H Q h =>
    xi_read hx (.own _) (fun q hq => kit_own hx hq ht) h
theorem xXiT {t : Str} {T : String} (hvT : bootBuiltins t = some (.type T)) (hT : PySem.W.kitMeta T = true) (hv : veTail.contains (.type T) = decide (t ∈ overs)) (hn : ∀ q ∈ cl, q.1 ≠ t) (hx : XFac cl X.K X.mg) (hm : X.mg "isinstance" = none) (hg : Gl X "isinstance") (hmT : X.mg t = none) (hgT : Gl X t) (he : SE X W e f)
    (hnn : t ≠ "__name__" := by decide) (hdb : (t == ("__debug__" : Str)) = false := by decide +kernel)
    (h1 : starEach (e :: [.Name t p2]) X.env = (false, eval e X.env) :: starEach [.Name t p2] X.env := by rfl) : SE X W (.Call (.Name "isinstance" p) [e, .Name t p2] [] pos) (e1 (gXi cl t) f) :=
  (pe_callB call_isX hg hm (by decide +kernel) (pa_cons he (pa_cons (pe_bltn (v := .ty T) hgT hmT hvT rfl hnn hdb) pa_nil) h1) (by decide) (by decide) h1 (by rfl)).imp fun σ H Q h =>
    xi_read hx (.ty _) (fun q hq => kit_type hx hq hT hv hn) h
theorem xX_given {n : Str} {k : Nat} (hx : XFac cl X.K X.mg) (hc : (n, ("given" : Str)) ∈ cl) (hr : Room k X.A) (hg : Gl X n) (ha : SE X W e f) (he : starEach (e :: []) X.env = (false, eval e X.env) :: starEach [] X.env := by rfl) (hpl : (backTo pos (starEach [] X.env)).any (·.1) = false := by rfl) (hdb : (n == ("__debug__" : Str)) = false := by decide +kernel) :
    SE X W (.Call (.Name n p) [e] [] pos) (eX1 n "given" f) := by
  obtain ⟨m1, h2⟩ := hx.one _ hc
  obtain ⟨qn, fI, T⟩ := h2.g rfl
  exact (pe_exP_given T m1 hr (pa_cons ha pa_nil he) hg he hpl hdb).imp fun σ H Q h => new_x h
theorem xXk_given {n : Str} {k : Nat} {kpos : Pos} (hx : XFac cl X.K X.mg) (hc : (n, ("given" : Str)) ∈ cl) (hr : Room k X.A) (hg : Gl X n) (ha : SE X W e f) (hdb : (n == ("__debug__" : Str)) = false := by decide +kernel)
    (hpl : ((backTo pos (starEach [] X.env)).any (·.1) || (backToKw pos (keywordEach [⟨some "given", e, kpos⟩] X.env)).any (·.1.isNone)) = false := by rfl) :
    SE X W (.Call (.Name n p) [] [⟨some "given", e, kpos⟩] pos) (eX1 n "given" f) := by
  obtain ⟨m1, h2⟩ := hx.one _ hc
  obtain ⟨qn, fI, T⟩ := h2.g rfl
  exact (pe_exK_given T m1 hr ha hg hdb hpl).imp fun σ H Q h => new_x h
theorem xX_index {n : Str} {k : Nat} (hx : XFac cl X.K X.mg) (hc : (n, ("index" : Str)) ∈ cl) (hr : Room k X.A) (hg : Gl X n) (ha : SE X W e f) (he : starEach (e :: []) X.env = (false, eval e X.env) :: starEach [] X.env := by rfl) (hpl : (backTo pos (starEach [] X.env)).any (·.1) = false := by rfl) (hdb : (n == ("__debug__" : Str)) = false := by decide +kernel) :
    SE X W (.Call (.Name n p) [e] [] pos) (eX1 n "index" f) := by
  obtain ⟨m1, h2⟩ := hx.one _ hc
  obtain ⟨qn, fI, T⟩ := h2.i rfl
  exact (pe_exP_index T m1 hr (pa_cons ha pa_nil he) hg he hpl hdb).imp fun σ H Q h => new_x h
theorem xXk_index {n : Str} {k : Nat} {kpos : Pos} (hx : XFac cl X.K X.mg) (hc : (n, ("index" : Str)) ∈ cl) (hr : Room k X.A) (hg : Gl X n) (ha : SE X W e f) (hdb : (n == ("__debug__" : Str)) = false := by decide +kernel)
    (hpl : ((backTo pos (starEach [] X.env)).any (·.1) || (backToKw pos (keywordEach [⟨some "index", e, kpos⟩] X.env)).any (·.1.isNone)) = false := by rfl) :
    SE X W (.Call (.Name n p) [] [⟨some "index", e, kpos⟩] pos) (eX1 n "index" f) := by
  obtain ⟨m1, h2⟩ := hx.one _ hc
  obtain ⟨qn, fI, T⟩ := h2.i rfl
  exact (pe_exK_index T m1 hr ha hg hdb hpl).imp fun σ H Q h => new_x h
theorem xX_spot {n : Str} {k : Nat} (hx : XFac cl X.K X.mg) (hc : (n, ("spot" : Str)) ∈ cl) (hr : Room k X.A) (hg : Gl X n) (ha : SE X W e f) (he : starEach (e :: []) X.env = (false, eval e X.env) :: starEach [] X.env := by rfl) (hpl : (backTo pos (starEach [] X.env)).any (·.1) = false := by rfl) (hdb : (n == ("__debug__" : Str)) = false := by decide +kernel) :
    SE X W (.Call (.Name n p) [e] [] pos) (eX1 n "spot" f) := by
  obtain ⟨m1, h2⟩ := hx.one _ hc
  obtain ⟨qn, fI, T⟩ := h2.s rfl
  exact (pe_exP_spot T m1 hr (pa_cons ha pa_nil he) hg he hpl hdb).imp fun σ H Q h => new_x h
theorem xXk_spot {n : Str} {k : Nat} {kpos : Pos} (hx : XFac cl X.K X.mg) (hc : (n, ("spot" : Str)) ∈ cl) (hr : Room k X.A) (hg : Gl X n) (ha : SE X W e f) (hdb : (n == ("__debug__" : Str)) = false := by decide +kernel)
    (hpl : ((backTo pos (starEach [] X.env)).any (·.1) || (backToKw pos (keywordEach [⟨some "spot", e, kpos⟩] X.env)).any (·.1.isNone)) = false := by rfl) :
    SE X W (.Call (.Name n p) [] [⟨some "spot", e, kpos⟩] pos) (eX1 n "spot" f) := by
  obtain ⟨m1, h2⟩ := hx.one _ hc
  obtain ⟨qn, fI, T⟩ := h2.s rfl
  exact (pe_exK_spot T m1 hr ha hg hdb hpl).imp fun σ H Q h => new_x h
theorem xXf_given (hx : XFac cl X.K X.mg) (he : SE X W e f) (hb : attributeBase e "given" X.env (eval e X.env) = eval e X.env := by rfl) : SE X W (.Attribute e "given" pos) (e1 (gXf cl "given") f) :=
  xXf hx (fun q hq h => by
    obtain ⟨qn, fI, T⟩ := (hx.one _ hq).2.g h
    exact T.noN) he hb
theorem xXf_index (hx : XFac cl X.K X.mg) (he : SE X W e f) (hb : attributeBase e "index" X.env (eval e X.env) = eval e X.env := by rfl) : SE X W (.Attribute e "index" pos) (e1 (gXf cl "index") f) :=
  xXf hx (fun q hq h => by
    obtain ⟨qn, fI, T⟩ := (hx.one _ hq).2.i h
    exact T.noN) he hb
theorem xXf_spot (hx : XFac cl X.K X.mg) (he : SE X W e f) (hb : attributeBase e "spot" X.env (eval e X.env) = eval e X.env := by rfl) : SE X W (.Attribute e "spot" pos) (e1 (gXf cl "spot") f) :=
  xXf hx (fun q hq h => by
    obtain ⟨qn, fI, T⟩ := (hx.one _ hq).2.s h
    exact T.noN) he hb
end
/-- the addresses, as the module tells them -/
def clsA (mg : Str → Option Value) : ClsN := ⟨fun n => match mg n with
  | some (.ref a) => a
  | _ => 0⟩
theorem adr_of {mg : Str → Option Value} {n : Str} {C : Addr} (h : mg n = some (.ref C)) : @ClsN.A (clsA mg) n = C := by
  show (match mg n with
  | some (.ref a) => a
  | _ => 0) = C
  rw [h]
theorem one_of {mg : Str → Option Value} {K : PySem.W.Frag} {n f : Str} {C : Addr} (h : mg n = some (.ref C)) (o : @XOne (clsA mg) K n f C) : mg n = some (.ref (@ClsN.A (clsA mg) n)) ∧ @XOne (clsA mg) K n f (@ClsN.A (clsA mg) n) := by
  rw [adr_of h]
  exact ⟨h, o⟩
/-! repr of values with empty dicts in them -/
def reprOkD (x : PyData) : Bool := x.showable && decide (x.shown.length ≤ 16777216) && decide (x.depth ≤ 60)
def gReprD (ws : List Wv) (μ : Mu) : Out Wv := match ws with
  | [a] => match dataOf μ a with
    | some x => if reprOkD x = true then .ok (wS x.shown) μ else .bad
    | none => .bad
  | _ => .bad
section
variable [TabN] {X : Cx}
theorem far_sys {pins : List (Addr × Obj)} {σ : St} {H : Hp} {s : Shared} (I : Inv X pins σ H s) (hs : ∃ o, X.base.get? sysModules = some o) (hK : X.K.lookup sysModules = none) : ∀ (a : Addr) (xs : List V), Ls X.K H a xs → a ≠ sysModules := by
  obtain ⟨o, ho⟩ := hs
  have hn := (I.bs _ _ ho).2
  rintro a xs h rfl
  rcases h with h | ⟨its, n, h, _⟩
  · rcases h with h | ⟨o, h⟩
    · rw [hn] at h
      cases h
    · rw [hn] at h
      cases h
  · rw [hK] at h
    cases h
theorem cr_gReprD (hg : X.A.guards = some []) (hu : X.A.units + 64 < cLine) (hs : ∃ o, X.base.get? sysModules = some o) (hK : X.K.lookup sysModules = none) : CallR X (.builtin "repr") (rnG X.K X.mg gReprD) := by
  intro pins s σ H xs us Q I ru ⟨μ, α, F, ws, r, h, q⟩
  unfold gReprD at q
  split at q
  · split at q
    · rename_i x e
      split at q
      · rename_i ok
        obtain ⟨v, rfl, d⟩ := data1 r h e
        unfold reprOkD at ok
        simp only [Bool.and_eq_true, decide_eq_true_eq] at ok
        obtain ⟨⟨k1, k2⟩, k3⟩ := ok
        obtain ⟨u, rfl, rw1⟩ := vals1 ru
        have q := q.now r _ (.str _)
        obtain ⟨as, d2, d3⟩ := Dq.reads I x v u d rw1
        have k2' : x.shown.length ≤ sizeLine := le_line k2
        have nd : x.hasDict = true → sysModules ∉ as := fun _ => d3 (far_sys I hs hK)
        cases d2 with
        | none =>
          simp only [PyData.shown] at q
          exact PySem.P.repr_of_none ⟨.str _, H, I.tok _, ⟨_, rfl⟩, q⟩
        | bool b =>
          simp only [PyData.shown] at q
          exact PySem.P.repr_of_bool ⟨.str _, H, I.tok _, ⟨_, rfl⟩, q⟩
        | int i t =>
          simp only [PyData.shown] at q
          exact PySem.P.repr_of_int (by simpa [PyData.showable] using k1) ⟨.str _, H, I.tok _, ⟨_, rfl⟩, q⟩
        | str z t =>
          simp only [PyData.shown] at q k2'
          exact PySem.P.repr_of_str ⟨.str _, H, I.tok _, ⟨_, rfl⟩, q⟩ k2'
        | list h1 h2 h3 h4 => exact repr_of_reads' (.list h1 h2 h3 h4) k1 nd hg (by omega) (fun _ _ z => z) (fun h' u tk hk => ⟨.str _, H, I.kept hk, ⟨_, rfl⟩, q⟩) k2'
        | tuple h1 h2 h3 h4 => exact repr_of_reads' (.tuple h1 h2 h3 h4) k1 nd hg (by omega) (fun _ _ z => z) (fun h' u tk hk => ⟨.str _, H, I.kept hk, ⟨_, rfl⟩, q⟩) k2'
        | dict h1 h2 h3 h4 h5 => exact repr_of_reads' (.dict h1 h2 h3 h4 h5) k1 nd hg (by omega) (fun _ _ z => z) (fun h' u tk hk => ⟨.str _, H, I.kept hk, ⟨_, rfl⟩, q⟩) k2'
      · exact q.elim
    · exact q.elim
  · exact q.elim
end
section
variable [TabN] {P : Program} {w : World} {K : PySem.W.Frag} {mg mb : Str → Option Value} {k : Nat} {fa a : Addr} {fd : FuncData} {x : Str} {g : GF} {s₁ : Shared} {vs : List Value} {ns : List Int}
theorem head_callX (noT : TabN.T = [] ∧ TabN.O = []) (sm : ∃ mm, s₁.heap.Ns sysModules mm) (inK : K.In s₁.heap) (gl : s₁.heap.Ns mainGlobals mg) (bl : s₁.heap.Ns builtinsNs mb) (bb : ∀ y : Str, y ≠ "__name__" → mb y = bootBuiltins y) (nl : s₁.heap.NoLimit) (ng : s₁.gens = #[])
    (ob : s₁.heap.get? a = some { cls := .type "list", data := .seq vs.toArray }) (isI : IntsAre vs ns) (len : ns.length ≤ sizeLine) (room : Room k callerA)
    (F : ∀ base : Heap, K.In base → base.Ns mainGlobals mg → (∃ o, base.get? sysModules = some o) → FnG P w K mg base k fa fd [x] (spG K mg 1 g)) (bind : ∀ (s : Shared) (u : Value), BindsTo s fd ⟨[u], []⟩ [(x, u)])
    (sem : arity 1 g [.d (.list (ns.map PyData.int))] [] = .ok (.d (.bool true)) []) :
    codeAny (model P w) callerA (.call (.ref fa) ⟨[.ref a], []⟩) (fun r s' => r = .ok (.ret (.bool true)) ∧ OldK s₁.heap s'.heap ∧ s'.os = s₁.os ∧ AllBare s'.gens) s₁ := by
  have rel := vals_ints isI
  have cnt := isI.length
  have go : ∀ H : Hp, (∀ b, H b ≠ none → b = a) → (H a ≠ none → K.lookup a = none) → HOk P w H s₁.heap → Only H → Ls K H a (ns.map V.int) →
      codeAny (model P w) callerA (.call (.ref fa) ⟨[.ref a], []⟩) (fun r s' => r = .ok (.ret (.bool true)) ∧ OldK s₁.heap s'.heap ∧ s'.os = s₁.os ∧ AllBare s'.gens) s₁ := by
    intro H alone apart hk only lies
    have far : ∀ {b : Addr} {o : Obj}, s₁.heap.get? b = some o → b ≠ a → (hidT s₁.heap H).get? b = some o := fun {b o} got ne => hidT_get got (Classical.byContradiction fun z => ne (alone b z))
    have space : ∀ {b : Addr} {m : Str → Option Value}, s₁.heap.Ns b m → (hidT s₁.heap H).Ns b m := by
      rintro b m ⟨o, es, ep, got, dat, rest⟩
      refine ⟨o, es, ep, far got fun eq => ?_, dat, rest⟩
      rw [eq, ob] at got
      cases got
      exact nomatch dat
    have known : K.In (hidT s₁.heap H) := by
      intro b o kb
      by_cases eq : b = a
      · subst eq
        refine hidT_get (inK _ o kb) (Classical.byContradiction fun z => ?_)
        rw [apart z] at kb
        exact nomatch kb
      · exact far (inK b o kb) eq
    have sys0 : ∃ o, (hidT s₁.heap H).get? sysModules = some o := by
      obtain ⟨mm, l⟩ := sm
      obtain ⟨o, es, ep, got, _⟩ := space l
      exact ⟨o, got⟩
    have lim : (hidT s₁.heap H).NoLimit := by
      obtain ⟨mc, l1, l2⟩ := nl
      exact ⟨mc, space l1, l2⟩
    have md : Mod K mg (hidT s₁.heap H) := ⟨known, space gl, ⟨mb, space bl, bb⟩, lim⟩
    have en0 : Env0 P w K mg (hidT s₁.heap H) callerA [] s₁ H :=
      ⟨rfl, md, fun b o z => of_hidT z, Nat.le_of_eq (hidT_size _ _), trivial, fun b z => (nomatch (show b ∈ ([] : List Addr) from z)), hk, .of_eq ng⟩
    have data : Dq K H (.ref a) (.list (ns.map PyData.int)) := .lst lies (DqAll.ofInts ns)
    have want : spG K mg 1 g [.ref a] H (fun v _ => v = .bl true) (fun _ _ _ => False) := by
      refine ⟨[.d (.list (ns.map PyData.int))], [], [], H, ⟨rfl, Same.refl _, by rw [noT.2]; exact Nat.le_refl _, fun i c z => ?_, fun i j b c c' z => ?_, fun b z => (nomatch z), ⟨fun p hp => (by rw [noT.1] at hp; cases hp), fun z => absurd noT.1 z⟩⟩, .cons data .nil, ?_⟩
      · simp at z
      · simp at z
      · rw [sem]
        intro α' F' H' _ _ v rv
        have rv : Dq K F' v (.bool true) := rv
        cases rv
        rfl
    refine codeAny_mono ((F _ known (space gl) sys0).run callerA [] s₁ H ⟨[.ref a], []⟩ [.ref a] [.ref a] _ _ room rfl en0 (bind s₁ (.ref a)) (.cons rfl .nil) want) fun r s' got => ?_
    rcases r with er | fl
    · obtain ⟨_, _, _, _, _, _, _, _, _, _, _, _, z⟩ := got
      exact z.elim
    · cases fl with
      | ret u =>
        obtain ⟨v, H', os, bare, un, hk', ru, rfl⟩ := got
        cases (show u = Value.bool true from ru)
        refine ⟨rfl, OldK.of_keep fun b o z => ?_, os, bare⟩
        rcases only b with n | ⟨o', xs, fz⟩
        · exact un.keep b o z n (fun y => nomatch (show b ∈ ([] : List Addr) from y)) (by simp)
        · have fz' := un.frzs b o' _ fz
          have g1 := (hk b _ fz).1
          have g2 := (hk' b _ fz').1
          rw [g1] at z
          cases z
          exact g2
      | _ => exact False.elim got
  cases lk : K.lookup a with
  | some o =>
    have got := inK a o lk
    rw [ob] at got
    cases got
    exact go (fun _ => none) (fun b z => absurd rfl z) (fun z => absurd rfl z) (fun b u z => nomatch (show (none : Option HO) = some u from z)) (fun _ => .inl rfl)
      (.inr ⟨vs, _, lk, by rw [List.length_map]; exact len, rel⟩)
  | none =>
    have at_ : ∀ b u, (if b = a then some (HO.frz { cls := .type "list", data := .seq vs.toArray } (.lst (ns.map V.int))) else none) = some u → b = a ∧ u = HO.frz { cls := .type "list", data := .seq vs.toArray } (.lst (ns.map V.int)) := fun b u z => by
      split at z
      · exact ⟨by assumption, (Option.some.inj z).symm⟩
      · exact nomatch z
    refine go (fun b => if b = a then some (.frz { cls := .type "list", data := .seq vs.toArray } (.lst (ns.map V.int))) else none) (fun b z => ?_) (fun _ => lk) (fun b u z => ?_) (fun b => ?_) (.inl (.inr ⟨_, if_pos rfl⟩))
    · by_cases eq : b = a
      · exact eq
      · exact absurd (if_neg eq) z
    · obtain ⟨rfl, rfl⟩ := at_ b u z
      exact ⟨ob, by rw [List.length_map]; exact len, vs, _, rel, ob⟩
    · by_cases eq : b = a
      · exact .inr ⟨_, _, if_pos eq⟩
      · exact .inl (if_neg eq)
end
theorem walk_GX {l : PySem.W.OpenLaw} {n k : Nat} {q : Program} {loose : List Str} {XP : (Str → Option Value) → Heap → Prop} {YP : World → Heap → Prop} {d : DefRec} {K : Params → PySem.W.Frag} {x : Str} {g : ClsN → GF}
    (imp : importsNone q = true) (hn : l.most = some n) (hn2 : n ≤ sizeLine) (hdf : d.params.defaults = []) (room : Room k callerA) (hY : ∀ (w : World) (h : Heap), YP w h → (K w.params).In h)
    (F : ∀ (w : World) (mg : Str → Option Value) (fa : Addr) (h : Heap), (K w.params).In h → h.Ns mainGlobals mg → mg d.name = some (.ref fa) →
      ∃ (A : ClsN) (fd : FuncData), (∀ (s : Shared) (u : Value), BindsTo s fd ⟨[u], []⟩ [(x, u)]) ∧ ∀ base : Heap, (K w.params).In base → base.Ns mainGlobals mg → (∃ o, base.get? sysModules = some o) → FnG l.prog w (K w.params) mg base k fa fd [x] (@spG noTab (K w.params) mg 1 (g A)))
    (sem : ∀ (A : ClsN) (ns : List Int), ns.length ≤ n → (∀ z ∈ ns, Builtin.Int.intBits z ≤ 1048576) → arity 1 (g A) [.d (.list (ns.map PyData.int))] [] = .ok (.d (.bool true)) []) :
    PySem.W.WalkO q loose XP YP l.row.toRowW d [] (fun f vs => PySem.call f vs) := by
  letI : TabN := noTab
  refine Att.attach_callB hn hdf fun w s₀ s₁ mg mb fa o pm cd doc a vs ns G Y _ _ _ named obj isI many bits gens => ?_
  have inK := hY w _ Y
  obtain ⟨A, fd, bind, prom⟩ := F w mg fa _ inK G.T.g named
  obtain ⟨mm, h1, _⟩ := (G.T.seer imp).mods
  exact head_callX ⟨rfl, rfl⟩ ⟨mm, h1⟩ inK G.T.g G.T.b G.T.builtins G.T.nolimit gens obj isI (Nat.le_trans many hn2) room prom bind (sem A ns many bits)
end TL
namespace LW
open PySem PySem.Spec L2 PyProof.Rows TL
variable [TabN] [ClsN]
def top (i : Nat) : Stmt := PySem.Challenge.pw_twoletters_k01_errors_each_of_its_own.main.body.getD i (.Pass ⟨0, 0, 0, 0⟩)
theorem hu64 {A : Around} {k : Nat} (h : Room k A) : A.units + 64 < cLine := by
  have := h.un
  omega
theorem hu65 {A : Around} {k : Nat} (h : Room k A) : A.units + 65 < cLine := by
  have := h.un
  omega

def clsL : List (Str × Str) := [("LetterError", ""), ("InvalidFraction", "given"), ("InvalidRow", "given"), ("InvalidNumber", "given"), ("InvalidForm", "given"), ("InvalidIndex", "given"), ("InvalidCount", "given"), ("InvalidRelation", "given"), ("InvalidLetter", "given"), ("InvalidPoly", "given"), ("InvalidPlace", "given"), ("InvalidSaying", "given"), ("InvalidCell", "given"), ("InvalidPoint", "given"), ("TooMany", "given"), ("InvalidRows", "index"), ("InvalidPolys", "index"), ("InvalidLines", "index"), ("BadText", "spot"), ("UnlikePlaces", "")]

abbrev st_law_well : Stmt := top 22
theorem sc_law_well : FnScope ["_law_script", "_law_at", "_law_mixed", "_law_cell", "_law_own"] ["_law_script", "_law_at"] (defScope st_law_well) := ⟨rfl, rfl, rfl, by decide +kernel, rfl, by decide +kernel, by decide +kernel⟩
theorem bd_law_well {K : PySem.W.Frag} {f : Addr} {fd : FuncData} (F : Fun K "_law_well" "_law_well" st_law_well f fd) : Binds K fd ["_law_script", "_law_at"] [] := F.binds (ps := ["_law_script", "_law_at"]) fun _ _ _ _ _ _ us hl => match us, hl with | [_, _], _ => rfl
noncomputable def b_law_well : Sv :=
  (sSeq (sAsg (e2 gPlus (eK (.int 731071)) (e2 gTimes (eK (.int 7457)) (eVar 1))) (gNm 2))
    (sSeq (sFor (iAny (eSl (eVar 0) none (some (eK (.int 9))))) (gNm 3) (sAsg (e2 gMod (en gInt (aCons (e2 gPlus (e2 gPlus (e2 gTimes (eVar 2) (eK (.int 48023))) (e2 gMod (en gInt (aCons (eVar 3) aNil)) (eK (.int 2147483629)))) (eK (.int 5))) aNil)) (eK (.int 2147483563))) (gNm 2)))
    (sSeq (sAsg (eIf (tB' (e2 (gCmp fun i j => decide (i < j)) (eVar 1) (en gLen (aCons (eVar 0) aNil)))) (en gInt (aCons (e2 gIx (eVar 0) (eVar 1)) aNil)) (eK (.int 0))) (gNm 4))
    (sSeq (sAsg (e2 gMod (en gInt (aCons (e2 gPlus (e2 gPlus (e2 gTimes (eVar 2) (eK (.int 43))) (e2 gTimes (e2 gMod (en gInt (aCons (eVar 4) aNil)) (eK (.int 2147483629))) (eK (.int 20047)))) (eK (.int 13))) aNil)) (eK (.int 2147483563))) (gNm 2))
    (sRet (eNew (lDisp (aCons (eIf (bOr (tB' (e2 (gCmp fun i j => decide (i < j)) (eVar 4) (eK (.int 0)))) (tB' (e2 (gCmp fun i j => decide (j ≤ i)) (eVar 4) (e2 gPow (eK (.int 10)) (eK (.int 14)))))) (en gAbs (aCons (eVar 4) aNil)) (eK (.int 0))) (aCons (eVar 2) (aCons (eK (.int 0)) aNil))))))))))
noncomputable def f_law_well : GF := runD 5 b_law_well

abbrev st_law_draw : Stmt := top 23
theorem sc_law_draw : FnScope ["_law_well_here", "_law_few", "_law_seed", "_law_figure"] ["_law_well_here", "_law_few"] (defScope st_law_draw) := ⟨rfl, rfl, rfl, by decide +kernel, rfl, by decide +kernel, by decide +kernel⟩
theorem bd_law_draw {K : PySem.W.Frag} {f : Addr} {fd : FuncData} (F : Fun K "_law_draw" "_law_draw" st_law_draw f fd) : Binds K fd ["_law_well_here", "_law_few"] [] := F.binds (ps := ["_law_well_here", "_law_few"]) fun _ _ _ _ _ _ us hl => match us, hl with | [_, _], _ => rfl
noncomputable def b_law_draw : Sv :=
  (sSeq (sIf (tB' (e2 (gCmp fun i j => decide (j < i)) (e2 gIx (eVar 0) (eK (.int 0))) (eK (.int 0)))) (sSeq (sAsg (en gDivmod (aCons (e2 gIx (eVar 0) (eK (.int 0))) (aCons (eVar 1) aNil))) (gTp [(gSb (eVar 0) (eK (.int 0))), (gNm 3)]))
    (sRet (eVar 3))) sNext)
    (sSeq (sAsg (e2 gPlus (e2 gIx (eVar 0) (eK (.int 2))) (eK (.int 1))) (gSb (eVar 0) (eK (.int 2))))
    (sSeq (sAsg (e2 gMod (en gInt (aCons (e2 gPlus (e2 gIx (eVar 0) (eK (.int 1))) (e2 gTimes (eK (.int 60037)) (e2 gIx (eVar 0) (eK (.int 2))))) aNil)) (eK (.int 2147483563))) (gNm 2))
    (sSeq (sAsg (e2 gMod (en gInt (aCons (e2 gPlus (e2 gTimes (eVar 2) (e2 gPlus (e2 gMod (en gInt (aCons (eVar 2) aNil)) (eK (.int 5003))) (eK (.int 40031)))) (e2 gTimes (eK (.int 41)) (e2 gIx (eVar 0) (eK (.int 2))))) aNil)) (eK (.int 2147483563))) (gSb (eVar 0) (eK (.int 1))))
    (sRet (e2 gMod (en gInt (aCons (e2 gDiv (e2 gIx (eVar 0) (eK (.int 1))) (eK (.int 653))) aNil)) (eVar 1)))))))
noncomputable def f_law_draw : GF := runD 4 b_law_draw

abbrev st_law_pick : Stmt := top 24
theorem sc_law_pick : FnScope ["_law_well_here", "_law_some"] ["_law_well_here", "_law_some"] (defScope st_law_pick) := ⟨rfl, rfl, rfl, by decide +kernel, rfl, by decide +kernel, by decide +kernel⟩
theorem bd_law_pick {K : PySem.W.Frag} {f : Addr} {fd : FuncData} (F : Fun K "_law_pick" "_law_pick" st_law_pick f fd) : Binds K fd ["_law_well_here", "_law_some"] [] := F.binds (ps := ["_law_well_here", "_law_some"]) fun _ _ _ _ _ _ us hl => match us, hl with | [_, _], _ => rfl
noncomputable def b_law_pick : Sv :=
  (sRet (e2 gIx (eVar 1) (cF 2 f_law_draw (aCons (eVar 0) (aCons (en gLen (aCons (eVar 1) aNil)) aNil)))))
noncomputable def f_law_pick : GF := runD 2 b_law_pick

abbrev st_law_common : Stmt := top 25
theorem sc_law_common : FnScope ["_law_one", "_law_two", "_law_far", "_law_rest"] ["_law_one", "_law_two"] (defScope st_law_common) := ⟨rfl, rfl, rfl, by decide +kernel, rfl, by decide +kernel, by decide +kernel⟩
theorem bd_law_common {K : PySem.W.Frag} {f : Addr} {fd : FuncData} (F : Fun K "_law_common" "_law_common" st_law_common f fd) : Binds K fd ["_law_one", "_law_two"] [] := F.binds (ps := ["_law_one", "_law_two"]) fun _ _ _ _ _ _ us hl => match us, hl with | [_, _], _ => rfl
noncomputable def b_law_common : Sv :=
  (sSeq (sPar 2 3 (aCons (en gAbs (aCons (eVar 0) aNil)) (aCons (en gAbs (aCons (eVar 1) aNil)) aNil)))
    (sSeq (sWhile (tB' (e2 (gEq true) (eVar 3) (eK (.int 0)))) (sPar 2 3 (aCons (eVar 3) (aCons (e2 gMod (en gInt (aCons (eVar 2) aNil)) (eVar 3)) aNil))))
    (sRet (eVar 2))))
noncomputable def f_law_common : GF := runD 4 b_law_common

abbrev st_law_lean : Stmt := top 26
theorem sc_law_lean : FnScope ["_law_top", "_law_base", "_law_far"] ["_law_top", "_law_base"] (defScope st_law_lean) := ⟨rfl, rfl, rfl, by decide +kernel, rfl, by decide +kernel, by decide +kernel⟩
theorem bd_law_lean {K : PySem.W.Frag} {f : Addr} {fd : FuncData} (F : Fun K "_law_lean" "_law_lean" st_law_lean f fd) : Binds K fd ["_law_top", "_law_base"] [] := F.binds (ps := ["_law_top", "_law_base"]) fun _ _ _ _ _ _ us hl => match us, hl with | [_, _], _ => rfl
noncomputable def b_law_lean : Sv :=
  (sSeq (sAsg (eIf (tB' (e2 (gCmp fun i j => decide (j < i)) (eVar 1) (eK (.int 0)))) (cF 2 f_law_common (aCons (eVar 0) (aCons (eVar 1) aNil))) (e2 gSub (eK (.int 0)) (cF 2 f_law_common (aCons (eVar 0) (aCons (eVar 1) aNil))))) (gNm 2))
    (sRet (eTup (aCons (e2 gDiv (eVar 0) (eVar 2)) (aCons (e2 gDiv (eVar 1) (eVar 2)) aNil)))))
noncomputable def f_law_lean : GF := runD 3 b_law_lean

abbrev st_law_small : Stmt := top 27
theorem sc_law_small : FnScope ["_law_well_here", "_law_branch"] ["_law_well_here"] (defScope st_law_small) := ⟨rfl, rfl, rfl, by decide +kernel, rfl, by decide +kernel, by decide +kernel⟩
theorem bd_law_small {K : PySem.W.Frag} {f : Addr} {fd : FuncData} (F : Fun K "_law_small" "_law_small" st_law_small f fd) : Binds K fd ["_law_well_here"] [] := F.binds (ps := ["_law_well_here"]) fun _ _ _ _ _ _ us hl => match us, hl with | [_], _ => rfl
noncomputable def b_law_small : Sv :=
  (sSeq (sAsg (cF 2 f_law_draw (aCons (eVar 0) (aCons (eK (.int 12)) aNil))) (gNm 1))
    (sSeq (sIf (tB' (e2 (gCmp fun i j => decide (i < j)) (eVar 1) (eK (.int 9)))) (sRet (e2 gSub (cF 2 f_law_draw (aCons (eVar 0) (aCons (eK (.int 9)) aNil))) (eK (.int 4)))) sNext)
    (sRet (eIf (tB' (e2 (gCmp fun i j => decide (i < j)) (eVar 1) (eK (.int 11)))) (e2 gSub (cF 2 f_law_draw (aCons (eVar 0) (aCons (eK (.int 61)) aNil))) (eK (.int 30))) (e2 gSub (cF 2 f_law_draw (aCons (eVar 0) (aCons (eK (.int 2000001)) aNil))) (eK (.int 1000000)))))))
noncomputable def f_law_small : GF := runD 2 b_law_small

abbrev st_law_part : Stmt := top 28
theorem sc_law_part : FnScope ["_law_well_here", "_law_top"] ["_law_well_here"] (defScope st_law_part) := ⟨rfl, rfl, rfl, by decide +kernel, rfl, by decide +kernel, by decide +kernel⟩
theorem bd_law_part {K : PySem.W.Frag} {f : Addr} {fd : FuncData} (F : Fun K "_law_part" "_law_part" st_law_part f fd) : Binds K fd ["_law_well_here"] [] := F.binds (ps := ["_law_well_here"]) fun _ _ _ _ _ _ us hl => match us, hl with | [_], _ => rfl
noncomputable def b_law_part : Sv :=
  (sSeq (sAsg (cF 1 f_law_small (aCons (eVar 0) aNil)) (gNm 1))
    (sRet (cF 2 f_law_lean (aCons (eVar 1) (aCons (cF 2 f_law_pick (aCons (eVar 0) (aCons (eTup (aCons (eK (.int 1)) (aCons (eK (.int 1)) (aCons (eK (.int 1)) (aCons (eK (.int 2)) (aCons (eK (.int 3)) (aCons (eK (.int 1)) (aCons (eK (.int 4)) (aCons (eK (.int 7)) aNil))))))))) aNil))) aNil)))))
noncomputable def f_law_part : GF := runD 2 b_law_part

abbrev st_law_odd : Stmt := top 29
theorem sc_law_odd : FnScope ["_law_well_here"] ["_law_well_here"] (defScope st_law_odd) := ⟨rfl, rfl, rfl, by decide +kernel, rfl, by decide +kernel, by decide +kernel⟩
theorem bd_law_odd {K : PySem.W.Frag} {f : Addr} {fd : FuncData} (F : Fun K "_law_odd" "_law_odd" st_law_odd f fd) : Binds K fd ["_law_well_here"] [] := F.binds (ps := ["_law_well_here"]) fun _ _ _ _ _ _ us hl => match us, hl with | [_], _ => rfl
noncomputable def b_law_odd : Sv :=
  (sRet (cF 2 f_law_pick (aCons (eVar 0) (aCons (eTup (aCons (eK .none) (aCons (eK (.bool true)) (aCons (eK (.bool false)) (aCons (eK (.int 0)) (aCons (eK (.int 1)) (aCons (e1 gNeg (eK (.int 1))) (aCons (eK (.int 3)) (aCons (e2 gPow (eK (.int 10)) (eK (.int 25))) (aCons (eK (.str "")) (aCons (eK (.str "x")) (aCons (eK (.str "below")) (aCons (eTup aNil) (aCons (eTup (aCons (eK (.int 0)) aNil)) (aCons (eTup (aCons (eK (.int 1)) aNil)) (aCons (eTup (aCons (eK (.int 0)) (aCons (eK (.int 1)) aNil))) (aCons (eTup (aCons (eK (.int 1)) (aCons (eK (.int 1)) aNil))) (aCons (eTup (aCons (eK (.int 2)) (aCons (eK (.int 2)) aNil))) (aCons (eTup (aCons (eK (.int 0)) (aCons (eK (.int 3)) aNil))) (aCons (eTup (aCons (eK (.int 1)) (aCons (eK (.int 0)) aNil))) (aCons (eTup (aCons (eK (.int 3)) (aCons (e1 gNeg (eK (.int 2))) aNil))) (aCons (eTup (aCons (eK (.bool true)) (aCons (eK (.int 1)) aNil))) (aCons (eTup (aCons (eK (.int 0)) (aCons (eK (.bool true)) aNil))) (aCons (eTup (aCons (eK (.int 1)) (aCons (eK (.int 1)) (aCons (eK (.int 1)) aNil)))) (aCons (eTup (aCons (eK (.int 0)) (aCons (eK (.int 0)) (aCons (eK (.int 1)) aNil)))) (aCons (eTup (aCons (eTup aNil) aNil)) (aCons (eTup (aCons (eTup (aCons (eK (.int 0)) (aCons (eK (.int 1)) aNil))) aNil)) (aCons (eTup (aCons (eTup (aCons (eK (.int 0)) (aCons (eK (.int 1)) aNil))) (aCons (eTup (aCons (eK (.int 0)) (aCons (eK (.int 1)) aNil))) aNil))) (aCons (eTup (aCons (eTup (aCons (eK (.int 1)) aNil)) (aCons (eTup (aCons (eK (.int 0)) (aCons (eK (.int 1)) aNil))) aNil))) (aCons (eFrz (lDisp aNil)) (aCons (eFrz (lDisp (aCons (eK (.int 0)) (aCons (eK (.int 1)) aNil)))) (aCons (eFrz (lDisp (aCons (eTup (aCons (eK (.int 0)) (aCons (eK (.int 1)) aNil))) aNil))) (aCons eDic (aCons (eTup (aCons (eK .none) (aCons (eK (.int 1)) aNil))) (aCons (eTup (aCons (eK (.str "0")) (aCons (eK (.int 1)) aNil))) (aCons (eTup (aCons (eTup (aCons (e1 gNeg (eK (.int 2))) (aCons (eK (.int 0)) (aCons (eK (.int 1)) aNil)))) (aCons (eK (.int 1)) aNil))) (aCons (eTup (aCons (eTup (aCons (e1 gNeg (eK (.int 2))) (aCons (eK (.int 0)) (aCons (eK (.int 1)) aNil)))) (aCons (eK (.int 2)) aNil))) (aCons (eTup (aCons (eTup (aCons (e1 gNeg (eK (.int 2))) (aCons (eK (.int 0)) (aCons (eK (.int 1)) aNil)))) (aCons (eK (.bool true)) aNil))) (aCons (eTup (aCons (eTup (aCons (e1 gNeg (eK (.int 2))) (aCons (eK (.int 0)) (aCons (eK (.int 1)) aNil)))) (aCons (e1 gNeg (eK (.int 1))) aNil))) (aCons (eTup (aCons (eTup (aCons (eK (.int 2)) (aCons (eK (.int 0)) (aCons (e1 gNeg (eK (.int 1))) aNil)))) (aCons (eK (.int 0)) aNil))) (aCons (eTup (aCons (eTup (aCons (e1 gNeg (eK (.int 4))) (aCons (eK (.int 0)) (aCons (eK (.int 2)) aNil)))) (aCons (eK (.int 1)) aNil))) (aCons (eTup (aCons (eTup (aCons (e1 gNeg (eK (.int 1))) (aCons (eK (.int 0)) (aCons (eK (.int 1)) aNil)))) (aCons (eK (.int 0)) aNil))) (aCons (eTup (aCons (eTup (aCons (eK (.int 4)) (aCons (eK (.int 0)) (aCons (e1 gNeg (eK (.int 4))) (aCons (eK (.int 0)) (aCons (eK (.int 1)) aNil)))))) (aCons (eK (.int 1)) aNil))) (aCons (eTup (aCons (eTup aNil) (aCons (eTup (aCons (eK (.bool true)) aNil)) aNil))) (aCons (eTup (aCons (eTup aNil) (aCons (eTup (aCons (eK (.int 1)) aNil)) aNil))) (aCons (eTup (aCons (eTup (aCons (eTup (aCons (eK (.int 0)) (aCons (eK (.int 1)) aNil))) aNil)) (aCons (eTup (aCons (eK (.bool true)) (aCons (eK (.bool true)) (aCons (eK (.bool true)) aNil)))) aNil))) (aCons (eTup (aCons (eK (.str "true")) aNil)) (aCons (eK (.str "not at")) (aCons (eTup (aCons (eK (.int 1)) (aCons (eK (.int 2)) aNil))) (aCons (eTup (aCons (eTup (aCons (eTup (aCons (eK (.int 0)) (aCons (eK (.int 1)) aNil))) aNil)) (aCons (eTup (aCons (eK (.bool false)) (aCons (eK (.bool true)) (aCons (eK (.bool true)) aNil)))) aNil))) (aCons (eTup (aCons (eK (.str "below")) (aCons (eTup (aCons (eTup (aCons (eK (.int 0)) (aCons (eK (.int 1)) aNil))) aNil)) aNil))) (aCons (eTup (aCons (eFrz (lDisp (aCons (eK (.int 0)) (aCons (eK (.int 1)) aNil)))) (aCons (eK (.int 1)) aNil))) (aCons (eTup (aCons (eTup (aCons (eK (.int 0)) (aCons (eK (.int 1)) aNil))) (aCons (eTup aNil) aNil))) aNil))))))))))))))))))))))))))))))))))))))))))))))))))))) aNil))))
noncomputable def f_law_odd : GF := runD 1 b_law_odd

abbrev st_law_bent : Stmt := top 30
theorem sc_law_bent : FnScope ["_law_well_here", "_law_thing", "_law_branch", "_law_spot"] ["_law_well_here", "_law_thing"] (defScope st_law_bent) := ⟨rfl, rfl, rfl, by decide +kernel, rfl, by decide +kernel, by decide +kernel⟩
theorem bd_law_bent {K : PySem.W.Frag} {f : Addr} {fd : FuncData} (F : Fun K "_law_bent" "_law_bent" st_law_bent f fd) : Binds K fd ["_law_well_here", "_law_thing"] [] := F.binds (ps := ["_law_well_here", "_law_thing"]) fun _ _ _ _ _ _ us hl => match us, hl with | [_, _], _ => rfl
noncomputable def b_law_bent (rec : GF) : Sv :=
  (sSeq (sIf (bAnd (tB' (e1 (gIsi "tuple") (eVar 1))) (bAnd (tB' (e2 (gEq true) (eVar 1) (eTup aNil))) (tB' (e2 (gCmp fun i j => decide (j < i)) (cF 2 f_law_draw (aCons (eVar 0) (aCons (eK (.int 4)) aNil))) (eK (.int 0)))))) (sSeq (sAsg (cF 2 f_law_draw (aCons (eVar 0) (aCons (en gLen (aCons (eVar 1) aNil)) aNil))) (gNm 3))
    (sRet (e2 gPlus (e2 gPlus (eSl (eVar 1) none (some (eVar 3))) (eTup (aCons (cF 2 rec (aCons (eVar 0) (aCons (e2 gIx (eVar 1) (eVar 3)) aNil))) aNil))) (eSl (eVar 1) (some (e2 gPlus (eVar 3) (eK (.int 1)))) none)))) sNext)
    (sSeq (sAsg (cF 2 f_law_draw (aCons (eVar 0) (aCons (eK (.int 9)) aNil))) (gNm 2))
    (sSeq (sIf (bAnd (tB' (e1 (gIsi "tuple") (eVar 1))) (tB' (e2 (gCmp fun i j => decide (i < j)) (eVar 2) (eK (.int 6))))) (sRet (e2 gIx (eTup (aCons (eFrz (lList (aCons (eVar 1) aNil))) (aCons (eSl (eVar 1) none (some (e1 gNeg (eK (.int 1))))) (aCons (e2 gPlus (eVar 1) (eSl (eVar 1) (some (e1 gNeg (eK (.int 1)))) none)) (aCons (e1 gRev (eVar 1)) (aCons (eSl (eVar 1) (some (eK (.int 1))) none) (aCons (e2 gPlus (eSl (eVar 1) none (some (eK (.int 1)))) (eVar 1)) aNil))))))) (eVar 2))) sNext)
    (sSeq (sIf (bAnd (tB' (e1 (gIsi "int") (eVar 1))) (tB' (e2 (gCmp fun i j => decide (i < j)) (eVar 2) (eK (.int 5))))) (sRet (e2 gIx (eTup (aCons (e2 gPlus (eVar 1) (eK (.int 1))) (aCons (e2 gSub (eK (.int 0)) (eVar 1)) (aCons (e2 gTimes (eK (.int 2)) (eVar 1)) (aCons (e2 gSub (eVar 1) (eK (.int 2))) (aCons (e2 (gEq false) (eVar 1) (eK (.int 1))) aNil)))))) (eVar 2))) sNext)
    (sRet (cF 1 f_law_odd (aCons (eVar 0) aNil)))))))
noncomputable def f_law_bent : Nat → GF
  | 0 => fun _ _ => .bad
  | n + 1 => runD 4 (b_law_bent (f_law_bent n))

abbrev st_law_spoilt : Stmt := top 31
theorem sc_law_spoilt : FnScope ["_law_well_here", "_law_thing", "_law_branch"] ["_law_well_here", "_law_thing"] (defScope st_law_spoilt) := ⟨rfl, rfl, rfl, by decide +kernel, rfl, by decide +kernel, by decide +kernel⟩
theorem bd_law_spoilt {K : PySem.W.Frag} {f : Addr} {fd : FuncData} (F : Fun K "_law_spoilt" "_law_spoilt" st_law_spoilt f fd) : Binds K fd ["_law_well_here", "_law_thing"] [] := F.binds (ps := ["_law_well_here", "_law_thing"]) fun _ _ _ _ _ _ us hl => match us, hl with | [_, _], _ => rfl
noncomputable def b_law_spoilt : Sv :=
  (sSeq (sAsg (cF 2 f_law_draw (aCons (eVar 0) (aCons (eK (.int 12)) aNil))) (gNm 2))
    (sSeq (sIf (tB' (e2 (gCmp fun i j => decide (i < j)) (eVar 2) (eK (.int 7)))) (sRet (eVar 1)) sNext)
    (sRet (eIf (tB' (e2 (gCmp fun i j => decide (i < j)) (eVar 2) (eK (.int 11)))) (cF 2 (f_law_bent 8) (aCons (eVar 0) (aCons (eVar 1) aNil))) (cF 1 f_law_odd (aCons (eVar 0) aNil))))))
noncomputable def f_law_spoilt : GF := runD 3 b_law_spoilt

abbrev st_law_low : Stmt := top 32
theorem sc_law_low : FnScope ["_law_spot", "_law_thing"] ["_law_spot", "_law_thing"] (defScope st_law_low) := ⟨rfl, rfl, rfl, by decide +kernel, rfl, by decide +kernel, by decide +kernel⟩
theorem bd_law_low {K : PySem.W.Frag} {f : Addr} {fd : FuncData} (F : Fun K "_law_low" "_law_low" st_law_low f fd) : Binds K fd ["_law_spot", "_law_thing"] [] := F.binds (ps := ["_law_spot", "_law_thing"]) fun _ _ _ _ _ _ us hl => match us, hl with | [_, _], _ => rfl
noncomputable def b_law_low : Sv :=
  (sSeq (sIf (tB' (e2 (gCmp fun i j => decide (i < j)) (eVar 0) (eK (.int 3)))) (sRet (eIf (tB' (e2 (gEq false) (eVar 0) (eK (.int 0)))) (eX1 "InvalidFraction" "given" (eVar 1)) (eIf (tB' (e2 (gEq false) (eVar 0) (eK (.int 1)))) (eX1 "InvalidRow" "given" (eVar 1)) (eX1 "InvalidNumber" "given" (eVar 1))))) sNext)
    (sSeq (sIf (tB' (e2 (gCmp fun i j => decide (i < j)) (eVar 0) (eK (.int 6)))) (sRet (eIf (tB' (e2 (gEq false) (eVar 0) (eK (.int 3)))) (eX1 "InvalidForm" "given" (eVar 1)) (eIf (tB' (e2 (gEq false) (eVar 0) (eK (.int 4)))) (eX1 "InvalidIndex" "given" (eVar 1)) (eX1 "InvalidCount" "given" (eVar 1))))) sNext)
    (sRet (eIf (tB' (e2 (gEq false) (eVar 0) (eK (.int 6)))) (eX1 "InvalidRelation" "given" (eVar 1)) (eIf (tB' (e2 (gEq false) (eVar 0) (eK (.int 7)))) (eX1 "InvalidLetter" "given" (eVar 1)) (eX1 "InvalidPoly" "given" (eVar 1)))))))
noncomputable def f_law_low : GF := runD 2 b_law_low

abbrev st_law_by_place : Stmt := top 33
theorem sc_law_by_place : FnScope ["_law_spot", "_law_thing"] ["_law_spot", "_law_thing"] (defScope st_law_by_place) := ⟨rfl, rfl, rfl, by decide +kernel, rfl, by decide +kernel, by decide +kernel⟩
theorem bd_law_by_place {K : PySem.W.Frag} {f : Addr} {fd : FuncData} (F : Fun K "_law_by_place" "_law_by_place" st_law_by_place f fd) : Binds K fd ["_law_spot", "_law_thing"] [] := F.binds (ps := ["_law_spot", "_law_thing"]) fun _ _ _ _ _ _ us hl => match us, hl with | [_, _], _ => rfl
noncomputable def b_law_by_place : Sv :=
  (sSeq (sIf (tB' (e2 (gCmp fun i j => decide (i < j)) (eVar 0) (eK (.int 9)))) (sRet (cF 2 f_law_low (aCons (eVar 0) (aCons (eVar 1) aNil)))) sNext)
    (sSeq (sIf (tB' (e2 (gCmp fun i j => decide (i < j)) (eVar 0) (eK (.int 12)))) (sRet (eIf (tB' (e2 (gEq false) (eVar 0) (eK (.int 9)))) (eX1 "InvalidPlace" "given" (eVar 1)) (eIf (tB' (e2 (gEq false) (eVar 0) (eK (.int 10)))) (eX1 "InvalidCell" "given" (eVar 1)) (eX1 "InvalidPoint" "given" (eVar 1))))) sNext)
    (sSeq (sIf (tB' (e2 (gCmp fun i j => decide (i < j)) (eVar 0) (eK (.int 14)))) (sRet (eIf (tB' (e2 (gEq false) (eVar 0) (eK (.int 12)))) (eX1 "InvalidSaying" "given" (eVar 1)) (eX1 "TooMany" "given" (eVar 1)))) sNext)
    (sSeq (sIf (tB' (e2 (gCmp fun i j => decide (i < j)) (eVar 0) (eK (.int 17)))) (sRet (eIf (tB' (e2 (gEq false) (eVar 0) (eK (.int 14)))) (eX1 "InvalidRows" "index" (eVar 1)) (eIf (tB' (e2 (gEq false) (eVar 0) (eK (.int 15)))) (eX1 "InvalidPolys" "index" (eVar 1)) (eX1 "InvalidLines" "index" (eVar 1))))) sNext)
    (sRet (eIf (tB' (e2 (gEq false) (eVar 0) (eK (.int 17)))) (eX1 "BadText" "spot" (eVar 1)) (eIf (tB' (e2 (gEq false) (eVar 0) (eK (.int 18)))) (eX0 "UnlikePlaces") (eX0 "LetterError"))))))))
noncomputable def f_law_by_place : GF := runD 2 b_law_by_place

abbrev st_law_low_name : Stmt := top 34
theorem sc_law_low_name : FnScope ["_law_spot", "_law_thing"] ["_law_spot", "_law_thing"] (defScope st_law_low_name) := ⟨rfl, rfl, rfl, by decide +kernel, rfl, by decide +kernel, by decide +kernel⟩
theorem bd_law_low_name {K : PySem.W.Frag} {f : Addr} {fd : FuncData} (F : Fun K "_law_low_name" "_law_low_name" st_law_low_name f fd) : Binds K fd ["_law_spot", "_law_thing"] [] := F.binds (ps := ["_law_spot", "_law_thing"]) fun _ _ _ _ _ _ us hl => match us, hl with | [_, _], _ => rfl
noncomputable def b_law_low_name : Sv :=
  (sSeq (sIf (tB' (e2 (gCmp fun i j => decide (i < j)) (eVar 0) (eK (.int 3)))) (sSeq (sIf (tB' (e2 (gEq false) (eVar 0) (eK (.int 0)))) (sRet (eX1 "InvalidFraction" "given" (eVar 1))) sNext)
    (sRet (eIf (tB' (e2 (gEq false) (eVar 0) (eK (.int 1)))) (eX1 "InvalidRow" "given" (eVar 1)) (eX1 "InvalidNumber" "given" (eVar 1))))) sNext)
    (sSeq (sIf (tB' (e2 (gCmp fun i j => decide (i < j)) (eVar 0) (eK (.int 6)))) (sSeq (sIf (tB' (e2 (gEq false) (eVar 0) (eK (.int 3)))) (sRet (eX1 "InvalidForm" "given" (eVar 1))) sNext)
    (sRet (eIf (tB' (e2 (gEq false) (eVar 0) (eK (.int 4)))) (eX1 "InvalidIndex" "given" (eVar 1)) (eX1 "InvalidCount" "given" (eVar 1))))) sNext)
    (sSeq (sIf (tB' (e2 (gEq false) (eVar 0) (eK (.int 6)))) (sRet (eX1 "InvalidRelation" "given" (eVar 1))) sNext)
    (sRet (eIf (tB' (e2 (gEq false) (eVar 0) (eK (.int 7)))) (eX1 "InvalidLetter" "given" (eVar 1)) (eX1 "InvalidPoly" "given" (eVar 1)))))))
noncomputable def f_law_low_name : GF := runD 2 b_law_low_name

abbrev st_law_by_name : Stmt := top 35
theorem sc_law_by_name : FnScope ["_law_spot", "_law_thing"] ["_law_spot", "_law_thing"] (defScope st_law_by_name) := ⟨rfl, rfl, rfl, by decide +kernel, rfl, by decide +kernel, by decide +kernel⟩
theorem bd_law_by_name {K : PySem.W.Frag} {f : Addr} {fd : FuncData} (F : Fun K "_law_by_name" "_law_by_name" st_law_by_name f fd) : Binds K fd ["_law_spot", "_law_thing"] [] := F.binds (ps := ["_law_spot", "_law_thing"]) fun _ _ _ _ _ _ us hl => match us, hl with | [_, _], _ => rfl
noncomputable def b_law_by_name : Sv :=
  (sSeq (sIf (tB' (e2 (gCmp fun i j => decide (i < j)) (eVar 0) (eK (.int 9)))) (sRet (cF 2 f_law_low_name (aCons (eVar 0) (aCons (eVar 1) aNil)))) sNext)
    (sSeq (sIf (tB' (e2 (gCmp fun i j => decide (i < j)) (eVar 0) (eK (.int 12)))) (sSeq (sIf (tB' (e2 (gEq false) (eVar 0) (eK (.int 9)))) (sRet (eX1 "InvalidPlace" "given" (eVar 1))) sNext)
    (sRet (eIf (tB' (e2 (gEq false) (eVar 0) (eK (.int 10)))) (eX1 "InvalidCell" "given" (eVar 1)) (eX1 "InvalidPoint" "given" (eVar 1))))) sNext)
    (sSeq (sIf (tB' (e2 (gCmp fun i j => decide (i < j)) (eVar 0) (eK (.int 14)))) (sRet (eIf (tB' (e2 (gEq false) (eVar 0) (eK (.int 12)))) (eX1 "InvalidSaying" "given" (eVar 1)) (eX1 "TooMany" "given" (eVar 1)))) sNext)
    (sSeq (sIf (tB' (e2 (gCmp fun i j => decide (i < j)) (eVar 0) (eK (.int 16)))) (sRet (eIf (tB' (e2 (gEq false) (eVar 0) (eK (.int 14)))) (eX1 "InvalidRows" "index" (eVar 1)) (eX1 "InvalidPolys" "index" (eVar 1)))) sNext)
    (sRet (eIf (tB' (e2 (gEq false) (eVar 0) (eK (.int 16)))) (eX1 "InvalidLines" "index" (eVar 1)) (eX1 "BadText" "spot" (eVar 1))))))))
noncomputable def f_law_by_name : GF := runD 2 b_law_by_name

abbrev st_law_truths : Stmt := top 36
theorem sc_law_truths : FnScope ["_law_error", "_law_found"] ["_law_error"] (defScope st_law_truths) := ⟨rfl, rfl, rfl, by decide +kernel, rfl, by decide +kernel, by decide +kernel⟩
theorem bd_law_truths {K : PySem.W.Frag} {f : Addr} {fd : FuncData} (F : Fun K "_law_truths" "_law_truths" st_law_truths f fd) : Binds K fd ["_law_error"] [] := F.binds (ps := ["_law_error"]) fun _ _ _ _ _ _ us hl => match us, hl with | [_], _ => rfl
noncomputable def b_law_truths : Sv :=
  (sSeq (sAsg (eFrz (lDisp (aCons (e1 (gXi clsL "InvalidFraction") (eVar 0)) (aCons (e1 (gXi clsL "InvalidRow") (eVar 0)) (aCons (e1 (gXi clsL "InvalidNumber") (eVar 0)) aNil))))) (gNm 1))
    (sSeq (sAsg (e2 gPlus (eVar 1) (eFrz (lDisp (aCons (e1 (gXi clsL "InvalidForm") (eVar 0)) (aCons (e1 (gXi clsL "InvalidIndex") (eVar 0)) aNil))))) (gNm 1))
    (sSeq (sAsg (e2 gPlus (eVar 1) (eFrz (lDisp (aCons (e1 (gXi clsL "InvalidCount") (eVar 0)) (aCons (e1 (gXi clsL "InvalidRelation") (eVar 0)) aNil))))) (gNm 1))
    (sSeq (sAsg (e2 gPlus (eVar 1) (eFrz (lDisp (aCons (e1 (gXi clsL "InvalidLetter") (eVar 0)) (aCons (e1 (gXi clsL "InvalidPoly") (eVar 0)) aNil))))) (gNm 1))
    (sSeq (sAsg (e2 gPlus (eVar 1) (eFrz (lDisp (aCons (e1 (gXi clsL "InvalidPlace") (eVar 0)) (aCons (e1 (gXi clsL "InvalidCell") (eVar 0)) (aCons (e1 (gXi clsL "InvalidPoint") (eVar 0)) aNil)))))) (gNm 1))
    (sSeq (sAsg (e2 gPlus (eVar 1) (eFrz (lDisp (aCons (e1 (gXi clsL "InvalidSaying") (eVar 0)) (aCons (e1 (gXi clsL "TooMany") (eVar 0)) (aCons (e1 (gXi clsL "InvalidRows") (eVar 0)) aNil)))))) (gNm 1))
    (sSeq (sAsg (e2 gPlus (eVar 1) (eFrz (lDisp (aCons (e1 (gXi clsL "InvalidPolys") (eVar 0)) (aCons (e1 (gXi clsL "InvalidLines") (eVar 0)) (aCons (e1 (gXi clsL "BadText") (eVar 0)) aNil)))))) (gNm 1))
    (sSeq (sAsg (e2 gPlus (eVar 1) (eFrz (lDisp (aCons (e1 (gXi clsL "UnlikePlaces") (eVar 0)) (aCons (e1 (gXi clsL "LetterError") (eVar 0)) (aCons (e1 (gXi clsL "ValueError") (eVar 0)) aNil)))))) (gNm 1))
    (sSeq (sAsg (e2 gPlus (eVar 1) (eFrz (lDisp (aCons (e1 (gXi clsL "Exception") (eVar 0)) (aCons (e1 (gXi clsL "LookupError") (eVar 0)) (aCons (e1 (gXi clsL "TypeError") (eVar 0)) aNil)))))) (gNm 1))
    (sSeq (sAsg (e2 gPlus (eVar 1) (eFrz (lDisp (aCons (e1 (gXi clsL "ArithmeticError") (eVar 0)) (aCons (e1 (gXi clsL "RuntimeError") (eVar 0)) aNil))))) (gNm 1))
    (sRet (e2 gPlus (eVar 1) (eFrz (lDisp (aCons (e1 (gXi clsL "AttributeError") (eVar 0)) aNil)))))))))))))))
noncomputable def f_law_truths : GF := runD 2 b_law_truths

abbrev st_law_is_made : Stmt := top 37
theorem sc_law_is_made : FnScope ["_law_at", "_law_thing", "_law_error", "_law_each"] ["_law_at", "_law_thing", "_law_error"] (defScope st_law_is_made) := ⟨rfl, rfl, rfl, by decide +kernel, rfl, by decide +kernel, by decide +kernel⟩
theorem bd_law_is_made {K : PySem.W.Frag} {f : Addr} {fd : FuncData} (F : Fun K "_law_is_made" "_law_is_made" st_law_is_made f fd) : Binds K fd ["_law_at", "_law_thing", "_law_error"] [] := F.binds (ps := ["_law_at", "_law_thing", "_law_error"]) fun _ _ _ _ _ _ us hl => match us, hl with | [_, _, _], _ => rfl
noncomputable def b_law_is_made : Sv :=
  (sSeq (sIf (tB' (e2 (gEq true) (en gReprD (aCons (cF 1 f_law_truths (aCons (eVar 2) aNil)) aNil)) (en gReprD (aCons (eFrz (lLc (iR1 (aCons (eK (.int 27)) aNil)) (gNm 3) bYes (eOr (e2 (gEq false) (eVar 3) (eVar 0)) (eChain (gCmp fun i j => decide (i < j)) (gCmp fun i j => decide (i < j)) (eK (.int 18)) (eVar 3) (eK (.int 22)))) [3])) aNil)))) (sRet (eK (.bool false))) sNext)
    (sSeq (sIf (tB' (e2 (gCmp fun i j => decide (i < j)) (eVar 0) (eK (.int 14)))) (sRet (e2 (gEq false) (en gReprD (aCons (e1 (gXf clsL "given") (eVar 2)) aNil)) (en gReprD (aCons (eVar 1) aNil)))) sNext)
    (sSeq (sIf (tB' (e2 (gCmp fun i j => decide (i < j)) (eVar 0) (eK (.int 17)))) (sRet (e2 (gEq false) (en gReprD (aCons (e1 (gXf clsL "index") (eVar 2)) aNil)) (en gReprD (aCons (eVar 1) aNil)))) sNext)
    (sRet (eOr (e2 (gCmp fun i j => decide (j < i)) (eVar 0) (eK (.int 17))) (e2 (gEq false) (en gReprD (aCons (e1 (gXf clsL "spot") (eVar 2)) aNil)) (en gReprD (aCons (eVar 1) aNil))))))))
noncomputable def f_law_is_made : GF := runD 4 b_law_is_made

abbrev st_law_right : Stmt := top 38
theorem sc_law_right : FnScope ["_law_well_here", "_law_thing", "_law_at"] ["_law_well_here"] (defScope st_law_right) := ⟨rfl, rfl, rfl, by decide +kernel, rfl, by decide +kernel, by decide +kernel⟩
theorem bd_law_right {K : PySem.W.Frag} {f : Addr} {fd : FuncData} (F : Fun K "_law_right" "_law_right" st_law_right f fd) : Binds K fd ["_law_well_here"] [] := F.binds (ps := ["_law_well_here"]) fun _ _ _ _ _ _ us hl => match us, hl with | [_], _ => rfl
noncomputable def b_law_right : Sv :=
  (sSeq (sAsg (cF 2 f_law_spoilt (aCons (eVar 0) (aCons (eTup (aCons (cF 1 f_law_odd (aCons (eVar 0) aNil)) (aCons (cF 1 f_law_part (aCons (eVar 0) aNil)) (aCons (cF 1 f_law_odd (aCons (eVar 0) aNil)) aNil)))) aNil))) (gNm 1))
    (sSeq (sIf (bNot (tB' (en gAll (aCons (eFrz (lLc (iR1 (aCons (eK (.int 20)) aNil)) (gNm 2) bYes (cF 3 f_law_is_made (aCons (eVar 2) (aCons (eVar 1) (aCons (cF 2 f_law_by_place (aCons (eVar 2) (aCons (eVar 1) aNil))) aNil)))) [2])) aNil)))) (sRet (eK (.bool false))) sNext)
    (sRet (en gAll (aCons (eFrz (lLc (iR1 (aCons (eK (.int 18)) aNil)) (gNm 2) bYes (cF 3 f_law_is_made (aCons (eVar 2) (aCons (eVar 1) (aCons (cF 2 f_law_by_name (aCons (eVar 2) (aCons (eVar 1) aNil))) aNil)))) [2])) aNil)))))
noncomputable def f_law_right : GF := runD 3 b_law_right

abbrev st_law : Stmt := top 39
theorem sc_law : FnScope ["_law_script", "_law_at"] ["_law_script"] (defScope st_law) := ⟨rfl, rfl, rfl, by decide +kernel, rfl, by decide +kernel, by decide +kernel⟩
theorem bd_law {K : PySem.W.Frag} {f : Addr} {fd : FuncData} (F : Fun K "law" "law" st_law f fd) : Binds K fd ["_law_script"] [] := F.binds (ps := ["_law_script"]) fun _ _ _ _ _ _ us hl => match us, hl with | [_], _ => rfl
noncomputable def b_law : Sv :=
  (sRet (en gAll (aCons (eFrz (lLc (iR1 (aCons (en gMax (aCons (eK (.int 2)) (aCons (en gMin (aCons (en gLen (aCons (eVar 0) aNil)) (aCons (eK (.int 3)) aNil))) aNil))) aNil)) (gNm 1) bYes (cF 1 f_law_right (aCons (cF 2 f_law_well (aCons (eVar 0) (aCons (eVar 1) aNil))) aNil)) [1])) aNil)))
noncomputable def f_law : GF := runD 2 b_law

end LW
/-! MR: power series over a ring (rows by their numbers), lists as such. -/
namespace LW
open Lean.Grind
structure PS (R : Type) where
  at_ : Nat → R
namespace PS
variable {R : Type}
theorem ext {f g : PS R} (h : ∀ k, f.at_ k = g.at_ k) : f = g := by
  cases f; cases g
  congr
  exact funext h
def tl (f : PS R) : PS R := ⟨fun k => f.at_ (k + 1)⟩
@[simp] theorem tl_at {f : PS R} {k : Nat} : f.tl.at_ k = f.at_ (k + 1) := rfl
variable [CommRing R]
def cv (f g : PS R) : Nat → R
  | 0 => f.at_ 0 * g.at_ 0
  | k + 1 => f.at_ 0 * g.at_ (k + 1) + cv f.tl g k
def con (r : R) : PS R := ⟨fun k => match k with | 0 => r | _ + 1 => 0⟩
instance : Add (PS R) := ⟨fun f g => ⟨fun k => f.at_ k + g.at_ k⟩⟩
instance : Mul (PS R) := ⟨fun f g => ⟨cv f g⟩⟩
instance : Neg (PS R) := ⟨fun f => ⟨fun k => - f.at_ k⟩⟩
instance : Sub (PS R) := ⟨fun f g => ⟨fun k => f.at_ k - g.at_ k⟩⟩
@[simp] theorem add_at {f g : PS R} {k : Nat} : (f + g).at_ k = f.at_ k + g.at_ k := rfl
@[simp] theorem neg_at {f : PS R} {k : Nat} : (-f).at_ k = - f.at_ k := rfl
@[simp] theorem sub_at {f g : PS R} {k : Nat} : (f - g).at_ k = f.at_ k - g.at_ k := rfl
@[simp] theorem mul_0 {f g : PS R} : (f * g).at_ 0 = f.at_ 0 * g.at_ 0 := rfl
theorem mul_s {f g : PS R} {k : Nat} : (f * g).at_ (k + 1) = f.at_ 0 * g.at_ (k + 1) + (f.tl * g).at_ k := rfl
theorem mul_at {f g : PS R} {k : Nat} : (f * g).at_ k = cv f g k := rfl
@[simp] theorem con_0 {r : R} : (con r).at_ 0 = r := rfl
@[simp] theorem con_s {r : R} {k : Nat} : (con r).at_ (k + 1) = 0 := rfl
@[simp] theorem tl_con {r : R} : (con r).tl = con 0 := ext fun k => by cases k <;> rfl
theorem add_mul' (f g h : PS R) (k : Nat) : ((f + g) * h).at_ k = (f * h).at_ k + (g * h).at_ k := by
  induction k generalizing f g with
  | zero => simp; grind
  | succ k ih =>
    rw [mul_s, mul_s, mul_s, show (f + g).tl = f.tl + g.tl from rfl, ih, add_at]
    grind
theorem mul_con' (f : PS R) (r : R) (k : Nat) : (f * con r).at_ k = f.at_ k * r := by
  induction k generalizing f with
  | zero => simp
  | succ k ih => rw [mul_s, ih, con_s, tl_at]; grind
theorem con_mul' (f : PS R) (r : R) (k : Nat) : (con r * f).at_ k = r * f.at_ k := by
  cases k with
  | zero => simp
  | succ k =>
    rw [mul_s, con_0, tl_con]
    have z : ∀ (k : Nat), (con 0 * f).at_ k = 0 := by
      intro k
      induction k with
      | zero => simp; grind
      | succ k ih => rw [mul_s, tl_con, ih, con_0]; grind
    rw [z]; grind
theorem mul_comm' (f g : PS R) (k : Nat) : (f * g).at_ k = (g * f).at_ k := by
  induction k using Nat.strongRecOn generalizing f g with
  | _ k ih =>
    match k with
    | 0 => simp; grind
    | 1 => rw [mul_s, mul_s]; simp; grind
    | k + 2 =>
      rw [mul_s (f := f), mul_s (f := g), ih (k + 1) (by omega) f.tl g, ih (k + 1) (by omega) g.tl f, mul_s (f := g), mul_s (f := f), ih k (by omega) g.tl f.tl]
      simp only [tl_at]
      grind
theorem smul_mul' (r : R) (f g : PS R) (k : Nat) : ((con r * f) * g).at_ k = r * (f * g).at_ k := by
  induction k generalizing f with
  | zero => simp; grind
  | succ k ih =>
    have e : (con r * f).tl = con r * f.tl := ext fun k => by rw [tl_at, con_mul', con_mul', tl_at]
    rw [mul_s, mul_s, e, ih, con_mul']
    grind
theorem mul_tl (f g : PS R) : (f * g).tl = con (f.at_ 0) * g.tl + f.tl * g := ext fun k => by
  rw [tl_at, mul_s, add_at, con_mul', tl_at]
theorem mul_assoc' (f g h : PS R) (k : Nat) : ((f * g) * h).at_ k = (f * (g * h)).at_ k := by
  induction k generalizing f with
  | zero => simp; grind
  | succ k ih =>
    rw [mul_s, mul_s, mul_tl, add_mul', ih, smul_mul', mul_s (f := g)]
    simp; grind
instance : Zero (PS R) := ⟨con 0⟩
instance : One (PS R) := ⟨con 1⟩
@[simp] theorem zero_at {k : Nat} : (con (0 : R)).at_ k = 0 := by cases k <;> rfl
def nc (n : Nat) : R := Semiring.natCast.natCast n
def ic (n : Int) : R := Ring.intCast.intCast n
def pw (f : PS R) : Nat → PS R
  | 0 => con 1
  | n + 1 => pw f n * f
instance : CommRing (PS R) where
  one_mul f := ext fun k => by
    show (con 1 * f).at_ k = _
    rw [con_mul']; grind
  mul_zero f := ext fun k => by
    show (f * con 0).at_ k = (con 0).at_ k
    rw [mul_con', zero_at]; grind
  right_distrib f g h := ext (add_mul' f g h)
  natCast := ⟨fun n => con (nc n)⟩
  ofNat := fun n => ⟨con (OfNat.ofNat n)⟩
  nsmul := ⟨fun n f => con (nc n) * f⟩
  npow := ⟨fun f n => pw f n⟩
  intCast := ⟨fun n => con (ic n)⟩
  zsmul := ⟨fun n f => con (ic n) * f⟩
  add_zero f := ext fun k => by
    show f.at_ k + (con 0).at_ k = _
    rw [zero_at]; grind
  add_comm f g := ext fun k => by show f.at_ k + g.at_ k = g.at_ k + f.at_ k; grind
  add_assoc f g h := ext fun k => by show f.at_ k + g.at_ k + h.at_ k = f.at_ k + (g.at_ k + h.at_ k); grind
  mul_assoc f g h := ext (mul_assoc' f g h)
  mul_comm f g := ext (mul_comm' f g)
  mul_one f := ext fun k => by
    show (f * con 1).at_ k = _
    rw [mul_con']; grind
  left_distrib f g h := ext fun k => by
    rw [mul_comm', add_mul', add_at, mul_comm' g, mul_comm' h]
  zero_mul f := ext fun k => by
    show (con 0 * f).at_ k = (con 0).at_ k
    rw [con_mul', zero_at]; grind
  pow_zero f := rfl
  pow_succ f n := rfl
  ofNat_succ n := ext fun k => by
    show (con (OfNat.ofNat (n + 1))).at_ k = (con (OfNat.ofNat n)).at_ k + (con 1).at_ k
    cases k with
    | zero => exact Semiring.ofNat_succ n
    | succ k => show (0 : R) = 0 + 0; grind
  ofNat_eq_natCast n := ext fun k => by
    show (con (OfNat.ofNat n)).at_ k = (con (nc n)).at_ k
    cases k with
    | zero => exact Semiring.ofNat_eq_natCast n
    | succ k => rfl
  neg_add_cancel f := ext fun k => by
    show - f.at_ k + f.at_ k = (con 0).at_ k
    rw [zero_at]; grind
  sub_eq_add_neg f g := ext fun k => by show f.at_ k - g.at_ k = f.at_ k + - g.at_ k; grind
  neg_zsmul i f := ext fun k => by
    show (con (ic (-i)) * f).at_ k = - (con (ic i) * f).at_ k
    rw [con_mul', con_mul']
    have : (ic (-i) : R) = - (ic i) := Ring.intCast_neg i
    rw [this]; grind
  zsmul_natCast_eq_nsmul n f := ext fun k => by
    show (con (ic (n : Int)) * f).at_ k = (con (nc n) * f).at_ k
    have : (ic (n : Int) : R) = nc n := Ring.intCast_natCast n
    rw [this]
  intCast_ofNat n := ext fun k => by
    show (con (ic (OfNat.ofNat n))).at_ k = (con (OfNat.ofNat n)).at_ k
    cases k with
    | zero => exact Ring.intCast_ofNat n
    | succ k => rfl
  intCast_neg i := ext fun k => by
    show (con (ic (-i))).at_ k = - (con (ic i)).at_ k
    cases k with
    | zero => exact Ring.intCast_neg i
    | succ k => show (0 : R) = - 0; grind
example (f g h : PS (PS Int)) : (f + g) * h = h * f + g * h := by grind
end PS
end LW
namespace LW
open Lean.Grind
namespace PS
variable {R : Type} [CommRing R]
def X : PS R := ⟨fun k => match k with | 1 => 1 | _ => 0⟩
@[simp] theorem X_0 {f : PS R} : (X * f).at_ 0 = 0 := by
  rw [mul_0]
  show (0 : R) * _ = 0
  grind
@[simp] theorem X_s {f : PS R} {k : Nat} : (X * f).at_ (k + 1) = f.at_ k := by
  rw [mul_s]
  have e : (X : PS R).tl = con 1 := ext fun k => by
    cases k with
    | zero => rfl
    | succ k => rfl
  rw [e, con_mul']
  show (0 : R) * _ + _ = _
  grind
@[simp] theorem zero_at' {k : Nat} : (0 : PS R).at_ k = 0 := zero_at
theorem con_add (a b : R) : con (a + b) = con a + con b := ext fun k => by
  cases k with
  | zero => rfl
  | succ k => show (0 : R) = 0 + 0; grind
theorem con_mul (a b : R) : con (a * b) = con a * con b := ext fun k => by
  rw [con_mul']
  cases k with
  | zero => rfl
  | succ k => show (0 : R) = a * 0; grind
theorem con_zero : con (0 : R) = 0 := rfl
theorem con_one : con (1 : R) = 1 := rfl
theorem con_neg (a : R) : con (-a) = - con a := ext fun k => by
  cases k with
  | zero => rfl
  | succ k => show (0 : R) = - 0; grind
theorem con_sub (a b : R) : con (a - b) = con a - con b := ext fun k => by
  cases k with
  | zero => rfl
  | succ k => show (0 : R) = 0 - 0; grind
/-- a list as a series, its items read by φ -/
def sr {A : Type} (φ : A → R) (z : A) (l : List A) : PS R := ⟨fun k => φ (l.getD k z)⟩
section
variable {A : Type} {φ : A → R} {z : A}
theorem sr_nil (hz : φ z = 0) : sr φ z [] = 0 := ext fun k => by
  rw [zero_at']
  exact hz
theorem sr_cons {x : A} {xs : List A} : sr φ z (x :: xs) = con (φ x) + X * sr φ z xs := ext fun k => by
  cases k with
  | zero => rw [add_at, X_0, con_0]; show φ x = _; grind
  | succ k => rw [add_at, X_s, con_s]; show φ (xs.getD k z) = 0 + φ (xs.getD k z); grind
theorem sr_app {xs ys : List A} (hz : φ z = 0) : sr φ z (xs ++ ys) = sr φ z xs + (X : PS R) ^ xs.length * sr φ z ys := by
  induction xs with
  | nil => rw [sr_nil hz, List.nil_append, List.length_nil]; grind
  | cons x xs ih => rw [List.cons_append, sr_cons, ih, sr_cons, List.length_cons]; grind
theorem sr_zeros (hz : φ z = 0) : ∀ n : Nat, sr φ z (List.replicate n z) = 0 := by
  intro n
  induction n with
  | zero => exact sr_nil hz
  | succ n ih => rw [List.replicate_succ, sr_cons, ih, hz, con_zero]; grind
theorem sr_map {B : Type} {ψ : B → R} {w : B} {f : B → A} {c : R} (hz : φ z = 0) (hw : ψ w = 0) (h : ∀ b, φ (f b) = c * ψ b) (l : List B) : sr φ z (l.map f) = con c * sr ψ w l := by
  induction l with
  | nil => rw [List.map_nil, sr_nil hz, sr_nil hw]; grind
  | cons x xs ih => rw [List.map_cons, sr_cons, sr_cons, ih, h, con_mul]; grind
theorem sr_set {l : List A} {k : Nat} {v : A} (h : k < l.length) : sr φ z (l.set k v) = sr φ z l + (X : PS R) ^ k * con (φ v - φ (l.getD k z)) := by
  induction l generalizing k with
  | nil => cases h
  | cons x xs ih =>
    cases k with
    | zero =>
      rw [List.set_cons_zero, sr_cons, sr_cons, con_sub]
      show _ = _ + _ * (con (φ v) - con (φ x))
      grind
    | succ k =>
      rw [List.set_cons_succ, sr_cons, sr_cons, ih (by simpa using h)]
      show _ = _ + _ * con (φ v - φ (xs.getD k z))
      grind
end
end PS
end LW
/-! MR2: rows and polynomials as lists. -/
namespace LW
open Lean.Grind
def trim : List Int → List Int
  | [] => []
  | x :: xs => match trim xs with
    | [] => if x = 0 then [] else [x]
    | y :: ys => x :: y :: ys
theorem trim_app0 : ∀ xs : List Int, trim (xs ++ [0]) = trim xs
  | [] => rfl
  | x :: xs => by
    show trim (x :: (xs ++ [0])) = _
    unfold trim
    rw [trim_app0 xs]
theorem trim_last : ∀ (xs : List Int) (y : Int), y ≠ 0 → trim (xs ++ [y]) = xs ++ [y]
  | [], y, h => by simp [trim, h]
  | x :: xs, y, h => by
    show trim (x :: (xs ++ [y])) = _
    unfold trim
    rw [trim_last xs y h]
    cases xs <;> rfl
theorem take_succ0 {α : Type} {xs : List α} {n : Nat} (h : n < xs.length) : xs.take (n + 1) = xs.take n ++ [xs[n]] := by
  rw [List.take_add_one, List.getElem?_eq_getElem h]
  rfl
theorem trim_take {xs : List Int} {n : Nat} (hn : n < xs.length) (h : xs[n] = 0) : trim (xs.take (n + 1)) = trim (xs.take n) := by
  rw [take_succ0 hn, h, trim_app0]
theorem trim_take' {xs : List Int} {n : Nat} (hn : n < xs.length) (h : xs[n] ≠ 0) : trim (xs.take (n + 1)) = xs.take (n + 1) := by
  rw [take_succ0 hn, trim_last _ _ h]
theorem trim_mem : ∀ {xs : List Int} {x : Int}, x ∈ trim xs → x ∈ xs
  | [], x, h => h
  | y :: ys, x, h => by
    unfold trim at h
    split at h
    · split at h
      · cases h
      · simp at h
        subst h
        exact List.mem_cons_self
    · rename_i z zs e
      rcases List.mem_cons.mp h with rfl | h
      · exact List.mem_cons_self
      · exact List.mem_cons_of_mem _ (trim_mem (by rw [e]; exact h))
theorem trim_len : ∀ xs : List Int, (trim xs).length ≤ xs.length
  | [] => Nat.le_refl _
  | y :: ys => by
    have ih := trim_len ys
    unfold trim
    split
    · split <;> simp
    · rename_i z zs e
      rw [e] at ih
      simp at ih ⊢
      omega
theorem trim_snoc (l : List Int) (z : Int) : trim (l ++ [z]) = if z = 0 then trim l else l ++ [z] := by
  by_cases h : z = 0
  · rw [if_pos h, h, trim_app0]
  · rw [if_neg h, trim_last _ _ h]
theorem trim_idem (xs : List Int) : trim (trim xs) = trim xs := by
  have gen : ∀ (n : Nat) (xs : List Int), xs.length = n → trim (trim xs) = trim xs := by
    intro n
    induction n with
    | zero => intro xs h; rw [List.length_eq_zero_iff.mp h]; rfl
    | succ n ih =>
      intro xs h
      rcases List.eq_nil_or_concat xs with e | ⟨l, z, e⟩
      · subst e; rfl
      · rw [List.concat_eq_append] at e
        subst e
        rw [trim_snoc]
        split
        · exact ih l (by simpa using h)
        · rename_i hz
          exact trim_last _ _ hz
  exact gen _ xs rfl
/-- a row as a series -/
def rs (a : List Int) : PS Int := PS.sr id 0 a
theorem rs_nil : rs [] = 0 := PS.sr_nil rfl
theorem rs_cons {x : Int} {xs : List Int} : rs (x :: xs) = PS.con x + PS.X * rs xs := PS.sr_cons
theorem rs_app {xs ys : List Int} : rs (xs ++ ys) = rs xs + (PS.X : PS Int) ^ xs.length * rs ys := PS.sr_app rfl
theorem rs_zeros (n : Nat) : rs (List.replicate n 0) = 0 := PS.sr_zeros (φ := (id : Int → Int)) (z := (0 : Int)) rfl n
theorem rs_at {a : List Int} {k : Nat} : (rs a).at_ k = a.getD k 0 := rfl
theorem con0 : PS.con (0 : Int) = 0 := rfl
theorem rs_trim (a : List Int) : rs (trim a) = rs a := by
  induction a with
  | nil => rfl
  | cons x xs ih =>
    unfold trim
    split
    · rename_i e
      rw [e] at ih
      rw [rs_cons, ← ih]
      split
      · rename_i h; rw [h, rs_nil, con0]; grind
      · rw [rs_cons]
    · rename_i y ys e
      rw [rs_cons, ← e, ih, rs_cons]
/-- trimmed rows are told by their numbers -/
theorem trim_eq {a b : List Int} (h : rs a = rs b) : trim a = trim b := by
  have z : ∀ {a : List Int}, rs a = 0 → trim a = [] := by
    intro a h
    induction a with
    | nil => rfl
    | cons x xs ih =>
      have hx : x = 0 := by
        have := congrArg (fun f => f.at_ 0) h
        simpa [rs_at] using this
      have ht : rs xs = 0 := PS.ext fun k => by
        have := congrArg (fun f => f.at_ (k + 1)) h
        simpa [rs_at] using this
      unfold trim
      rw [ih ht, if_pos hx]
  induction a generalizing b with
  | nil =>
    rw [rs_nil] at h
    rw [z h.symm]; rfl
  | cons x xs ih =>
    cases b with
    | nil => rw [rs_nil] at h; rw [z h]; rfl
    | cons y ys =>
      have hx : x = y := by
        have := congrArg (fun f => f.at_ 0) h
        simpa [rs_at] using this
      have ht : rs xs = rs ys := PS.ext fun k => by
        have := congrArg (fun f => f.at_ (k + 1)) h
        simpa [rs_at] using this
      have e := ih ht
      unfold trim
      rw [e, hx]
theorem row_ext {a b : List Int} (ha : trim a = a) (hb : trim b = b) (h : rs a = rs b) : a = b := by
  rw [← ha, ← hb]
  exact trim_eq h
/-- the sum of two rows -/
def addP : List Int → List Int → List Int
  | [], ys => ys
  | x :: xs, [] => x :: xs
  | x :: xs, y :: ys => (x + y) :: addP xs ys
theorem addP_len : ∀ a b : List Int, (addP a b).length = max a.length b.length
  | [], ys => by simp [addP]
  | x :: xs, [] => by simp [addP]
  | x :: xs, y :: ys => by
    have ih := addP_len xs ys
    simp [addP, ih]
theorem addP_get : ∀ (a b : List Int) (k : Nat), k < max a.length b.length → (addP a b)[k]? = some (a.getD k 0 + b.getD k 0)
  | [], ys, k, h => by
    have hk : k < ys.length := by simpa using h
    simp [addP, List.getElem?_eq_getElem hk, List.getD_eq_getElem?_getD]
  | x :: xs, [], k, h => by
    have hk : k < (x :: xs).length := by simpa using h
    simp only [addP]
    rw [List.getElem?_eq_getElem hk, List.getD_eq_getElem?_getD, List.getElem?_eq_getElem hk] <;> simp
  | x :: xs, y :: ys, 0, h => by simp [addP]
  | x :: xs, y :: ys, k + 1, h => by
    have ih := addP_get xs ys k (by simp at h; omega)
    simpa [addP] using ih
theorem rs_addP (a b : List Int) : rs (addP a b) = rs a + rs b := by
  induction a generalizing b with
  | nil => rw [rs_nil]; show rs b = _; grind
  | cons x xs ih =>
    cases b with
    | nil => rw [rs_nil]; show rs (x :: xs) = _; grind
    | cons y ys =>
      show rs ((x + y) :: addP xs ys) = _
      rw [rs_cons, rs_cons, rs_cons, ih, PS.con_add]; grind
theorem rs_scale (k : Int) (a : List Int) : rs (a.map (k * ·)) = PS.con k * rs a := PS.sr_map (φ := (id : Int → Int)) (z := (0 : Int)) (ψ := (id : Int → Int)) (w := (0 : Int)) rfl rfl (fun b => rfl) a
def addAt (c : List Int) (k : Nat) (v : Int) : List Int := c.set k (c.getD k 0 + v)
def inner (i : Nat) (x : Int) : Nat → List Int → List Int → List Int
  | _, [], c => c
  | j, y :: ys, c => inner i x (j + 1) ys (addAt c (i + j) (x * y))
def outer (b : List Int) : Nat → List Int → List Int → List Int
  | _, [], c => c
  | i, x :: xs, c => outer b (i + 1) xs (inner i x 0 b c)
theorem addAt_len {c : List Int} {k : Nat} {v : Int} : (addAt c k v).length = c.length := List.length_set ..
theorem inner_len {i : Nat} {x : Int} : ∀ (ys : List Int) (j : Nat) (c : List Int), (inner i x j ys c).length = c.length
  | [], j, c => rfl
  | y :: ys, j, c => by
    unfold inner
    rw [inner_len ys, addAt_len]
theorem outer_len {b : List Int} : ∀ (xs : List Int) (i : Nat) (c : List Int), (outer b i xs c).length = c.length
  | [], i, c => rfl
  | x :: xs, i, c => by
    unfold outer
    rw [outer_len xs, inner_len]
theorem rs_addAt {c : List Int} {k : Nat} {v : Int} (h : k < c.length) : rs (addAt c k v) = rs c + (PS.X : PS Int) ^ k * PS.con v := by
  unfold rs addAt
  rw [PS.sr_set h]
  congr 3
  simp only [id]
  omega
theorem rs_inner {i : Nat} {x : Int} : ∀ (ys : List Int) (j : Nat) (c : List Int), i + j + ys.length ≤ c.length → rs (inner i x j ys c) = rs c + (PS.X : PS Int) ^ (i + j) * PS.con x * rs ys
  | [], j, c, _ => by
    show rs c = _
    rw [rs_nil]; grind
  | y :: ys, j, c, h => by
    rw [List.length_cons] at h
    unfold inner
    rw [rs_inner ys (j + 1) _ (by rw [addAt_len]; omega), rs_addAt (by omega), rs_cons, PS.con_mul, show i + (j + 1) = (i + j) + 1 by omega]
    grind
theorem rs_outer {b : List Int} : ∀ (xs : List Int) (i : Nat) (c : List Int), (xs = [] ∨ i + xs.length + b.length ≤ c.length + 1) → rs (outer b i xs c) = rs c + (PS.X : PS Int) ^ i * rs xs * rs b
  | [], i, c, _ => by
    show rs c = _
    rw [rs_nil]; grind
  | x :: xs, i, c, h => by
    have h : i + (xs.length + 1) + b.length ≤ c.length + 1 := by
      rcases h with h | h
      · cases h
      · simpa using h
    unfold outer
    rw [rs_outer xs (i + 1) _ (by right; rw [inner_len]; omega), rs_inner b 0 c (by omega), rs_cons]
    grind
/-- the product of two rows -/
def mulP (a b : List Int) : List Int := trim (outer b 0 a (List.replicate (a.length + b.length - 1) 0))
theorem rs_mulP (a b : List Int) : rs (mulP a b) = rs a * rs b := by
  unfold mulP
  rw [rs_trim, rs_outer _ _ _ (by
    rw [List.length_replicate]
    cases a with
    | nil => exact .inl rfl
    | cons x xs => right; rw [List.length_cons]; omega), rs_zeros]
  grind
theorem mulP_trim (a b : List Int) : trim (mulP a b) = mulP a b := trim_idem _
theorem mulP_of {a b c : List Int} (h : rs c = rs a * rs b) : trim c = mulP a b := by
  rw [← mulP_trim]
  exact trim_eq (by rw [h, rs_mulP])
theorem mulP_more {a b : List Int} {N : Nat} (h : a = [] ∨ a.length + b.length ≤ N + 1) : trim (outer b 0 a (List.replicate N 0)) = mulP a b := by
  refine mulP_of ?_
  rw [rs_outer _ _ _ (by rw [List.length_replicate]; rcases h with h | h; exact .inl h; exact .inr (by omega)), rs_zeros]
  grind
theorem mulP_comm (a b : List Int) : mulP a b = mulP b a := row_ext (mulP_trim a b) (mulP_trim b a) (by rw [rs_mulP, rs_mulP]; grind)
theorem mulP_nil {b : List Int} : mulP [] b = [] := by
  unfold mulP
  exact (trim_eq (b := []) (by rw [show outer b 0 [] (List.replicate ([].length + b.length - 1) 0) = List.replicate ([].length + b.length - 1) 0 from rfl, rs_zeros, rs_nil])).trans rfl
theorem mulP_nil' {a : List Int} : mulP a [] = [] := by rw [mulP_comm, mulP_nil]
/-- bounds of numbers: below 2 ^ n -/
def BL (n : Nat) (a : List Int) : Prop := ∀ x ∈ a, x.natAbs < 2 ^ n
theorem BL.trim {n : Nat} {a : List Int} (h : BL n a) : BL n (LW.trim a) := fun x hx => h x (trim_mem hx)
theorem BL.up {n m : Nat} {a : List Int} (h : BL n a) (hm : n ≤ m) : BL m a := fun x hx => Nat.lt_of_lt_of_le (h x hx) (Nat.pow_le_pow_right (by omega) hm)
theorem two_pow {n : Nat} : 2 ^ n + 2 ^ n = 2 ^ (n + 1) := by rw [Nat.pow_succ]; omega
theorem BL.getD {n : Nat} {a : List Int} (h : BL n a) (k : Nat) : (a.getD k 0).natAbs < 2 ^ n := by
  rw [List.getD_eq_getElem?_getD]
  by_cases hk : k < a.length
  · rw [List.getElem?_eq_getElem hk]
    exact h _ (List.getElem_mem hk)
  · rw [List.getElem?_eq_none (by omega)]
    exact Nat.two_pow_pos n
theorem BL.addP {n : Nat} {a b : List Int} (ha : BL n a) (hb : BL n b) : BL (n + 1) (LW.addP a b) := by
  intro x hx
  obtain ⟨k, hk, e⟩ := List.getElem_of_mem hx
  have := addP_get a b k (by rwa [addP_len] at hk)
  rw [List.getElem?_eq_getElem hk, e] at this
  cases this
  have h1 := ha.getD k
  have h2 := hb.getD k
  have := Int.natAbs_add_le (a.getD k 0) (b.getD k 0)
  have := @two_pow n
  omega
theorem BL.scale {n m : Nat} {a : List Int} {k : Int} (ha : BL n a) (hk : k.natAbs ≤ 2 ^ m) : BL (m + n) (a.map (k * ·)) := by
  intro x hx
  obtain ⟨y, hy, rfl⟩ := List.mem_map.mp hx
  show (k * y).natAbs < _
  rw [Int.natAbs_mul, Nat.pow_add]
  have h1 := ha y hy
  have h2 : k.natAbs * y.natAbs ≤ 2 ^ m * y.natAbs := Nat.mul_le_mul_right _ hk
  have h3 : 2 ^ m * y.natAbs < 2 ^ m * 2 ^ n := Nat.mul_lt_mul_of_pos_left h1 (Nat.two_pow_pos m)
  omega
theorem BL.zeros (n m : Nat) : BL n (List.replicate m 0) := fun x hx => by
  rw [List.eq_of_mem_replicate hx]
  exact Nat.two_pow_pos n
/-- numbers at most M -/
def BM (M : Nat) (a : List Int) : Prop := ∀ x ∈ a, x.natAbs ≤ M
theorem BM.getD {M : Nat} {a : List Int} (h : BM M a) (k : Nat) : (a.getD k 0).natAbs ≤ M := by
  rw [List.getD_eq_getElem?_getD]
  by_cases hk : k < a.length
  · rw [List.getElem?_eq_getElem hk]
    exact h _ (List.getElem_mem hk)
  · rw [List.getElem?_eq_none (by omega)]
    simp
theorem BM.addAt {M L : Nat} {c : List Int} {k : Nat} {v : Int} (h : BM M c) (hv : v.natAbs ≤ L) : BM (M + L) (LW.addAt c k v) := by
  intro x hx
  unfold LW.addAt at hx
  rcases List.mem_or_eq_of_mem_set hx with hx | rfl
  · exact Nat.le_trans (h x hx) (by omega)
  · have := h.getD k
    have := Int.natAbs_add_le (c.getD k 0) v
    omega
theorem BM.inner {i : Nat} {x : Int} {M A B : Nat} (hx : x.natAbs ≤ A) : ∀ {ys : List Int} {j : Nat} {c : List Int}, BM B ys → BM M c → BM (M + ys.length * (A * B)) (LW.inner i x j ys c)
  | [], j, c, _, h => by simpa [LW.inner] using h
  | y :: ys, j, c, hy, h => by
    unfold LW.inner
    have hxy : (x * y).natAbs ≤ A * B := by rw [Int.natAbs_mul]; exact Nat.mul_le_mul hx (hy y List.mem_cons_self)
    have := BM.inner (i := i) (j := j + 1) hx (fun z hz => hy z (List.mem_cons_of_mem _ hz)) (h.addAt (k := i + j) hxy)
    intro z hz
    have := this z hz
    rw [List.length_cons, Nat.succ_mul]
    omega
theorem BM.outer {b : List Int} {M A B : Nat} (hb : BM B b) : ∀ {xs : List Int} {i : Nat} {c : List Int}, BM A xs → BM M c → BM (M + xs.length * (b.length * (A * B))) (LW.outer b i xs c)
  | [], i, c, _, h => by simpa [LW.outer] using h
  | x :: xs, i, c, ha, h => by
    unfold LW.outer
    have := BM.outer hb (i := i + 1) (fun z hz => ha z (List.mem_cons_of_mem _ hz)) (BM.inner (i := i) (j := 0) (ha x List.mem_cons_self) hb h)
    intro z hz
    have := this z hz
    rw [List.length_cons, Nat.succ_mul]
    omega
theorem BM.mulP {a b : List Int} {A B : Nat} (ha : BM A a) (hb : BM B b) : BM (a.length * (b.length * (A * B))) (LW.mulP a b) := by
  intro x hx
  unfold LW.mulP at hx
  have z : BM 0 (List.replicate (a.length + b.length - 1) 0) := fun x hx => by rw [List.eq_of_mem_replicate hx]; simp
  have := (BM.outer (i := 0) hb ha z) x (trim_mem hx)
  omega
theorem mulP_len (a b : List Int) : (mulP a b).length ≤ a.length + b.length - 1 := by
  unfold mulP
  have := trim_len (outer b 0 a (List.replicate (a.length + b.length - 1) 0))
  rw [outer_len, List.length_replicate] at this
  exact this
end LW
/-! MR3: fractions and values. -/
namespace LW
open Lean.Grind
theorem lean_num {a b : Int} (hb : 0 < b) : ((a : Rat) / (b : Rat)).num = a / (Nat.gcd a.natAbs b.natAbs : Int) ∧ ((((a : Rat) / (b : Rat)).den : Nat) : Int) = b / (Nat.gcd a.natAbs b.natAbs : Int) := by
  rw [← Rat.divInt_eq_div, Rat.num_divInt, Rat.den_divInt]
  have e : Int.gcd b a = Nat.gcd a.natAbs b.natAbs := by rw [Int.gcd_comm]; rfl
  rw [e, Int.sign_eq_one_of_pos hb, Int.one_mul, if_neg (by omega)]
  refine ⟨rfl, ?_⟩
  rw [Int.natCast_ediv]
  congr 1
  omega
theorem num_div_den (q : Rat) : q = (q.num : Rat) / ((q.den : Int) : Rat) := by
  rw [← Rat.divInt_eq_div]
  exact (Rat.num_divInt_den q).symm
theorem den_pos (q : Rat) : (0 : Int) < (q.den : Int) := by
  have := q.den_pos
  omega
theorem den_ne (q : Rat) : ((q.den : Int) : Rat) ≠ 0 := by
  intro h
  have : ((q.den : Int) : Rat) = ((0 : Int) : Rat) := h
  rw [Rat.intCast_inj] at this
  have := den_pos q
  omega
theorem add_div (p q : Rat) : p + q = ((p.num * q.den + q.num * p.den : Int) : Rat) / ((p.den * q.den : Int) : Rat) := by
  have hp := num_div_den p
  have hq := num_div_den q
  have np := den_ne p
  have nq := den_ne q
  rw [Rat.intCast_add, Rat.intCast_mul, Rat.intCast_mul, Rat.intCast_mul]
  generalize (p.num : Rat) = a at *
  generalize ((p.den : Int) : Rat) = b at *
  generalize (q.num : Rat) = c at *
  generalize ((q.den : Int) : Rat) = d at *
  subst hp hq
  grind
theorem mul_div (p q : Rat) : p * q = ((p.num * q.num : Int) : Rat) / ((p.den * q.den : Int) : Rat) := by
  have hp := num_div_den p
  have hq := num_div_den q
  have np := den_ne p
  have nq := den_ne q
  rw [Rat.intCast_mul, Rat.intCast_mul]
  generalize (p.num : Rat) = a at *
  generalize ((p.den : Int) : Rat) = b at *
  generalize (q.num : Rat) = c at *
  generalize ((q.den : Int) : Rat) = d at *
  subst hp hq
  grind
/-- how great a fraction's numbers are -/
def RB (k : Nat) (q : Rat) : Prop := q.num.natAbs ≤ 2 ^ k ∧ q.den ≤ 2 ^ k
theorem RB.up {k l : Nat} {q : Rat} (h : RB k q) (hl : k ≤ l) : RB l q := ⟨Nat.le_trans h.1 (Nat.pow_le_pow_right (by omega) hl), Nat.le_trans h.2 (Nat.pow_le_pow_right (by omega) hl)⟩
theorem RB.of_div {a b : Int} {k : Nat} (hb : 0 < b) (ha : a.natAbs ≤ 2 ^ k) (h : b.natAbs ≤ 2 ^ k) : RB k ((a : Rat) / (b : Rat)) := by
  obtain ⟨e1, e2⟩ := lean_num (a := a) hb
  constructor
  · rw [e1]
    exact Nat.le_trans (Int.natAbs_ediv_le_natAbs a _) ha
  · have := Int.natAbs_ediv_le_natAbs b (Nat.gcd a.natAbs b.natAbs : Int)
    rw [← e2] at this
    have : ((a : Rat) / (b : Rat)).den ≤ b.natAbs := by simpa using this
    omega
theorem RB.add {k l : Nat} {p q : Rat} (hp : RB k p) (hq : RB l q) : RB (k + l + 1) (p + q) := by
  rw [add_div]
  refine .of_div (Int.mul_pos (den_pos p) (den_pos q)) ?_ ?_
  · have h1 : (p.num * (q.den : Int)).natAbs ≤ 2 ^ k * 2 ^ l := by
      rw [Int.natAbs_mul]
      exact Nat.mul_le_mul hp.1 (by simpa using hq.2)
    have h2 : (q.num * (p.den : Int)).natAbs ≤ 2 ^ k * 2 ^ l := by
      rw [Int.natAbs_mul, Nat.mul_comm (2 ^ k)]
      exact Nat.mul_le_mul hq.1 (by simpa using hp.2)
    have := Int.natAbs_add_le (p.num * (q.den : Int)) (q.num * (p.den : Int))
    rw [← Nat.pow_add] at h1 h2
    have := @two_pow (k + l)
    omega
  · rw [Int.natAbs_mul, show k + l + 1 = k + (l + 1) by omega, Nat.pow_add]
    refine Nat.mul_le_mul (by simpa using hp.2) (Nat.le_trans (by simpa using hq.2) (Nat.pow_le_pow_right (by omega) (by omega)))
theorem RB.mul {k l : Nat} {p q : Rat} (hp : RB k p) (hq : RB l q) : RB (k + l) (p * q) := by
  rw [mul_div]
  refine .of_div (Int.mul_pos (den_pos p) (den_pos q)) ?_ ?_
  · rw [Int.natAbs_mul, Nat.pow_add]
    exact Nat.mul_le_mul hp.1 hq.1
  · rw [Int.natAbs_mul, Nat.pow_add]
    exact Nat.mul_le_mul (by simpa using hp.2) (by simpa using hq.2)
theorem RB.int {k : Nat} {a : Int} (h : a.natAbs ≤ 2 ^ k) : RB k (a : Rat) := ⟨by rw [Rat.num_intCast]; exact h, by rw [Rat.den_intCast]; exact Nat.one_le_two_pow⟩
theorem RB.zero : RB 0 (0 : Rat) := ⟨by decide, by decide⟩
/-- the value of a row -/
def ev (q : Rat) : List Int → Rat
  | [] => 0
  | c :: cs => (c : Rat) + q * ev q cs
theorem ev_trim (q : Rat) (a : List Int) : ev q (trim a) = ev q a := by
  induction a with
  | nil => rfl
  | cons x xs ih =>
    unfold trim
    split
    · rename_i e
      rw [e] at ih
      show _ = (x : Rat) + q * ev q xs
      rw [← ih]
      split
      · rename_i h
        subst h
        show (0 : Rat) = ((0 : Int) : Rat) + q * 0
        have : ((0 : Int) : Rat) = 0 := rfl
        rw [this]; grind
      · rfl
    · rename_i y ys e
      show (x : Rat) + q * ev q (y :: ys) = (x : Rat) + q * ev q xs
      rw [← e, ih]
theorem ev_addP (q : Rat) (a b : List Int) : ev q (addP a b) = ev q a + ev q b := by
  induction a generalizing b with
  | nil => show ev q b = 0 + ev q b; grind
  | cons x xs ih =>
    cases b with
    | nil => show ev q (x :: xs) = ev q (x :: xs) + 0; grind
    | cons y ys =>
      show ((x + y : Int) : Rat) + q * ev q (addP xs ys) = ((x : Rat) + q * ev q xs) + ((y : Rat) + q * ev q ys)
      rw [ih, Rat.intCast_add]; grind
theorem ev_scale (q : Rat) (k : Int) (a : List Int) : ev q (a.map (k * ·)) = (k : Rat) * ev q a := by
  induction a with
  | nil => show (0 : Rat) = (k : Rat) * 0; grind
  | cons x xs ih =>
    show ((k * x : Int) : Rat) + q * ev q (xs.map (k * ·)) = (k : Rat) * ((x : Rat) + q * ev q xs)
    rw [ih, Rat.intCast_mul]; grind
theorem ev_set (q : Rat) {l : List Int} {k : Nat} {v : Int} (h : k < l.length) : ev q (l.set k v) = ev q l + q ^ k * ((v : Rat) - ((l.getD k 0 : Int) : Rat)) := by
  induction l generalizing k with
  | nil => cases h
  | cons x xs ih =>
    cases k with
    | zero =>
      show (v : Rat) + q * ev q xs = ((x : Rat) + q * ev q xs) + q ^ 0 * ((v : Rat) - (x : Rat))
      grind
    | succ k =>
      show (x : Rat) + q * ev q (xs.set k v) = ((x : Rat) + q * ev q xs) + q ^ (k + 1) * ((v : Rat) - ((xs.getD k 0 : Int) : Rat))
      rw [ih (by simpa using h)]
      grind
theorem ev_addAt (q : Rat) {c : List Int} {k : Nat} {v : Int} (h : k < c.length) : ev q (addAt c k v) = ev q c + q ^ k * (v : Rat) := by
  unfold addAt
  rw [ev_set q h, Rat.intCast_add]; grind
theorem ev_inner (q : Rat) {i : Nat} {x : Int} : ∀ (ys : List Int) (j : Nat) (c : List Int), i + j + ys.length ≤ c.length → ev q (inner i x j ys c) = ev q c + q ^ (i + j) * (x : Rat) * ev q ys
  | [], j, c, _ => by show ev q c = ev q c + q ^ (i + j) * (x : Rat) * 0; grind
  | y :: ys, j, c, h => by
    rw [List.length_cons] at h
    unfold inner
    rw [ev_inner q ys (j + 1) _ (by rw [addAt_len]; omega), ev_addAt q (by omega), Rat.intCast_mul, show i + (j + 1) = (i + j) + 1 by omega]
    show _ = ev q c + q ^ (i + j) * (x : Rat) * ((y : Rat) + q * ev q ys)
    grind
theorem ev_outer (q : Rat) {b : List Int} : ∀ (xs : List Int) (i : Nat) (c : List Int), (xs = [] ∨ i + xs.length + b.length ≤ c.length + 1) → ev q (outer b i xs c) = ev q c + q ^ i * ev q xs * ev q b
  | [], i, c, _ => by show ev q c = ev q c + q ^ i * 0 * ev q b; grind
  | x :: xs, i, c, h => by
    have h : i + (xs.length + 1) + b.length ≤ c.length + 1 := by
      rcases h with h | h
      · cases h
      · simpa using h
    unfold outer
    rw [ev_outer q xs (i + 1) _ (by right; rw [inner_len]; omega), ev_inner q b 0 c (by omega)]
    show _ = ev q c + q ^ i * ((x : Rat) + q * ev q xs) * ev q b
    grind
theorem ev_zeros (q : Rat) : ∀ n : Nat, ev q (List.replicate n 0) = 0
  | 0 => rfl
  | n + 1 => by
    rw [List.replicate_succ]
    show ((0 : Int) : Rat) + q * ev q (List.replicate n 0) = 0
    rw [ev_zeros q n, show ((0 : Int) : Rat) = 0 from rfl]; grind
theorem ev_mulP (q : Rat) (a b : List Int) : ev q (mulP a b) = ev q a * ev q b := by
  unfold mulP
  rw [ev_trim, ev_outer q _ _ _ (by
    rw [List.length_replicate]
    cases a with
    | nil => exact .inl rfl
    | cons x xs => right; rw [List.length_cons]; omega), ev_zeros]
  grind
theorem RB.ev {k m : Nat} {q : Rat} (hq : RB k q) : ∀ {a : List Int}, BM (2 ^ m) a → RB (a.length * (k + m + 1)) (ev q a)
  | [], _ => by simpa [LW.ev] using RB.zero
  | c :: cs, h => by
    have h1 := RB.ev hq (a := cs) fun x hx => h x (List.mem_cons_of_mem _ hx)
    have := (RB.int (h c List.mem_cons_self)).add (hq.mul h1)
    refine this.up ?_
    rw [List.length_cons, Nat.succ_mul]
    omega
/-- the value's upper part, step by step -/
def hrn (n d : Int) (cs : List Int) : Int × Int := cs.foldl (fun f c => (f.1 * n + c * f.2, f.2 * d)) (0, 1)
theorem hrn_snoc {n d : Int} {cs : List Int} {c : Int} : hrn n d (cs ++ [c]) = ((hrn n d cs).1 * n + c * (hrn n d cs).2, (hrn n d cs).2 * d) := by
  unfold hrn
  rw [List.foldl_append]
  rfl
theorem hrn_pow {n d : Int} (cs : List Int) : (hrn n d cs).2 = d ^ cs.length := by
  have gen : ∀ (cs : List Int) (f p : Int), (cs.foldl (fun f c => (f.1 * n + c * f.2, f.2 * d)) (f, p)).2 = p * d ^ cs.length := by
    intro cs
    induction cs with
    | nil => intro f p; simp
    | cons c cs ih =>
      intro f p
      rw [List.foldl_cons, ih, List.length_cons, Int.pow_succ, Int.mul_assoc, Int.mul_comm d]
  have := gen cs 0 1
  rw [Int.one_mul] at this
  exact this
theorem hrn_ev {n d : Int} (hd : d ≠ 0) : ∀ a : List Int, ((hrn n d a.reverse).1 : Rat) * (d : Rat) = (d : Rat) ^ a.length * ev ((n : Rat) / (d : Rat)) a
  | [] => by
    show ((0 : Int) : Rat) * (d : Rat) = (d : Rat) ^ 0 * 0
    rw [show ((0 : Int) : Rat) = 0 from rfl]; grind
  | c :: cs => by
    have ih := hrn_ev (n := n) hd cs
    have hd' : (d : Rat) ≠ 0 := fun h => hd (by
      have : ((d : Int) : Rat) = ((0 : Int) : Rat) := h
      rwa [Rat.intCast_inj] at this)
    rw [List.reverse_cons, hrn_snoc, List.length_cons, hrn_pow, List.length_reverse]
    show (((hrn n d cs.reverse).1 * n + c * d ^ cs.length : Int) : Rat) * (d : Rat) = (d : Rat) ^ (cs.length + 1) * ((c : Rat) + (n : Rat) / (d : Rat) * ev ((n : Rat) / (d : Rat)) cs)
    rw [Rat.intCast_add, Rat.intCast_mul, Rat.intCast_mul, Rat.intCast_pow, show (d : Rat) ^ (cs.length + 1) = (d : Rat) ^ cs.length * (d : Rat) by grind]
    generalize ev ((n : Rat) / (d : Rat)) cs = e at *
    generalize ((hrn n d cs.reverse).1 : Rat) = f at *
    generalize (d : Rat) ^ cs.length = p at ih ⊢
    generalize (d : Rat) = d' at *
    grind
theorem hrn_val {n d : Int} (hd : d ≠ 0) (a : List Int) : ((hrn n d a.reverse).1 : Rat) / (((d ^ (a.length - 1) : Int)) : Rat) = ev ((n : Rat) / (d : Rat)) a := by
  have h := hrn_ev (n := n) hd a
  have hd' : (d : Rat) ≠ 0 := fun h => hd (by
    have : ((d : Int) : Rat) = ((0 : Int) : Rat) := h
    rwa [Rat.intCast_inj] at this)
  cases a with
  | nil =>
    show ((0 : Int) : Rat) / _ = 0
    rw [show ((0 : Int) : Rat) = 0 from rfl]
    grind
  | cons c cs =>
    rw [List.length_cons] at h ⊢
    rw [Nat.add_sub_cancel, Rat.intCast_pow]
    have hp : (d : Rat) ^ cs.length ≠ 0 := by
      clear h
      induction cs.length with
      | zero => rw [show (d : Rat) ^ 0 = 1 by grind]; decide
      | succ k ih => grind
    rw [show (d : Rat) ^ (cs.length + 1) = (d : Rat) ^ cs.length * (d : Rat) by grind] at h
    generalize ev ((n : Rat) / (d : Rat)) (c :: cs) = e at *
    generalize ((hrn n d (c :: cs).reverse).1 : Rat) = f at *
    generalize (d : Rat) ^ cs.length = p at *
    generalize (d : Rat) = d' at *
    grind
theorem hrn_le {n d : Int} {k : Nat} (hn : n.natAbs ≤ 2 ^ k) (hd : d.natAbs ≤ 2 ^ k) {M : Nat} : ∀ {cs : List Int}, BM (2 ^ M) cs → (hrn n d cs).1.natAbs ≤ 2 ^ (cs.length * (k + 1) + M) ∧ (hrn n d cs).2.natAbs ≤ 2 ^ (cs.length * k) := by
  intro cs
  have gen : ∀ (j : Nat), BM (2 ^ M) cs → j ≤ cs.length → (hrn n d (cs.take j)).1.natAbs ≤ 2 ^ (j * (k + 1) + M) ∧ (hrn n d (cs.take j)).2.natAbs ≤ 2 ^ (j * k) := by
    intro j hb
    induction j with
    | zero => intro _; exact ⟨Nat.zero_le _, by simp [hrn]⟩
    | succ j ih =>
      intro hj
      obtain ⟨i1, i2⟩ := ih (by omega)
      rw [take_succ0 (show j < cs.length by omega), hrn_snoc]
      have hc := hb _ (List.getElem_mem (show j < cs.length by omega))
      constructor
      · show ((hrn n d (cs.take j)).1 * n + cs[j] * (hrn n d (cs.take j)).2).natAbs ≤ _
        have a1 : ((hrn n d (cs.take j)).1 * n).natAbs ≤ 2 ^ (j * (k + 1) + M) * 2 ^ k := by rw [Int.natAbs_mul]; exact Nat.mul_le_mul i1 hn
        have a2 : (cs[j] * (hrn n d (cs.take j)).2).natAbs ≤ 2 ^ M * 2 ^ (j * k) := by rw [Int.natAbs_mul]; exact Nat.mul_le_mul hc i2
        have a3 := Int.natAbs_add_le ((hrn n d (cs.take j)).1 * n) (cs[j] * (hrn n d (cs.take j)).2)
        rw [← Nat.pow_add] at a1 a2
        have a4 : 2 ^ (M + j * k) ≤ 2 ^ (j * (k + 1) + M + k) := Nat.pow_le_pow_right (by omega) (by rw [Nat.mul_succ]; omega)
        have a5 := @two_pow (j * (k + 1) + M + k)
        have a6 : (j + 1) * (k + 1) + M = j * (k + 1) + M + k + 1 := by rw [Nat.succ_mul]; omega
        rw [a6]
        omega
      · show ((hrn n d (cs.take j)).2 * d).natAbs ≤ _
        rw [Int.natAbs_mul, Nat.succ_mul, Nat.pow_add]
        exact Nat.mul_le_mul i2 hd
  intro hb
  have := gen cs.length hb (Nat.le_refl _)
  rwa [List.take_length] at this
end LW
/-! MR4: polynomials of two letters. -/
namespace LW
open Lean.Grind
abbrev Pol := List (List Int)
def trimP : Pol → Pol
  | [] => []
  | x :: xs => match trimP xs with
    | [] => if x = [] then [] else [x]
    | y :: ys => x :: y :: ys
theorem trimP_app0 : ∀ xs : Pol, trimP (xs ++ [[]]) = trimP xs
  | [] => rfl
  | x :: xs => by
    show trimP (x :: (xs ++ [[]])) = _
    unfold trimP
    rw [trimP_app0 xs]
theorem trimP_last : ∀ (xs : Pol) (y : List Int), y ≠ [] → trimP (xs ++ [y]) = xs ++ [y]
  | [], y, h => by simp [trimP, h]
  | x :: xs, y, h => by
    show trimP (x :: (xs ++ [y])) = _
    unfold trimP
    rw [trimP_last xs y h]
    cases xs <;> rfl
theorem trimP_take {xs : Pol} {n : Nat} (hn : n < xs.length) (h : xs[n] = []) : trimP (xs.take (n + 1)) = trimP (xs.take n) := by
  rw [take_succ0 hn, h, trimP_app0]
theorem trimP_take' {xs : Pol} {n : Nat} (hn : n < xs.length) (h : xs[n] ≠ []) : trimP (xs.take (n + 1)) = xs.take (n + 1) := by
  rw [take_succ0 hn, trimP_last _ _ h]
theorem trimP_snoc (l : Pol) (z : List Int) : trimP (l ++ [z]) = if z = [] then trimP l else l ++ [z] := by
  by_cases h : z = []
  · rw [if_pos h, h, trimP_app0]
  · rw [if_neg h, trimP_last _ _ h]
theorem trimP_idem (xs : Pol) : trimP (trimP xs) = trimP xs := by
  have gen : ∀ (n : Nat) (xs : Pol), xs.length = n → trimP (trimP xs) = trimP xs := by
    intro n
    induction n with
    | zero => intro xs h; rw [List.length_eq_zero_iff.mp h]; rfl
    | succ n ih =>
      intro xs h
      rcases List.eq_nil_or_concat xs with e | ⟨l, z, e⟩
      · subst e; rfl
      · rw [List.concat_eq_append] at e
        subst e
        rw [trimP_snoc]
        split
        · exact ih l (by simpa using h)
        · rename_i hz
          exact trimP_last _ _ hz
  exact gen _ xs rfl
theorem trimP_mem : ∀ {xs : Pol} {x : List Int}, x ∈ trimP xs → x ∈ xs
  | [], x, h => h
  | y :: ys, x, h => by
    unfold trimP at h
    split at h
    · split at h
      · cases h
      · simp at h
        subst h
        exact List.mem_cons_self
    · rename_i z zs e
      rcases List.mem_cons.mp h with rfl | h
      · exact List.mem_cons_self
      · exact List.mem_cons_of_mem _ (trimP_mem (by rw [e]; exact h))
theorem trimP_len : ∀ xs : Pol, (trimP xs).length ≤ xs.length
  | [] => Nat.le_refl _
  | y :: ys => by
    have ih := trimP_len ys
    unfold trimP
    split
    · split <;> simp
    · rename_i z zs e
      rw [e] at ih
      simp at ih ⊢
      omega
/-- all rows trimmed -/
def TR (P : Pol) : Prop := ∀ r ∈ P, trim r = r
/-- .. and the last one not nought -/
def TP (P : Pol) : Prop := trimP P = P ∧ TR P
theorem TR.trimP {P : Pol} (h : TR P) : TP (LW.trimP P) := ⟨trimP_idem P, fun r hr => h r (trimP_mem hr)⟩
theorem TR.cons {r : List Int} {P : Pol} (hr : trim r = r) (h : TR P) : TR (r :: P) := fun x hx => by
  rcases List.mem_cons.mp hx with rfl | hx
  · exact hr
  · exact h x hx
theorem TP.nil : TP [] := ⟨rfl, fun r hr => by cases hr⟩
/-- a polynomial as a series of series -/
def ps (P : Pol) : PS (PS Int) := PS.sr rs [] P
theorem ps_nil : ps [] = 0 := PS.sr_nil rs_nil
theorem ps_cons {x : List Int} {xs : Pol} : ps (x :: xs) = PS.con (rs x) + PS.X * ps xs := PS.sr_cons
theorem ps_at {P : Pol} {k : Nat} : (ps P).at_ k = rs (P.getD k []) := rfl
theorem ps_app {xs ys : Pol} : ps (xs ++ ys) = ps xs + (PS.X : PS (PS Int)) ^ xs.length * ps ys := PS.sr_app rs_nil
theorem ps_zeros (n : Nat) : ps (List.replicate n []) = 0 := PS.sr_zeros (φ := rs) (z := []) rs_nil n
theorem con0' : PS.con (0 : PS Int) = 0 := rfl
theorem ps_trim (P : Pol) : ps (trimP P) = ps P := by
  induction P with
  | nil => rfl
  | cons x xs ih =>
    unfold trimP
    split
    · rename_i e
      rw [e] at ih
      rw [ps_cons, ← ih]
      split
      · rename_i h; rw [h, rs_nil, ps_nil, con0']; grind
      · rw [ps_cons]
    · rename_i y ys e
      rw [ps_cons, ← e, ih, ps_cons]
theorem rs_zero {a : List Int} (ht : trim a = a) (h : rs a = 0) : a = [] := row_ext ht rfl (by rw [h, rs_nil])
theorem trimP_eq {P Q : Pol} (hP : TR P) (hQ : TR Q) (h : ps P = ps Q) : trimP P = trimP Q := by
  have z : ∀ {P : Pol}, TR P → ps P = 0 → trimP P = [] := by
    intro P hP h
    induction P with
    | nil => rfl
    | cons x xs ih =>
      have hx : rs x = 0 := by
        have := congrArg (fun f => f.at_ 0) h
        simpa [ps_at] using this
      have ht : ps xs = 0 := PS.ext fun k => by
        have := congrArg (fun f => f.at_ (k + 1)) h
        simpa [ps_at] using this
      unfold trimP
      rw [ih (fun r hr => hP r (List.mem_cons_of_mem _ hr)) ht, if_pos (rs_zero (hP x List.mem_cons_self) hx)]
  induction P generalizing Q with
  | nil =>
    rw [ps_nil] at h
    rw [z hQ h.symm]; rfl
  | cons x xs ih =>
    cases Q with
    | nil => rw [ps_nil] at h; rw [z hP h]; rfl
    | cons y ys =>
      have hx : x = y := row_ext (hP x List.mem_cons_self) (hQ y List.mem_cons_self) (by
        have := congrArg (fun f => f.at_ 0) h
        simpa [ps_at] using this)
      have ht : ps xs = ps ys := PS.ext fun k => by
        have := congrArg (fun f => f.at_ (k + 1)) h
        simpa [ps_at] using this
      have e := ih (fun r hr => hP r (List.mem_cons_of_mem _ hr)) (fun r hr => hQ r (List.mem_cons_of_mem _ hr)) ht
      unfold trimP
      rw [e, hx]
theorem pol_ext {P Q : Pol} (hP : TP P) (hQ : TP Q) (h : ps P = ps Q) : P = Q := by
  rw [← hP.1, ← hQ.1]
  exact trimP_eq hP.2 hQ.2 h
/-- sums -/
def addPP : Pol → Pol → Pol
  | [], Q => Q
  | x :: xs, [] => x :: xs
  | x :: xs, y :: ys => trim (addP x y) :: addPP xs ys
theorem addPP_len : ∀ P Q : Pol, (addPP P Q).length = max P.length Q.length
  | [], ys => by simp [addPP]
  | x :: xs, [] => by simp [addPP]
  | x :: xs, y :: ys => by
    have ih := addPP_len xs ys
    simp [addPP, ih]
theorem addP_nil (a : List Int) : addP a [] = a := by cases a <;> rfl
theorem addPP_get : ∀ (P Q : Pol) (k : Nat), TR P → TR Q → k < max P.length Q.length → (addPP P Q)[k]? = some (trim (addP (P.getD k []) (Q.getD k [])))
  | [], ys, k, _, hQ, h => by
    have hk : k < ys.length := by simpa using h
    have e := hQ _ (List.getElem_mem hk)
    simp [addPP, List.getElem?_eq_getElem hk, List.getD_eq_getElem?_getD, addP, e]
  | x :: xs, [], k, hP, _, h => by
    have hk : k < (x :: xs).length := by simpa using h
    have e := hP _ (List.getElem_mem hk)
    simp only [addPP]
    rw [List.getElem?_eq_getElem hk, List.getD_eq_getElem?_getD, List.getElem?_eq_getElem hk]
    show some (x :: xs)[k] = some (trim (addP (x :: xs)[k] []))
    rw [addP_nil, e]
  | x :: xs, y :: ys, 0, _, _, h => by simp [addPP]
  | x :: xs, y :: ys, k + 1, hP, hQ, h => by
    have ih := addPP_get xs ys k (fun r hr => hP r (List.mem_cons_of_mem _ hr)) (fun r hr => hQ r (List.mem_cons_of_mem _ hr)) (by simp at h; omega)
    simpa [addPP] using ih
theorem TR.addPP : ∀ {P Q : Pol}, TR P → TR Q → TR (LW.addPP P Q)
  | [], Q, _, hQ => hQ
  | x :: xs, [], hP, _ => hP
  | x :: xs, y :: ys, hP, hQ => .cons (trim_idem _) (TR.addPP (fun r hr => hP r (List.mem_cons_of_mem _ hr)) (fun r hr => hQ r (List.mem_cons_of_mem _ hr)))
theorem ps_addPP (P Q : Pol) : ps (addPP P Q) = ps P + ps Q := by
  induction P generalizing Q with
  | nil => rw [ps_nil]; show ps Q = _; grind
  | cons x xs ih =>
    cases Q with
    | nil => rw [ps_nil]; show ps (x :: xs) = _; grind
    | cons y ys =>
      show ps (trim (addP x y) :: addPP xs ys) = _
      rw [ps_cons, ps_cons, ps_cons, ih, rs_trim, rs_addP, PS.con_add]; grind
def sumPP (P Q : Pol) : Pol := trimP (addPP P Q)
theorem sumPP_TP {P Q : Pol} (hP : TR P) (hQ : TR Q) : TP (sumPP P Q) := (hP.addPP hQ).trimP
theorem ps_sumPP (P Q : Pol) : ps (sumPP P Q) = ps P + ps Q := by unfold sumPP; rw [ps_trim, ps_addPP]
theorem sumPP_comm {P Q : Pol} (hP : TR P) (hQ : TR Q) : sumPP P Q = sumPP Q P := pol_ext (sumPP_TP hP hQ) (sumPP_TP hQ hP) (by rw [ps_sumPP, ps_sumPP]; grind)
/-- products: the law's own loops -/
def addAtP (c : Pol) (k : Nat) (v : List Int) : Pol := c.set k (trim (addP (c.getD k []) v))
def innerP (i : Nat) (x : List Int) : Nat → Pol → Pol → Pol
  | _, [], c => c
  | j, y :: ys, c => innerP i x (j + 1) ys (addAtP c (i + j) (mulP x y))
def outerP (b : Pol) : Nat → Pol → Pol → Pol
  | _, [], c => c
  | i, x :: xs, c => outerP b (i + 1) xs (innerP i x 0 b c)
theorem addAtP_len {c : Pol} {k : Nat} {v : List Int} : (addAtP c k v).length = c.length := List.length_set ..
theorem innerP_len {i : Nat} {x : List Int} : ∀ (ys : Pol) (j : Nat) (c : Pol), (innerP i x j ys c).length = c.length
  | [], j, c => rfl
  | y :: ys, j, c => by
    unfold innerP
    rw [innerP_len ys, addAtP_len]
theorem outerP_len {b : Pol} : ∀ (xs : Pol) (i : Nat) (c : Pol), (outerP b i xs c).length = c.length
  | [], i, c => rfl
  | x :: xs, i, c => by
    unfold outerP
    rw [outerP_len xs, innerP_len]
theorem TR.addAtP {c : Pol} (h : TR c) (k : Nat) (v : List Int) : TR (LW.addAtP c k v) := fun r hr => by
  unfold LW.addAtP at hr
  rcases List.mem_or_eq_of_mem_set hr with hr | rfl
  · exact h r hr
  · exact trim_idem _
theorem TR.innerP {i : Nat} {x : List Int} : ∀ (ys : Pol) (j : Nat) {c : Pol}, TR c → TR (LW.innerP i x j ys c)
  | [], j, c, h => h
  | y :: ys, j, c, h => by
    unfold LW.innerP
    exact TR.innerP ys (j + 1) (h.addAtP _ _)
theorem TR.outerP {b : Pol} : ∀ (xs : Pol) (i : Nat) {c : Pol}, TR c → TR (LW.outerP b i xs c)
  | [], i, c, h => h
  | x :: xs, i, c, h => by
    unfold LW.outerP
    exact TR.outerP xs (i + 1) (TR.innerP b 0 h)
theorem TR.zeros (n : Nat) : TR (List.replicate n []) := fun r hr => by rw [List.eq_of_mem_replicate hr]; rfl
theorem ps_addAtP {c : Pol} {k : Nat} {v : List Int} (h : k < c.length) : ps (addAtP c k v) = ps c + (PS.X : PS (PS Int)) ^ k * PS.con (rs v) := by
  unfold ps addAtP
  rw [PS.sr_set h, rs_trim, rs_addP]
  congr 2
  congr 1
  grind
theorem ps_innerP {i : Nat} {x : List Int} : ∀ (ys : Pol) (j : Nat) (c : Pol), i + j + ys.length ≤ c.length → ps (innerP i x j ys c) = ps c + (PS.X : PS (PS Int)) ^ (i + j) * PS.con (rs x) * ps ys
  | [], j, c, _ => by
    show ps c = _
    rw [ps_nil]; grind
  | y :: ys, j, c, h => by
    rw [List.length_cons] at h
    unfold innerP
    rw [ps_innerP ys (j + 1) _ (by rw [addAtP_len]; omega), ps_addAtP (by omega), ps_cons, rs_mulP, PS.con_mul, show i + (j + 1) = (i + j) + 1 by omega]
    grind
theorem ps_outerP {b : Pol} : ∀ (xs : Pol) (i : Nat) (c : Pol), (xs = [] ∨ i + xs.length + b.length ≤ c.length + 1) → ps (outerP b i xs c) = ps c + (PS.X : PS (PS Int)) ^ i * ps xs * ps b
  | [], i, c, _ => by
    show ps c = _
    rw [ps_nil]; grind
  | x :: xs, i, c, h => by
    have h : i + (xs.length + 1) + b.length ≤ c.length + 1 := by
      rcases h with h | h
      · cases h
      · simpa using h
    unfold outerP
    rw [ps_outerP xs (i + 1) _ (by right; rw [innerP_len]; omega), ps_innerP b 0 c (by omega), ps_cons]
    grind
def mulPP (P Q : Pol) : Pol := trimP (outerP Q 0 P (List.replicate (P.length + Q.length) []))
theorem mulPP_TP (P Q : Pol) : TP (mulPP P Q) := (TR.outerP P 0 (TR.zeros _)).trimP
theorem ps_mulPP (P Q : Pol) : ps (mulPP P Q) = ps P * ps Q := by
  unfold mulPP
  rw [ps_trim, ps_outerP _ _ _ (by right; rw [List.length_replicate]; omega), ps_zeros]
  grind
theorem mulPP_comm (P Q : Pol) : mulPP P Q = mulPP Q P := pol_ext (mulPP_TP P Q) (mulPP_TP Q P) (by rw [ps_mulPP, ps_mulPP]; grind)
/-- a polynomial times a row -/
def rowP (P : Pol) (r : List Int) : Pol := trimP (P.map (mulP · r))
theorem rowP_TP (P : Pol) (r : List Int) : TP (rowP P r) := TR.trimP fun x hx => by
  obtain ⟨y, _, rfl⟩ := List.mem_map.mp hx
  exact mulP_trim _ _
theorem ps_rowP (P : Pol) (r : List Int) : ps (rowP P r) = ps P * PS.con (rs r) := by
  unfold rowP
  rw [ps_trim]
  have := PS.sr_map (φ := rs) (z := ([] : List Int)) (ψ := rs) (w := ([] : List Int)) (f := (mulP · r)) (c := rs r) rs_nil rs_nil (fun b => by rw [rs_mulP]; grind) P
  unfold ps
  rw [this]; grind
def shiftP (P : Pol) (k : Nat) : Pol := if P = [] then [] else List.replicate k [] ++ P
theorem ps_shiftP (P : Pol) (k : Nat) : ps (shiftP P k) = (PS.X : PS (PS Int)) ^ k * ps P := by
  unfold shiftP
  split
  · rename_i h
    rw [h, ps_nil]; grind
  · rw [ps_app, ps_zeros, List.length_replicate]; grind
theorem TR.shiftP {P : Pol} (h : TR P) (k : Nat) : TR (LW.shiftP P k) := by
  unfold LW.shiftP
  split
  · exact TP.nil.2
  · intro r hr
    rcases List.mem_append.mp hr with hr | hr
    · exact TR.zeros k r hr
    · exact h r hr
/-- the program's product: rows of the second one, one by one -/
def prodP (P : Pol) : Nat → Pol → Pol → Pol
  | _, [], c => c
  | i, x :: xs, c => prodP P (i + 1) xs (sumPP c (shiftP (rowP P x) i))
theorem prodP_TP {P : Pol} : ∀ (Q : Pol) (i : Nat) {c : Pol}, TP c → TP (prodP P i Q c)
  | [], i, c, h => h
  | x :: xs, i, c, h => by
    unfold prodP
    exact prodP_TP xs (i + 1) (sumPP_TP h.2 ((rowP_TP P x).2.shiftP i))
theorem ps_prodP {P : Pol} : ∀ (Q : Pol) (i : Nat) (c : Pol), ps (prodP P i Q c) = ps c + (PS.X : PS (PS Int)) ^ i * ps P * ps Q
  | [], i, c => by
    show ps c = _
    rw [ps_nil]; grind
  | x :: xs, i, c => by
    unfold prodP
    rw [ps_prodP xs, ps_sumPP, ps_shiftP, ps_rowP, ps_cons]; grind
theorem prodP_eq (P Q : Pol) : prodP P 0 Q [] = mulPP P Q := pol_ext (prodP_TP Q 0 TP.nil) (mulPP_TP P Q) (by rw [ps_prodP, ps_mulPP, ps_nil]; grind)
theorem rowP_eq (P : Pol) (r : List Int) : rowP P r = mulPP P [r] := pol_ext (rowP_TP P r) (mulPP_TP P [r]) (by rw [ps_rowP, ps_mulPP, ps_cons, ps_nil]; grind)
end LW
/-! MR5: letters exchanged, derivatives, values at two fractions. -/
namespace LW
open Lean.Grind
theorem ev_congr {q : Rat} {a b : List Int} (h : rs a = rs b) : ev q a = ev q b := by
  rw [← ev_trim q a, trim_eq h, ev_trim]
/-- the value at a place -/
def ev2 (x y : Rat) : Pol → Rat
  | [] => 0
  | r :: P => ev x r + y * ev2 x y P
theorem ev2_zero {x y : Rat} : ∀ {P : Pol}, ps P = 0 → ev2 x y P = 0
  | [], _ => rfl
  | r :: P, h => by
    have hx : rs r = rs [] := by
      rw [rs_nil]
      have := congrArg (fun f => f.at_ 0) h
      simpa [ps_at] using this
    have ht : ps P = 0 := PS.ext fun k => by
      have := congrArg (fun f => f.at_ (k + 1)) h
      simpa [ps_at] using this
    show ev x r + y * ev2 x y P = 0
    rw [ev2_zero ht, ev_congr hx]
    show (0 : Rat) + y * 0 = 0
    grind
theorem ev2_congr {x y : Rat} : ∀ {P Q : Pol}, ps P = ps Q → ev2 x y P = ev2 x y Q
  | [], Q, h => by rw [ps_nil] at h; rw [ev2_zero h.symm]; rfl
  | r :: P, [], h => by rw [ps_nil] at h; rw [ev2_zero h]; rfl
  | r :: P, s :: Q, h => by
    have hx : rs r = rs s := by
      have := congrArg (fun f => f.at_ 0) h
      simpa [ps_at] using this
    have ht : ps P = ps Q := PS.ext fun k => by
      have := congrArg (fun f => f.at_ (k + 1)) h
      simpa [ps_at] using this
    show ev x r + y * ev2 x y P = ev x s + y * ev2 x y Q
    rw [ev2_congr ht, ev_congr hx]
theorem ev2_trim {x y : Rat} {P : Pol} : ev2 x y (trimP P) = ev2 x y P := ev2_congr (ps_trim P)
theorem ev2_addPP {x y : Rat} (P Q : Pol) : ev2 x y (addPP P Q) = ev2 x y P + ev2 x y Q := by
  induction P generalizing Q with
  | nil => show ev2 x y Q = 0 + ev2 x y Q; grind
  | cons r P ih =>
    cases Q with
    | nil => show ev2 x y (r :: P) = ev2 x y (r :: P) + 0; grind
    | cons s Q =>
      show ev x (trim (addP r s)) + y * ev2 x y (addPP P Q) = (ev x r + y * ev2 x y P) + (ev x s + y * ev2 x y Q)
      rw [ih, ev_trim, ev_addP]; grind
theorem ev2_sumPP {x y : Rat} (P Q : Pol) : ev2 x y (sumPP P Q) = ev2 x y P + ev2 x y Q := by unfold sumPP; rw [ev2_trim, ev2_addPP]
theorem ev2_set {x y : Rat} {l : Pol} {k : Nat} {v : List Int} (h : k < l.length) : ev2 x y (l.set k v) = ev2 x y l + y ^ k * (ev x v - ev x (l.getD k [])) := by
  induction l generalizing k with
  | nil => cases h
  | cons r P ih =>
    cases k with
    | zero =>
      show ev x v + y * ev2 x y P = (ev x r + y * ev2 x y P) + y ^ 0 * (ev x v - ev x r)
      grind
    | succ k =>
      show ev x r + y * ev2 x y (P.set k v) = (ev x r + y * ev2 x y P) + y ^ (k + 1) * (ev x v - ev x (P.getD k []))
      rw [ih (by simpa using h)]
      grind
theorem ev2_addAtP {x y : Rat} {c : Pol} {k : Nat} {v : List Int} (h : k < c.length) : ev2 x y (addAtP c k v) = ev2 x y c + y ^ k * ev x v := by
  unfold addAtP
  rw [ev2_set h, ev_trim, ev_addP]; grind
theorem ev2_innerP {x y : Rat} {i : Nat} {r : List Int} : ∀ (Q : Pol) (j : Nat) (c : Pol), i + j + Q.length ≤ c.length → ev2 x y (innerP i r j Q c) = ev2 x y c + y ^ (i + j) * ev x r * ev2 x y Q
  | [], j, c, _ => by show ev2 x y c = ev2 x y c + y ^ (i + j) * ev x r * 0; grind
  | s :: Q, j, c, h => by
    rw [List.length_cons] at h
    unfold innerP
    rw [ev2_innerP Q (j + 1) _ (by rw [addAtP_len]; omega), ev2_addAtP (by omega), ev_mulP, show i + (j + 1) = (i + j) + 1 by omega]
    show _ = ev2 x y c + y ^ (i + j) * ev x r * (ev x s + y * ev2 x y Q)
    grind
theorem ev2_outerP {x y : Rat} {Q : Pol} : ∀ (P : Pol) (i : Nat) (c : Pol), (P = [] ∨ i + P.length + Q.length ≤ c.length + 1) → ev2 x y (outerP Q i P c) = ev2 x y c + y ^ i * ev2 x y P * ev2 x y Q
  | [], i, c, _ => by show ev2 x y c = ev2 x y c + y ^ i * 0 * ev2 x y Q; grind
  | r :: P, i, c, h => by
    have h : i + (P.length + 1) + Q.length ≤ c.length + 1 := by
      rcases h with h | h
      · cases h
      · simpa using h
    unfold outerP
    rw [ev2_outerP P (i + 1) _ (by right; rw [innerP_len]; omega), ev2_innerP Q 0 c (by omega)]
    show _ = ev2 x y c + y ^ i * (ev x r + y * ev2 x y P) * ev2 x y Q
    grind
theorem ev2_zeros {x y : Rat} : ∀ n : Nat, ev2 x y (List.replicate n []) = 0
  | 0 => rfl
  | n + 1 => by
    rw [List.replicate_succ]
    show (0 : Rat) + y * ev2 x y (List.replicate n []) = 0
    rw [ev2_zeros n]; grind
theorem ev2_mulPP {x y : Rat} (P Q : Pol) : ev2 x y (mulPP P Q) = ev2 x y P * ev2 x y Q := by
  unfold mulPP
  rw [ev2_trim, ev2_outerP _ _ _ (by right; rw [List.length_replicate]; omega), ev2_zeros]
  grind
/-- the greatest length of a row -/
def wid (P : Pol) : Nat := P.foldl (fun m r => max m r.length) 0
theorem wid_le {P : Pol} {r : List Int} (h : r ∈ P) : r.length ≤ wid P := by
  have gen : ∀ (P : Pol) (m : Nat), (m ≤ P.foldl (fun m r => max m r.length) m) ∧ (r ∈ P → r.length ≤ P.foldl (fun m r => max m r.length) m) := by
    intro P
    induction P with
    | nil => intro m; exact ⟨Nat.le_refl _, fun h => by cases h⟩
    | cons s P ih =>
      intro m
      obtain ⟨h1, h2⟩ := ih (max m s.length)
      refine ⟨by rw [List.foldl_cons]; omega, fun h => ?_⟩
      rw [List.foldl_cons]
      rcases List.mem_cons.mp h with rfl | h
      · omega
      · exact h2 h
  exact (gen P 0).2 h
theorem wid_most {P : Pol} {n : Nat} (h : ∀ r ∈ P, r.length ≤ n) : wid P ≤ n := by
  have gen : ∀ (P : Pol) (m : Nat), (∀ r ∈ P, r.length ≤ n) → m ≤ n → P.foldl (fun m r => max m r.length) m ≤ n := by
    intro P
    induction P with
    | nil => intro m _ h; exact h
    | cons s P ih =>
      intro m h hm
      rw [List.foldl_cons]
      exact ih _ (fun r hr => h r (List.mem_cons_of_mem _ hr)) (by have := h s List.mem_cons_self; omega)
  exact gen P 0 h (Nat.zero_le _)
def col (P : Pol) (j : Nat) : List Int := P.map fun r => r.getD j 0
theorem col_getD (P : Pol) (j k : Nat) : (col P j).getD k 0 = (P.getD k []).getD j 0 := by
  unfold col
  rw [List.getD_eq_getElem?_getD, List.getElem?_map, List.getD_eq_getElem?_getD (l := P)]
  cases P[k]? with
  | none => rfl
  | some r => rfl
/-- letters exchanged -/
def exch (P : Pol) : Pol := trimP ((List.range (wid P)).map fun j => trim (col P j))
theorem exch_TP (P : Pol) : TP (exch P) := TR.trimP fun r hr => by
  obtain ⟨j, _, rfl⟩ := List.mem_map.mp hr
  exact trim_idem _
theorem ps_exch {P : Pol} {j k : Nat} : ((ps (exch P)).at_ j).at_ k = ((ps P).at_ k).at_ j := by
  unfold exch
  rw [ps_trim, ps_at, ps_at]
  by_cases hj : j < wid P
  · have e : ((List.range (wid P)).map fun j => trim (col P j)).getD j [] = trim (col P j) := by
      rw [List.getD_eq_getElem?_getD, List.getElem?_map, List.getElem?_range hj]; rfl
    rw [e, rs_trim, rs_at, rs_at, col_getD]
  · have e : ((List.range (wid P)).map fun j => trim (col P j)).getD j [] = [] := by
      rw [List.getD_eq_getElem?_getD, List.getElem?_eq_none (by rw [List.length_map, List.length_range]; omega)]; rfl
    rw [e, rs_at, rs_at]
    have : (P.getD k []).length ≤ j := by
      rw [List.getD_eq_getElem?_getD]
      by_cases hk : k < P.length
      · rw [List.getElem?_eq_getElem hk]
        have := wid_le (List.getElem_mem hk)
        show P[k].length ≤ j
        omega
      · rw [List.getElem?_eq_none (by omega)]; simp
    rw [List.getD_eq_getElem?_getD (l := P.getD k []), List.getElem?_eq_none this]
    simp
theorem exch_exch {P : Pol} (h : TP P) : exch (exch P) = P := pol_ext (exch_TP _) h (PS.ext fun j => PS.ext fun k => by rw [ps_exch, ps_exch])
def consCol : List Int → Pol → Pol
  | [], Q => Q.map (0 :: ·)
  | r :: a, [] => [r] :: consCol a []
  | r :: a, q :: Q => (r :: q) :: consCol a Q
theorem ev2_consCol {x y : Rat} : ∀ (a : List Int) (Q : Pol), ev2 y x (consCol a Q) = ev x a + y * ev2 y x Q
  | [], [] => by show (0 : Rat) = 0 + y * 0; grind
  | [], q :: Q => by
    have := ev2_consCol (x := x) (y := y) [] Q
    show ((0 : Int) : Rat) + y * ev y q + x * ev2 y x (consCol [] Q) = 0 + y * (ev y q + x * ev2 y x Q)
    rw [this, show ((0 : Int) : Rat) = 0 from rfl, show ev x [] = 0 from rfl]; grind
  | r :: a, [] => by
    have := ev2_consCol (x := x) (y := y) a []
    show ((r : Rat) + y * 0) + x * ev2 y x (consCol a []) = ((r : Rat) + x * ev x a) + y * 0
    rw [this, show ev2 y x [] = 0 from rfl]; grind
  | r :: a, q :: Q => by
    have := ev2_consCol (x := x) (y := y) a Q
    show ((r : Rat) + y * ev y q) + x * ev2 y x (consCol a Q) = ((r : Rat) + x * ev x a) + y * (ev y q + x * ev2 y x Q)
    rw [this]; grind
theorem consCol_at : ∀ (a : List Int) (Q : Pol) (j : Nat), ((consCol a Q).getD j []).getD 0 0 = a.getD j 0 ∧ ∀ k, ((consCol a Q).getD j []).getD (k + 1) 0 = (Q.getD j []).getD k 0
  | [], Q, j => by
    show ((Q.map (0 :: ·)).getD j []).getD 0 0 = 0 ∧ ∀ k, ((Q.map (0 :: ·)).getD j []).getD (k + 1) 0 = (Q.getD j []).getD k 0
    rw [List.getD_eq_getElem?_getD (l := Q.map (0 :: ·)), List.getElem?_map, List.getD_eq_getElem?_getD (l := Q)]
    cases Q[j]? with
    | none => exact ⟨rfl, fun k => rfl⟩
    | some r => exact ⟨rfl, fun k => rfl⟩
  | r :: a, [], 0 => ⟨rfl, fun k => rfl⟩
  | r :: a, [], j + 1 => consCol_at a [] j
  | r :: a, q :: Q, 0 => ⟨rfl, fun k => rfl⟩
  | r :: a, q :: Q, j + 1 => consCol_at a Q j
def exch' : Pol → Pol
  | [] => []
  | r :: P => consCol r (exch' P)
theorem exch'_at : ∀ (P : Pol) (j k : Nat), ((exch' P).getD j []).getD k 0 = (P.getD k []).getD j 0
  | [], j, k => by simp [exch']
  | r :: P, j, 0 => (consCol_at r (exch' P) j).1
  | r :: P, j, k + 1 => ((consCol_at r (exch' P) j).2 k).trans (exch'_at P j k)
theorem ev2_exch {x y : Rat} (P : Pol) : ev2 y x (exch P) = ev2 x y P := by
  have e : ps (exch P) = ps (exch' P) := PS.ext fun j => PS.ext fun k => by
    rw [ps_exch, ps_at, ps_at, rs_at, rs_at, exch'_at]
  rw [ev2_congr e]
  clear e
  induction P with
  | nil => rfl
  | cons r P ih =>
    show ev2 y x (consCol r (exch' P)) = ev x r + y * ev2 x y P
    rw [ev2_consCol, ih]
/-- bounds -/
def PB (M : Nat) (P : Pol) : Prop := ∀ r ∈ P, BM M r
def PL (n : Nat) (P : Pol) : Prop := ∀ r ∈ P, r.length ≤ n
theorem BM.up {M N : Nat} {a : List Int} (h : BM M a) (hM : M ≤ N) : BM N a := fun x hx => Nat.le_trans (h x hx) hM
theorem BM.trim {M : Nat} {a : List Int} (h : BM M a) : BM M (LW.trim a) := fun x hx => h x (trim_mem hx)
theorem BM.addP {A B : Nat} {a b : List Int} (ha : BM A a) (hb : BM B b) : BM (A + B) (LW.addP a b) := by
  intro x hx
  obtain ⟨k, hk, e⟩ := List.getElem_of_mem hx
  have := addP_get a b k (by rwa [addP_len] at hk)
  rw [List.getElem?_eq_getElem hk, e] at this
  cases this
  have h1 := ha.getD k
  have h2 := hb.getD k
  have := Int.natAbs_add_le (a.getD k 0) (b.getD k 0)
  omega
theorem PB.up {M N : Nat} {P : Pol} (h : PB M P) (hM : M ≤ N) : PB N P := fun r hr => (h r hr).up hM
theorem PB.trimP {M : Nat} {P : Pol} (h : PB M P) : PB M (LW.trimP P) := fun r hr => h r (trimP_mem hr)
theorem PL.trimP {n : Nat} {P : Pol} (h : PL n P) : PL n (LW.trimP P) := fun r hr => h r (trimP_mem hr)
theorem PL.up {n m : Nat} {P : Pol} (h : PL n P) (hm : n ≤ m) : PL m P := fun r hr => Nat.le_trans (h r hr) hm
theorem PB.getD {M : Nat} {P : Pol} (h : PB M P) (k : Nat) : BM M (P.getD k []) := by
  rw [List.getD_eq_getElem?_getD]
  by_cases hk : k < P.length
  · rw [List.getElem?_eq_getElem hk]
    exact h _ (List.getElem_mem hk)
  · rw [List.getElem?_eq_none (by omega)]
    intro x hx; cases hx
theorem PL.getD {n : Nat} {P : Pol} (h : PL n P) (k : Nat) : (P.getD k []).length ≤ n := by
  rw [List.getD_eq_getElem?_getD]
  by_cases hk : k < P.length
  · rw [List.getElem?_eq_getElem hk]
    exact h _ (List.getElem_mem hk)
  · rw [List.getElem?_eq_none (by omega)]
    simp
theorem PB.addPP {A B : Nat} : ∀ {P Q : Pol}, PB A P → PB B Q → PB (A + B) (LW.addPP P Q)
  | [], Q, _, hQ => hQ.up (by omega)
  | x :: xs, [], hP, _ => hP.up (by omega)
  | x :: xs, y :: ys, hP, hQ => fun r hr => by
    rcases List.mem_cons.mp hr with rfl | hr
    · exact ((hP x List.mem_cons_self).addP (hQ y List.mem_cons_self)).trim
    · exact PB.addPP (fun r hr => hP r (List.mem_cons_of_mem _ hr)) (fun r hr => hQ r (List.mem_cons_of_mem _ hr)) r hr
theorem PL.addPP {n : Nat} : ∀ {P Q : Pol}, PL n P → PL n Q → PL n (LW.addPP P Q)
  | [], Q, _, hQ => hQ
  | x :: xs, [], hP, _ => hP
  | x :: xs, y :: ys, hP, hQ => fun r hr => by
    rcases List.mem_cons.mp hr with rfl | hr
    · have h1 := trim_len (addP x y)
      have h2 := hP x List.mem_cons_self
      have h3 := hQ y List.mem_cons_self
      rw [addP_len] at h1
      omega
    · exact PL.addPP (fun r hr => hP r (List.mem_cons_of_mem _ hr)) (fun r hr => hQ r (List.mem_cons_of_mem _ hr)) r hr
theorem PB.addAtP {M L : Nat} {c : Pol} {k : Nat} {v : List Int} (h : PB M c) (hv : BM L v) : PB (M + L) (LW.addAtP c k v) := fun r hr => by
  unfold LW.addAtP at hr
  rcases List.mem_or_eq_of_mem_set hr with hr | rfl
  · exact (h r hr).up (by omega)
  · exact ((h.getD k).addP hv).trim
theorem PL.addAtP {n : Nat} {c : Pol} {k : Nat} {v : List Int} (h : PL n c) (hv : v.length ≤ n) : PL n (LW.addAtP c k v) := fun r hr => by
  unfold LW.addAtP at hr
  rcases List.mem_or_eq_of_mem_set hr with hr | rfl
  · exact h r hr
  · have h1 := trim_len (addP (c.getD k []) v)
    have h2 := h.getD k
    rw [addP_len] at h1
    omega
theorem PB.innerP {i : Nat} {x : List Int} {M A B n : Nat} (hx : BM A x) (lx : x.length ≤ n) : ∀ {ys : Pol} {j : Nat} {c : Pol}, PB B ys → PL n ys → PB M c → PB (M + ys.length * (n * (n * (A * B)))) (LW.innerP i x j ys c)
  | [], j, c, _, _, h => by simpa [LW.innerP] using h
  | y :: ys, j, c, hy, ly, h => by
    unfold LW.innerP
    have hxy := hx.mulP (hy y List.mem_cons_self)
    have hl : x.length * (y.length * (A * B)) ≤ n * (n * (A * B)) := Nat.mul_le_mul lx (Nat.mul_le_mul_right _ (ly y List.mem_cons_self))
    refine (PB.innerP (i := i) (j := j + 1) hx lx (fun z hz => hy z (List.mem_cons_of_mem _ hz)) (fun z hz => ly z (List.mem_cons_of_mem _ hz)) (h.addAtP (k := i + j) (hxy.up hl))).up ?_
    rw [List.length_cons, Nat.succ_mul]
    omega
theorem PB.outerP {b : Pol} {M A B n : Nat} (hb : PB B b) (lb : PL n b) : ∀ {xs : Pol} {i : Nat} {c : Pol}, PB A xs → PL n xs → PB M c → PB (M + xs.length * (b.length * (n * (n * (A * B))))) (LW.outerP b i xs c)
  | [], i, c, _, _, h => by simpa [LW.outerP] using h
  | x :: xs, i, c, ha, la, h => by
    unfold LW.outerP
    refine (PB.outerP hb lb (i := i + 1) (fun z hz => ha z (List.mem_cons_of_mem _ hz)) (fun z hz => la z (List.mem_cons_of_mem _ hz)) (PB.innerP (i := i) (j := 0) (ha x List.mem_cons_self) (la x List.mem_cons_self) hb lb h)).up ?_
    rw [List.length_cons, Nat.succ_mul]
    omega
theorem PB.mulPP {P Q : Pol} {A B n : Nat} (hP : PB A P) (hQ : PB B Q) (lP : PL n P) (lQ : PL n Q) : PB (P.length * (Q.length * (n * (n * (A * B))))) (LW.mulPP P Q) := by
  have z : PB 0 (List.replicate (P.length + Q.length) []) := fun r hr => by rw [List.eq_of_mem_replicate hr]; intro x hx; cases hx
  have := (PB.outerP (i := 0) hQ lQ hP lP z).trimP
  rw [Nat.zero_add] at this
  exact this
theorem PL.innerP {i : Nat} {x : List Int} {n m : Nat} (lx : x.length ≤ n) (hm : n + n ≤ m + 1) : ∀ {ys : Pol} {j : Nat} {c : Pol}, PL n ys → PL m c → PL m (LW.innerP i x j ys c)
  | [], j, c, _, h => h
  | y :: ys, j, c, ly, h => by
    unfold LW.innerP
    have := mulP_len x y
    have := ly y List.mem_cons_self
    exact PL.innerP lx hm (fun z hz => ly z (List.mem_cons_of_mem _ hz)) (h.addAtP (by omega))
theorem PL.outerP {b : Pol} {n m : Nat} (lb : PL n b) (hm : n + n ≤ m + 1) : ∀ {xs : Pol} {i : Nat} {c : Pol}, PL n xs → PL m c → PL m (LW.outerP b i xs c)
  | [], i, c, _, h => h
  | x :: xs, i, c, la, h => by
    unfold LW.outerP
    exact PL.outerP lb hm (fun z hz => la z (List.mem_cons_of_mem _ hz)) (PL.innerP (la x List.mem_cons_self) hm lb h)
theorem PL.mulPP {P Q : Pol} {n m : Nat} (lP : PL n P) (lQ : PL n Q) (hm : n + n ≤ m + 1) : PL m (LW.mulPP P Q) := by
  have z : PL m (List.replicate (P.length + Q.length) []) := fun r hr => by rw [List.eq_of_mem_replicate hr]; simp
  exact (PL.outerP (i := 0) lQ hm lP z).trimP
theorem mulPP_len (P Q : Pol) : (mulPP P Q).length ≤ P.length + Q.length := by
  unfold mulPP
  have := trimP_len (outerP Q 0 P (List.replicate (P.length + Q.length) []))
  rwa [outerP_len, List.length_replicate] at this
theorem col_BM {P : Pol} {M : Nat} (h : PB M P) (j : Nat) : BM M (col P j) := fun x hx => by
  obtain ⟨r, hr, rfl⟩ := List.mem_map.mp hx
  exact (h r hr).getD j
theorem PB.exch {P : Pol} {M : Nat} (h : PB M P) : PB M (LW.exch P) := PB.trimP fun r hr => by
  obtain ⟨j, _, rfl⟩ := List.mem_map.mp hr
  exact (col_BM h j).trim
theorem PL.exch {P : Pol} {n : Nat} (h : P.length ≤ n) : PL n (LW.exch P) := PL.trimP fun r hr => by
  obtain ⟨j, _, rfl⟩ := List.mem_map.mp hr
  have := trim_len (col P j)
  unfold col at this
  rw [List.length_map] at this
  exact Nat.le_trans this h
theorem exch_len {P : Pol} {n : Nat} (h : PL n P) : (exch P).length ≤ n := by
  have := trimP_len ((List.range (wid P)).map fun j => trim (col P j))
  rw [List.length_map, List.length_range] at this
  exact Nat.le_trans this (wid_most h)
/-- the derivative in y -/
def ledF : Nat → Pol → Pol
  | _, [] => []
  | k, r :: P => trim (r.map ((k : Int) * ·)) :: ledF (k + 1) P
def led (P : Pol) : Pol := trimP (ledF 1 (P.drop 1))
theorem ledF_len : ∀ (k : Nat) (P : Pol), (ledF k P).length = P.length
  | _, [] => rfl
  | k, r :: P => by simp [ledF, ledF_len (k + 1) P]
theorem ledF_get : ∀ (i : Nat) (P : Pol) (k : Nat), (ledF i P)[k]? = P[k]?.map fun r => trim (r.map (((i + k : Nat) : Int) * ·))
  | i, [], k => by simp [ledF]
  | i, r :: P, 0 => by simp [ledF]
  | i, r :: P, k + 1 => by
    have := ledF_get (i + 1) P k
    simp only [ledF, List.getElem?_cons_succ]
    rw [this, show i + 1 + k = i + (k + 1) by omega]
theorem led_TP (P : Pol) : TP (led P) := TR.trimP fun r hr => by
  obtain ⟨k, hk, e⟩ := List.getElem_of_mem hr
  have := ledF_get 1 (P.drop 1) k
  rw [List.getElem?_eq_getElem hk, e] at this
  rw [ledF_len] at hk
  rw [List.getElem?_eq_getElem hk] at this
  cases this
  exact trim_idem _
theorem PB.led {P : Pol} {M N : Nat} (h : PB M P) (hl : P.length ≤ N) : PB (N * M) (LW.led P) := PB.trimP fun r hr => by
  obtain ⟨k, hk, e⟩ := List.getElem_of_mem hr
  have := ledF_get 1 (P.drop 1) k
  rw [List.getElem?_eq_getElem hk, e] at this
  rw [ledF_len] at hk
  rw [List.getElem?_eq_getElem hk] at this
  cases this
  refine BM.trim fun x hx => ?_
  obtain ⟨y, hy, rfl⟩ := List.mem_map.mp hx
  rw [List.length_drop] at hk
  show (((1 + k : Nat) : Int) * y).natAbs ≤ N * M
  rw [Int.natAbs_mul]
  exact Nat.mul_le_mul (by omega) (h _ (List.mem_of_mem_drop (List.getElem_mem _)) y hy)
theorem PL.led {P : Pol} {n : Nat} (h : PL n P) : PL n (LW.led P) := PL.trimP fun r hr => by
  obtain ⟨k, hk, e⟩ := List.getElem_of_mem hr
  have := ledF_get 1 (P.drop 1) k
  rw [List.getElem?_eq_getElem hk, e] at this
  rw [ledF_len] at hk
  rw [List.getElem?_eq_getElem hk] at this
  cases this
  have := trim_len ((P.drop 1)[k].map (((1 + k : Nat) : Int) * ·))
  rw [List.length_map] at this
  exact Nat.le_trans this (h _ (List.mem_of_mem_drop (List.getElem_mem _)))
theorem led_len (P : Pol) : (led P).length ≤ P.length := by
  unfold led
  have := trimP_len (ledF 1 (P.drop 1))
  rw [ledF_len, List.length_drop] at this
  omega
theorem RB.ev2 {kx ky m n : Nat} {x y : Rat} (hx : RB kx x) (hy : RB ky y) : ∀ {P : Pol}, PB (2 ^ m) P → PL n P → RB (P.length * (n * (kx + m + 1) + ky + 1)) (LW.ev2 x y P)
  | [], _, _ => by simpa [LW.ev2] using RB.zero
  | r :: P, h, l => by
    have h1 := RB.ev2 hx hy (P := P) (fun s hs => h s (List.mem_cons_of_mem _ hs)) (fun s hs => l s (List.mem_cons_of_mem _ hs))
    have h2 := RB.ev hx (h r List.mem_cons_self)
    have h3 : r.length * (kx + m + 1) ≤ n * (kx + m + 1) := Nat.mul_le_mul_right _ (l r List.mem_cons_self)
    refine (h2.add (hy.mul h1)).up ?_
    rw [List.length_cons, Nat.succ_mul]
    omega
end LW
/-! MR6: the least number under fractions. -/
namespace LW
/-- the least whole number that makes fractions whole, step by step -/
def und (qs : List Rat) : Nat := qs.foldl (fun f q => f / Nat.gcd f q.den * q.den) 1
theorem und_snoc (qs : List Rat) (q : Rat) : und (qs ++ [q]) = und qs / Nat.gcd (und qs) q.den * q.den := by
  unfold und
  rw [List.foldl_append]
  rfl
theorem und_le {K : Nat} : ∀ (qs : List Rat), (∀ q ∈ qs, RB K q) → und qs ≤ 2 ^ (qs.length * K) := by
  have gen : ∀ (n : Nat) (qs : List Rat), qs.length = n → (∀ q ∈ qs, RB K q) → und qs ≤ 2 ^ (qs.length * K) := by
    intro n
    induction n with
    | zero => intro qs h _; rw [List.length_eq_zero_iff.mp h]; show 1 ≤ 2 ^ (0 * K); rw [Nat.zero_mul]; exact Nat.le_refl _
    | succ n ih =>
      intro qs h hq
      rcases List.eq_nil_or_concat qs with e | ⟨l, z, e⟩
      · subst e; simp at h
      · rw [List.concat_eq_append] at e
        subst e
        have h1 := ih l (by simpa using h) fun q hq' => hq q (List.mem_append_left _ hq')
        have h2 := (hq z (by simp)).2
        rw [und_snoc, List.length_append, List.length_singleton, Nat.succ_mul, Nat.pow_add]
        exact Nat.mul_le_mul (Nat.le_trans (Nat.div_le_self _ _) h1) h2
  exact fun qs => gen _ qs rfl
theorem und_law (f e : Nat) : f / Nat.gcd f e * e = f * e / Nat.gcd f e := by
  obtain ⟨c, hc⟩ := Nat.gcd_dvd_left f e
  by_cases h0 : Nat.gcd f e = 0
  · rw [h0]; simp
  · have hp : 0 < Nat.gcd f e := Nat.pos_of_ne_zero h0
    rw [Nat.mul_comm f e, Nat.mul_div_assoc e (Nat.gcd_dvd_left f e), Nat.mul_comm]
def vals (P : Pol) (x : Rat) : List Rat := P.map (ev x)
/-- the row of the values, cleared -/
def clr (P : Pol) (x : Rat) : List Int := (vals P x).map fun q => q.num * ((und (vals P x) : Int) / (q.den : Int))
theorem vals_RB {P : Pol} {x : Rat} {k m n : Nat} (hx : RB k x) (hP : PB (2 ^ m) P) (hl : PL n P) : ∀ q ∈ vals P x, RB (n * (k + m + 1)) q := by
  intro q hq
  obtain ⟨r, hr, rfl⟩ := List.mem_map.mp hq
  exact (hx.ev (hP r hr)).up (Nat.mul_le_mul_right _ (hl r hr))
theorem clr_BM {P : Pol} {x : Rat} {K : Nat} (h : ∀ q ∈ vals P x, RB K q) : BM (2 ^ (K + P.length * K)) (clr P x) := by
  intro y hy
  obtain ⟨q, hq, rfl⟩ := List.mem_map.mp hy
  have h1 := und_le _ h
  unfold vals at h1
  rw [List.length_map] at h1
  have h2 := (h q hq).1
  have h3 : ((und (vals P x) : Int) / (q.den : Int)).natAbs ≤ und (vals P x) := by
    have := Int.natAbs_ediv_le_natAbs (und (vals P x) : Int) (q.den : Int)
    simpa using this
  show (q.num * ((und (vals P x) : Int) / (q.den : Int))).natAbs ≤ _
  rw [Int.natAbs_mul, Nat.pow_add]
  exact Nat.mul_le_mul h2 (Nat.le_trans h3 h1)
end LW
namespace LW
open PySem PySem.Spec TL
open L2 (atI ixN)
variable [TabN] [ClsN]
def Li (xs : List Int) : List PyData := xs.map PyData.int
@[simp] theorem Li_len {xs : List Int} : (Li xs).length = xs.length := List.length_map _
theorem Li_get {xs : List Int} {n : Nat} : (Li xs)[n]? = xs[n]?.map PyData.int := List.getElem?_map ..
@[simp] theorem Li_one {x : Int} : Li [x] = [.int x] := rfl
theorem Li_app {a b : List Int} : Li (a ++ b) = Li a ++ Li b := List.map_append
theorem Li_empty {xs : List Int} : (Li xs).isEmpty = xs.isEmpty := by cases xs <;> rfl
theorem Li_mem {xs : List Int} {y : PyData} (h : y ∈ Li xs) : ∃ x ∈ xs, y = .int x := by
  obtain ⟨x, hx, rfl⟩ := List.mem_map.mp h
  exact ⟨x, hx, rfl⟩
abbrev Rw' (xs : List Int) : PyData := .tuple (Li xs)
def Lp (P : Pol) : List PyData := P.map Rw'
@[simp] theorem Lp_len {P : Pol} : (Lp P).length = P.length := List.length_map _
theorem Lp_get {P : Pol} {n : Nat} : (Lp P)[n]? = P[n]?.map Rw' := List.getElem?_map ..
theorem Lp_empty {P : Pol} : (Lp P).isEmpty = P.isEmpty := by cases P <;> rfl
theorem Lp_mem {P : Pol} {y : PyData} (h : y ∈ Lp P) : ∃ x ∈ P, y = Rw' x := by
  obtain ⟨x, hx, rfl⟩ := List.mem_map.mp h
  exact ⟨x, hx, rfl⟩
abbrev Pl (P : Pol) : PyData := .tuple (Lp P)
def Fq (q : Rat) : PyData := .tuple [.int q.num, .int (q.den : Int)]
theorem cut_take {β : Type} {xs : List β} {n : Nat} (h : n ≤ xs.length) : cutL xs none (some (n : Int)) = xs.take n := by
  unfold cutL
  rw [show HT.sIx xs.length 0 none = 0 from rfl, show HT.sIx xs.length xs.length (some (n : Int)) = min n xs.length from HT.sIx_nat xs.length xs.length n]
  rw [List.drop_zero, Nat.sub_zero, Nat.min_eq_left h]
/-- a list or a tuple -/
def SqD (μ : Mu) (w : Wv) (xs : List PyData) : Prop := dataOf μ w = some (.list xs) ∨ dataOf μ w = some (.tuple xs)
theorem sqd_len {μ : Mu} {w : Wv} {xs : List PyData} (h : SqD μ w xs) : gLen [w] μ = .ok (.d (.int xs.length)) μ := by
  rcases h with h | h <;> (unfold gLen; simp only [h] <;> rfl)
theorem sqd_ix {μ : Mu} {w : Wv} {xs : List PyData} (h : SqD μ w xs) {n : Nat} {x : PyData} (hn : xs[n]? = some x) : gIx w (.d (.int n)) μ = .ok (.d x) μ := by
  have e : atI xs (n : Int) = some x := at_n hn
  rcases h with h | h <;> (unfold gIx; simp only [h, e])
theorem sqd_take {μ : Mu} {w : Wv} {xs : List PyData} (h : SqD μ w xs) {n : Nat} (hn : n ≤ xs.length) : ∃ u, gSl w none (some (n : Int)) μ = .ok u μ ∧ gTuple [u] μ = .ok (.d (.tuple (xs.take n))) μ := by
  have e : cutL xs none (some (n : Int)) = xs.take n := cut_take hn
  rcases h with h | h
  · refine ⟨.d (.list (xs.take n)), ?_, rfl⟩
    unfold gSl
    simp only [h, e] <;> rfl
  · refine ⟨.d (.tuple (xs.take n)), ?_, rfl⟩
    unfold gSl
    simp only [h, e] <;> rfl
theorem sqd_list {μ : Mu} {w : Wv} {xs : List PyData} (h : SqD μ w xs) : gList [w] μ = .ok xs μ := by
  rcases h with h | h <;> (unfold gList; simp only [h])
theorem sqd_it {ρ : Rho} {μ : Mu} {f : Ev} {xs : List PyData} {x : PyData} (h : f ρ μ = .ok (.d x) μ) (hx : x = .list xs ∨ x = .tuple xs) : iAny f ρ μ = .ok ⟨xs, []⟩ μ := by
  rw [x_iany, h]
  rcases hx with rfl | rfl <;> rfl
theorem bits_le {i : Int} {n : Nat} (h : i.natAbs < 2 ^ n) : Builtin.Int.intBits i ≤ n + 1 := by
  unfold Builtin.Int.intBits
  split
  · omega
  · by_cases h0 : i.natAbs = 0
    · rw [h0]
      simp
    · have := (Nat.log2_lt h0).mpr h
      omega
/-- small enough for products and quotients -/
def Sml (x : Int) : Prop := x.natAbs < 2 ^ 8000
def Sm (xs : List Int) : Prop := ∀ x ∈ xs, Sml x
theorem Sml.of {x : Int} {k : Nat} (h : x.natAbs ≤ 2 ^ k) (hk : k ≤ 7900) : Sml x := Nat.lt_of_le_of_lt h (Nat.pow_lt_pow_right (by omega) (by omega))
theorem BM.sm {a : List Int} {M k : Nat} (h : BM M a) (hM : M ≤ 2 ^ k) (hk : k ≤ 7900) : Sm a := fun x hx => .of (Nat.le_trans (h x hx) hM) hk
theorem w_times {μ : Mu} {i j : Int} (h1 : Sml i) (h2 : Sml j) : gTimes (.d (.int i)) (.d (.int j)) μ = .ok (.d (.int (i * j))) μ := by
  show (if mulOk i j = true then Out.ok (wI (i * j)) μ else Out.bad) = _
  rw [if_pos]
  unfold mulOk
  have a := bits_le h1
  have b := bits_le h2
  exact @decide_eq_true _ (Classical.propDecidable _) (by omega)
theorem w_nolong {i j : Int} (h : 0 < j) (h2 : Sml j) : Builtin.divisionGoesByPylong i j = false := by
  unfold Builtin.divisionGoesByPylong
  have hj : (j == 0) = false := by
    rw [beq_eq_false_iff_ne]
    omega
  have hl : j.natAbs.log2 < 8000 := (Nat.log2_lt (by omega)).mpr h2
  simp only [hj]
  have : ¬ (j.natAbs.log2 / 30 + 1 > 300) := by omega
  simp [this]
theorem w_div {μ : Mu} {i j : Int} (h : 0 < j) (h2 : Sml j) : gDiv (.d (.int i)) (.d (.int j)) μ = .ok (.d (.int (i / j))) μ := by
  show (if j = 0 ∨ Builtin.divisionGoesByPylong i j = true then Out.bad else Out.ok (wI (i.fdiv j)) μ) = _
  rw [if_neg, Int.fdiv_eq_ediv_of_nonneg _ (by omega)]
  · rw [w_nolong h h2]
    simp
    omega
theorem lc_ints {g : Int → Int} {it : TL.Iv} {xs : List Int} {i : Nat} {e : Ev} {ρ : Rho} {μ μ1 : Mu} (hit : it ρ μ = .ok ⟨Li xs, []⟩ μ1) (hl : xs.length ≤ 16777216)
    (he : ∀ x ∈ xs, e ((ρ.set i none).set i (some (.d (.int x)))) μ1 = .ok (.d (.int (g x))) μ1) : lLc it (gNm i) bYes e [i] ρ μ = .ok (Li (xs.map g)) μ1 := by
  have z : (Li xs).map (fun x => match x with | .int a => PyData.int (g a) | y => y) = Li (xs.map g) := by
    unfold Li
    rw [List.map_map, List.map_map]
    rfl
  rw [← z]
  refine lc_map (g := fun x => match x with | .int a => PyData.int (g a) | y => y) hit (by rw [Li_len]; exact hl) fun y hy => ?_
  obtain ⟨x, hx, rfl⟩ := Li_mem hy
  exact he x hx
/-- .. any function on a mapped list -/
theorem lc_of {A : Type} {f : A → PyData} {g : A → PyData} {it : TL.Iv} {xs : List A} {i : Nat} {e : Ev} {ρ : Rho} {μ μ1 : Mu} (hit : it ρ μ = .ok ⟨xs.map f, []⟩ μ1) (hl : xs.length ≤ 16777216)
    (he : ∀ x ∈ xs, e ((ρ.set i none).set i (some (.d (f x)))) μ1 = .ok (.d (g x)) μ1) : lLc it (gNm i) bYes e [i] ρ μ = .ok (xs.map g) μ1 := by
  refine lcT_eq hit (by rw [List.length_map]; exact hl) (by rw [List.length_map, List.length_map]) fun k x z hx hz => ?_
  rw [List.getElem?_map] at hx hz
  cases hk : xs[k]? with
  | none => rw [hk] at hx; cases hx
  | some a =>
    rw [hk] at hx hz
    cases hx
    cases hz
    refine ⟨_, rfl, ?_⟩
    have := he a (List.mem_of_getElem? hk)
    exact this
theorem asg_ok {f : Ev} {i : Nat} {ρ : Rho} {μ μ' : Mu} {w : Wv} (h : f ρ μ = .ok w μ') : sAsg f (gNm i) ρ μ = .ok (.nx (ρ.set i (some w))) μ' := by
  rw [x_asg, h]
  rfl
theorem seq_ok {a b : Sv} {ρ ρ' : Rho} {μ μ' : Mu} (h : a ρ μ = .ok (.nx ρ') μ') : sSeq a b ρ μ = b ρ' μ' := by
  rw [x_seq, h]
  rfl
theorem run_rt {n : Nat} {b : Sv} {ws : List Wv} {μ μ' : Mu} {x : PyData} (h : b (initR n ws) μ = .ok (.rt (.d x)) μ') : runD n b ws μ = .ok (.d x) (μ'.take μ.length) := by
  unfold runD
  rw [h]
  rfl
theorem intL_at {lo : Int} {n k : Nat} (h : k < n) : (intL lo n 1)[k]? = some (.int (lo + k)) := by
  unfold intL
  rw [List.getElem?_map, List.getElem?_range h]
  simp
theorem nat_abs_int (a : Int) : (if a < 0 then -a else a) = (a.natAbs : Int) := by split <;> omega
theorem max_two {μ : Mu} {a b : Nat} : gMax [.d (.int a), .d (.int b)] μ = .ok (.d (.int ((max a b : Nat) : Int))) μ := by
  show Out.ok (wI (if (b : Int) > (a : Int) then (b : Int) else (a : Int))) μ = _
  have : (if (b : Int) > (a : Int) then (b : Int) else (a : Int)) = ((max a b : Nat) : Int) := by split <;> omega
  rw [this] <;> rfl
theorem v_slt' {μ : Mu} {xs : List PyData} {lo hi : Option Int} : gSl (.d (.tuple xs)) lo hi μ = .ok (.d (.tuple (cutL xs lo hi))) μ := rfl
end LW
namespace LW
open PySem PySem.Spec TL
open L2 (atI ixN)
variable [TabN] [ClsN]
/-- may be shown: N parts, D deep -/
structure Shb (N D : Nat) (x : PyData) : Prop where
  sh : x.showable = true
  ls : x.leavesShort 1921 = true
  w : x.bulk ≤ N
  d : x.depth ≤ D
  nd : x.hasDict = false
structure ShbAll (N D : Nat) (xs : List PyData) : Prop where
  sh : PyData.showableAll xs = true
  ls : PyData.leavesShortAll 1921 xs = true
  w : PyData.bulkAll xs ≤ N
  d : PyData.depthAll xs ≤ D
  nd : PyData.hasDictAll xs = false
theorem Shb.ok {N D : Nat} {x : PyData} (h : Shb N D x) (hN : N ≤ 8000) (hD : D ≤ 60) : reprOk x = true := by
  have h1 := PyData.shown_le_bulk 1921 (by omega) x h.ls
  have h2 : (1921 + 2) * x.bulk ≤ 1923 * 8000 := Nat.mul_le_mul_left _ (Nat.le_trans h.w hN)
  unfold reprOk
  rw [h.sh, h.nd, decide_eq_true (show x.shown.length ≤ 16777216 by omega), decide_eq_true (show x.depth ≤ 60 from Nat.le_trans h.d hD)]
  rfl
theorem Shb.repr {N D : Nat} {x : PyData} {μ : Mu} (h : Shb N D x) (hN : N ≤ 8000) (hD : D ≤ 60) : gRepr [.d x] μ = .ok (.d (.str x.shown)) μ := by
  show (if reprOk x = true then Out.ok (wS x.shown) μ else Out.bad) = _
  rw [if_pos (h.ok hN hD)]
theorem Shb.reprC {N D : Nat} {xs : List PyData} {μ : Mu} {k : Nat} (h : Shb N D (.list xs)) (hN : N ≤ 8000) (hD : D ≤ 60) (hk : μ[k]? = some (some xs)) : gRepr [.r k] μ = .ok (.d (.str (PyData.list xs).shown)) μ := by
  show (match dataOf μ (.r k) with
    | some x => if reprOk x = true then Out.ok (wS x.shown) μ else .bad
    | none => .bad) = _
  rw [x_dr hk]
  show (if reprOk (.list xs) = true then Out.ok (wS (PyData.list xs).shown) μ else Out.bad) = _
  rw [if_pos (h.ok hN hD)]
theorem ShbAll.nil {N D : Nat} : ShbAll N D [] := ⟨rfl, rfl, Nat.zero_le _, Nat.zero_le _, rfl⟩
theorem ShbAll.cons {N D N2 : Nat} {x : PyData} {xs : List PyData} (h : Shb N D x) (t : ShbAll N2 D xs) : ShbAll (N + 1 + N2) D (x :: xs) := by
  refine ⟨?_, ?_, ?_, ?_, ?_⟩
  · simp [PyData.showableAll, h.sh, t.sh]
  · simp [PyData.leavesShortAll, h.ls, t.ls]
  · have := h.w
    have := t.w
    simp only [PyData.bulkAll]
    omega
  · have := h.d
    have := t.d
    simp only [PyData.depthAll]
    omega
  · simp [PyData.hasDictAll, h.nd, t.nd]
theorem ShbAll.of {N D : Nat} : ∀ {xs : List PyData}, (∀ x ∈ xs, Shb N D x) → ShbAll (xs.length * (N + 1)) D xs
  | [], _ => .nil
  | x :: xs, h => by
    have := ShbAll.cons (h x List.mem_cons_self) (ShbAll.of fun y hy => h y (List.mem_cons_of_mem _ hy))
    rw [List.length_cons, Nat.succ_mul]
    rwa [Nat.add_comm (N + 1)] at this
theorem Shb.list {N D : Nat} {xs : List PyData} (t : ShbAll N D xs) : Shb N (D + 1) (.list xs) := by
  refine ⟨t.sh, t.ls, ?_, ?_, t.nd⟩
  · simp only [PyData.bulk]
    exact t.w
  · have := t.d
    simp only [PyData.depth]
    omega
theorem Shb.tuple {N D : Nat} {xs : List PyData} (t : ShbAll N D xs) : Shb N (D + 1) (.tuple xs) := by
  refine ⟨t.sh, t.ls, ?_, ?_, t.nd⟩
  · simp only [PyData.bulk]
    exact t.w
  · have := t.d
    simp only [PyData.depth]
    omega
theorem Shb.up {N D N2 D2 : Nat} {x : PyData} (h : Shb N D x) (hN : N ≤ N2) (hD : D ≤ D2) : Shb N2 D2 x := ⟨h.sh, h.ls, Nat.le_trans h.w hN, Nat.le_trans h.d hD, h.nd⟩
theorem ShbAll.up {N D N2 D2 : Nat} {x : List PyData} (h : ShbAll N D x) (hN : N ≤ N2) (hD : D ≤ D2) : ShbAll N2 D2 x := ⟨h.sh, h.ls, Nat.le_trans h.w hN, Nat.le_trans h.d hD, h.nd⟩
theorem Shb.bool {b : Bool} : Shb 0 0 (.bool b) := ⟨rfl, rfl, Nat.le_refl _, Nat.le_refl _, rfl⟩
theorem Shb.none : Shb 0 0 .none := ⟨rfl, rfl, Nat.le_refl _, Nat.le_refl _, rfl⟩
theorem Shb.int {i : Int} (h : i.natAbs < 2 ^ 1920) : Shb 0 0 (.int i) := by
  have hl2 : i.natAbs.log2 < 1920 := by
    by_cases hz : i.natAbs = 0
    · rw [hz]
      decide
    · exact (Nat.log2_lt hz).mpr h
  refine ⟨by simp [PyData.showable, hl2], ?_, Nat.le_refl _, Nat.le_refl _, rfl⟩
  simp only [PyData.leavesShort, decide_eq_true_eq]
  exact PyProof.Rows.int_text_len_1921 hl2
theorem Shb.row {a : List Int} {M k n : Nat} (h : BM M a) (hM : M ≤ 2 ^ k) (hk : k ≤ 1915) (hn : a.length ≤ n) : Shb n 1 (Rw' a) := by
  have := ShbAll.of (N := 0) (D := 0) (xs := Li a) fun x hx => by
    obtain ⟨i, hi, rfl⟩ := Li_mem hx
    exact Shb.int (Nat.lt_of_le_of_lt (Nat.le_trans (h i hi) hM) (Nat.pow_lt_pow_right (by omega) (by omega)))
  rw [Li_len] at this
  exact (Shb.tuple this).up (by omega) (by omega)
theorem Shb.pol {P : Pol} {M k l n : Nat} (h : PB M P) (hM : M ≤ 2 ^ k) (hk : k ≤ 1915) (hn : PL n P) (hl : P.length ≤ l) : Shb (l * (n + 1)) 2 (Pl P) := by
  have := ShbAll.of (N := n) (D := 1) (xs := Lp P) fun x hx => by
    obtain ⟨r, hr, rfl⟩ := Lp_mem hx
    exact Shb.row (h r hr) hM hk (hn r hr)
  rw [Lp_len] at this
  exact (Shb.tuple this).up (Nat.mul_le_mul_right _ hl) (by omega)
theorem Shb.frac {q : Rat} {k : Nat} (h : RB k q) (hk : k ≤ 1915) : Shb 2 1 (Fq q) := by
  have i1 : q.num.natAbs < 2 ^ 1920 := Nat.lt_of_le_of_lt h.1 (Nat.pow_lt_pow_right (by omega) (by omega))
  have i2 : ((q.den : Nat) : Int).natAbs < 2 ^ 1920 := by
    rw [Int.natAbs_natCast]
    exact Nat.lt_of_le_of_lt h.2 (Nat.pow_lt_pow_right (by omega) (by omega))
  exact (Shb.tuple (ShbAll.cons (Shb.int i1) (ShbAll.cons (Shb.int i2) (ShbAll.nil (N := 0))))).up (by omega) (by omega)
end LW
namespace LW
open PySem PySem.Spec TL
open L2 (atI ixN)
variable [TabN] [ClsN]
/-- a comprehension that leaves out -/
theorem loopC_filter {p : PyData → Bool} {xs0 : Cell} {i : Nat} {c : Bv} {e : Ev} {ρ : Rho} {μ : Mu} (hi : ∀ x, e (ρ.set i (some (.d x))) μ = .ok (.d x) μ) : ∀ (xs acc : Cell), acc.length + xs.length ≤ 16777216 → (∀ x ∈ xs, c (ρ.set i (some (.d x))) μ = .ok (p x) μ) →
    loopC ⟨xs0, []⟩ (gNm i) c e ρ xs acc μ = .ok (acc ++ xs.filter p) μ
  | [], acc, _, _ => by
    unfold loopC
    rw [if_pos tied_nil, List.filter_nil, List.append_nil]
  | x :: xs, acc, hl, hc => by
    rw [List.length_cons] at hl
    unfold loopC
    rw [if_pos tied_nil]
    simp only [x_nm, x_calm, Out.bind_ok, hc x List.mem_cons_self, hi]
    cases hp : p x with
    | true =>
      rw [if_pos rfl]
      unfold lcPut
      simp only [x_calm, Out.bind_ok]
      rw [if_pos (by omega)]
      simp only [Out.bind_ok]
      rw [loopC_filter hi xs _ (by rw [List.length_append, List.length_singleton]; omega) fun y hy => hc y (List.mem_cons_of_mem _ hy), List.filter_cons, hp, if_pos rfl, List.append_assoc, List.singleton_append]
    | false =>
      rw [if_neg (by decide), loopC_filter hi xs _ (by omega) fun y hy => hc y (List.mem_cons_of_mem _ hy), List.filter_cons, hp, if_neg (by decide)]
theorem lc_filter {p : PyData → Bool} {it : TL.Iv} {xs : Cell} {i : Nat} {c : Bv} {e : Ev} {ρ : Rho} {μ μ1 : Mu} (hit : it ρ μ = .ok ⟨xs, []⟩ μ1) (hl : xs.length ≤ 16777216) (hi : ∀ x, e ((ρ.set i none).set i (some (.d x))) μ1 = .ok (.d x) μ1)
    (hc : ∀ x ∈ xs, c ((ρ.set i none).set i (some (.d x))) μ1 = .ok (p x) μ1) : lLc it (gNm i) c e [i] ρ μ = .ok (xs.filter p) μ1 := by
  have := loopC_filter (p := p) (xs0 := xs) (i := i) (c := c) (e := e) (ρ := ρ.set i none) (μ := μ1) hi xs [] (by simpa using hl) hc
  rw [List.nil_append] at this
  show (it ρ μ).bind (fun i1 μ1 => loopC i1 (gNm i) c e (wipeR ρ [i]) i1.xs [] μ1) = _
  rw [hit]
  exact this
/-- short loops -/
theorem for_nil {it : TL.Iv} {t : Gv} {b : Sv} {ρ : Rho} {μ μ1 : Mu} (hit : it ρ μ = .ok ⟨[], []⟩ μ1) : sFor it t b ρ μ = .ok (.nx ρ) μ1 := by
  unfold sFor
  rw [hit]
  show loopF _ _ _ _ _ _ = _
  unfold loopF
  rw [if_pos tied_nil]
theorem for_one {it : TL.Iv} {i : Nat} {b : Sv} {ρ ρ' : Rho} {μ μ1 μ2 : Mu} {x : PyData} (hit : it ρ μ = .ok ⟨[x], []⟩ μ1) (hb : b (ρ.set i (some (.d x))) μ1 = .ok (.nx ρ') μ2) : sFor it (gNm i) b ρ μ = .ok (.nx ρ') μ2 := by
  unfold sFor
  rw [hit]
  show loopF _ _ _ _ _ _ = _
  unfold loopF
  rw [if_pos tied_nil]
  simp only [x_nm, x_calm, Out.bind_ok, hb]
  unfold loopF
  rw [if_pos tied_nil]
theorem for_two {it : TL.Iv} {i : Nat} {b : Sv} {ρ ρ1 ρ' : Rho} {μ μ1 μ2 μ3 : Mu} {x y : PyData} (hit : it ρ μ = .ok ⟨[x, y], []⟩ μ1) (h1 : b (ρ.set i (some (.d x))) μ1 = .ok (.nx ρ1) μ2) (h2 : b (ρ1.set i (some (.d y))) μ2 = .ok (.nx ρ') μ3) : sFor it (gNm i) b ρ μ = .ok (.nx ρ') μ3 := by
  unfold sFor
  rw [hit]
  show loopF _ _ _ _ _ _ = _
  unfold loopF
  rw [if_pos tied_nil]
  simp only [x_nm, x_calm, Out.bind_ok, h1]
  unfold loopF
  rw [if_pos tied_nil]
  simp only [x_nm, x_calm, Out.bind_ok, h2]
  unfold loopF
  rw [if_pos tied_nil]
theorem g_inS {neg : Bool} {x : PyData} {ys : List PyData} {μ : Mu} (hx : SeqAt.shaped x = true) (hy : SeqAt.shaped (.tuple ys) = true) : gIn neg (.d x) (.d (.tuple ys)) μ = .ok (.d (.bool (if neg then !(ys.any fun z => PyData.eqv z x) else ys.any fun z => PyData.eqv z x))) μ := by
  have e : inP x (.tuple ys) = some (ys.any fun z => PyData.eqv z x) := by
    have : inP x (.tuple ys) = if SeqAt.shaped x = true ∧ SeqAt.shaped (.tuple ys) = true then some (ys.any fun z => PyData.eqv z x) else none := by cases x <;> rfl
    rw [this, if_pos ⟨hx, hy⟩]
  show (match dataOf μ (.d x), dataOf μ (.d (.tuple ys)) with
    | some x, some y => match inP x y with
      | some c => Out.ok (wBl (if neg then !c else c)) μ
      | none => .bad
    | _, _ => .bad) = _
  simp only [x_dd, e]
theorem g_inL {neg : Bool} {x : PyData} {ys : List PyData} {μ : Mu} (hx : SeqAt.shaped x = true) (hy : SeqAt.shaped (.tuple ys) = true) : gIn neg (.d x) (.d (.list ys)) μ = .ok (.d (.bool (if neg then !(ys.any fun z => PyData.eqv z x) else ys.any fun z => PyData.eqv z x))) μ := by
  have e : inP x (.list ys) = some (ys.any fun z => PyData.eqv z x) := by
    have : inP x (.list ys) = if SeqAt.shaped x = true ∧ SeqAt.shaped (.list ys) = true then some (ys.any fun z => PyData.eqv z x) else none := by cases x <;> rfl
    rw [this, if_pos ⟨hx, hy⟩]
  show (match dataOf μ (.d x), dataOf μ (.d (.list ys)) with
    | some x, some y => match inP x y with
      | some c => Out.ok (wBl (if neg then !c else c)) μ
      | none => .bad
    | _, _ => .bad) = _
  simp only [x_dd, e]
end LW
namespace LW
open PySem PySem.Spec TL
open L2 (atI ixN)
variable [TabN] [ClsN]
theorem t_common {μ : Mu} {a b : Int} : f_law_common [.d (.int a), .d (.int b)] μ = .ok (.d (.int (Nat.gcd a.natAbs b.natAbs : Nat))) μ := by
  have main : ∃ ρ' μ', sWhile (tB' (e2 (gEq true) (eVar 3) (eK (.int 0)))) (sPar 2 3 (aCons (eVar 3) (aCons (e2 gMod (en gInt (aCons (eVar 2) aNil)) (eVar 3)) aNil))) [some (.d (.int a)), some (.d (.int b)), some (.d (.int (a.natAbs : Int))), some (.d (.int (b.natAbs : Int)))] μ = .ok (.nx ρ') μ' ∧
      μ' = μ ∧ ρ' = [some (.d (.int a)), some (.d (.int b)), some (.d (.int (Nat.gcd a.natAbs b.natAbs : Nat))), some (.d (.int 0))] := by
    refine wh_run (fun n ρ' μ' => μ' = μ ∧ ∃ x y : Nat, ρ' = [some (.d (.int a)), some (.d (.int b)), some (.d (.int x)), some (.d (.int y))] ∧ n = y ∧ Nat.gcd x y = Nat.gcd a.natAbs b.natAbs) _ b.natAbs ⟨rfl, _, _, rfl, rfl, rfl⟩ ?_
    rintro n ρ' μ' ⟨rfl, x, y, rfl, rfl, hg⟩
    by_cases hy : n = 0
    · subst hy
      refine ⟨false, μ', by simp, .inl ⟨rfl, rfl, ?_⟩⟩
      rw [← hg]
      simp
    · have hp : 0 < n := Nat.pos_of_ne_zero hy
      have hm := TL.v_mod (μ := μ') (i := (x : Int)) (j := (n : Int)) (by omega)
      have em : ((x : Int) % (n : Int)) = ((x % n : Nat) : Int) := (Int.natCast_emod x n).symm
      rw [em] at hm
      refine ⟨true, μ', by simp [hy], .inr ⟨rfl, [some (.d (.int a)), some (.d (.int b)), some (.d (.int n)), some (.d (.int (x % n : Nat)))], μ', x % n, Nat.mod_lt _ hp, ?_, rfl, n, x % n, rfl, rfl, ?_⟩⟩
      · unfold sPar
        simp only [x_cons, x_v0, x_vs, Out.bind_ok, x_e2, x_en, x_nil, v_int, x_calm, hm, liftO_ok]
        rfl
      · rw [← hg, Nat.gcd_comm x n]
        exact (Nat.gcd_comm _ _).trans (Nat.gcd_rec n x).symm
  obtain ⟨ρ', μ', e, rfl, rfl⟩ := main
  simp [f_law_common, b_law_common, runD, initR, sPar, nat_abs_int]
  rw [e]
  simp
end LW
namespace LW
open PySem PySem.Spec TL
open L2 (atI ixN)
variable [TabN] [ClsN]
/-- the law's own well -/
def Wl (m : Nat) (c : Cell) : Prop := ∃ a b n : Int, c = [.int a, .int b, .int n] ∧ 0 ≤ a ∧ 0 ≤ b ∧ b < 2147483563 ∧ 0 ≤ n ∧ n ≤ m
def DrawP (m : Nat) (many : Int) (x : PyData) (c' : Cell) : Prop := ∃ r, x = .int r ∧ 0 ≤ r ∧ r < many ∧ Wl (m + 1) c'
theorem t_draw0 {μ : Mu} {k m : Nat} {many : Int} {c : Cell} (h : μ[k]? = some (some c)) (w : Wl m c) (hm : m < 1000000000) (h1 : 0 < many) (h2 : many < 1000000000) : Tl μ k (f_law_draw [.r k, .d (.int many)] μ) (DrawP m many) := by
  obtain ⟨a, b, n, rfl, ha, hb, hb2, hn, hn2⟩ := w
  by_cases ha0 : 0 < a
  · simp [f_law_draw, b_law_draw, runD, initR, v_ixr h, v_setc h, ha0, v_divmod h1 (by omega : many < 1000000000000000000)]
    exact ⟨_, rfl, _, rfl, Int.emod_nonneg _ (by omega), Int.emod_lt_of_pos _ h1, _, _, _, rfl, Int.ediv_nonneg ha (by omega), hb, hb2, hn, by omega⟩
  · have h3 : ∀ c1 : Cell, (μ.set k (some c1))[k]? = some (some c1) := fun c1 => get_set h
    simp (disch := omega) [f_law_draw, b_law_draw, runD, initR, v_ixr h, v_setc h, ha0, v_ixr (h3 _), v_setc (h3 _), TL.v_times, TL.v_mod, TL.v_div]
    exact ⟨_, rfl, _, rfl, Int.emod_nonneg _ (by omega), Int.emod_lt_of_pos _ h1, _, _, _, rfl, ha, Int.emod_nonneg _ (by omega), Int.emod_lt_of_pos _ (by omega), by omega, by omega⟩
theorem t_draw {μ : Mu} {k m : Nat} {many : Int} {c : Cell} (h : μ[k]? = some (some c)) (w : Wl m c) (hm : m < 1000000000) (h1 : 0 < many) (h2 : many < 1000000000) :
    ∃ r c', f_law_draw [.r k, .d (.int many)] μ = .ok (.d (.int r)) (μ.set k (some c')) ∧ 0 ≤ r ∧ r < many ∧ Wl (m + 1) c' := by
  obtain ⟨x, c', e, r, rfl, p⟩ := (t_draw0 h w hm h1 h2).ok
  exact ⟨r, c', e, p⟩

theorem Wl.up {m n : Nat} {c : Cell} (w : Wl m c) (h : m ≤ n) : Wl n c := by
  obtain ⟨a, b, i, rfl, q1, q2, q3, q4, q5⟩ := w
  exact ⟨a, b, i, rfl, q1, q2, q3, q4, by omega⟩
theorem t_pick {μ : Mu} {k m : Nat} {xs : List PyData} {c : Cell} (h : μ[k]? = some (some c)) (w : Wl m c) (hm : m < 900000000) (h0 : 0 < xs.length) (h1 : xs.length < 100000) :
    ∃ x c', f_law_pick [.r k, .d (.tuple xs)] μ = .ok (.d x) (μ.set k (some c')) ∧ Wl (m + 1) c' ∧ x ∈ xs := by
  obtain ⟨r, c1, e1, r0, r1, w1⟩ := t_draw (many := xs.length) h w (by omega) (by omega) (by omega)
  obtain ⟨x, e2, hx⟩ := at_nat r0 r1
  exact ⟨x, c1, by simp [f_law_pick, b_law_pick, runD, initR, e1, e2], w1, hx⟩
theorem cut_in {xs : List PyData} {lo hi : Option Int} : (cutL xs lo hi).length ≤ xs.length ∧ ∀ y ∈ cutL xs lo hi, y ∈ xs := by
  unfold cutL
  refine ⟨?_, fun y hy => List.mem_of_mem_drop (List.mem_of_mem_take hy)⟩
  rw [List.length_take, List.length_drop]
  omega
@[simp] theorem v_slt {μ : Mu} {xs : List PyData} {lo hi : Option Int} : gSl (.d (.tuple xs)) lo hi μ = .ok (.d (.tuple (cutL xs lo hi))) μ := rfl
@[simp] theorem v_sll {μ : Mu} {xs : List PyData} {lo hi : Option Int} : gSl (.d (.list xs)) lo hi μ = .ok (.d (.list (cutL xs lo hi))) μ := rfl
@[simp] theorem v_revt {μ : Mu} {xs : List PyData} : gRev (.d (.tuple xs)) μ = .ok (.d (.tuple xs.reverse)) μ := rfl
theorem t_wstep {sc a : Wv} {y v p q : Int} {μ : Mu} (v0 : 0 ≤ v) (v1 : v < 1000000000000) (hp : 0 < p) (hq : 0 < q) :
    (sAsg (e2 gMod (en gInt (aCons (e2 gPlus (e2 gPlus (e2 gTimes (eVar 2) (eK (.int 48023))) (e2 gMod (en gInt (aCons (eVar 3) aNil)) (eK (.int p)))) (eK (.int 5))) aNil)) (eK (.int q))) (gNm 2))
      [some sc, some a, some (.d (.int v)), some (.d (.int y)), none] μ = .ok (.nx [some sc, some a, some (.d (.int ((v * 48023 + y % p + 5) % q))), some (.d (.int y)), none]) μ := by
  simp (disch := omega) [TL.v_times, TL.v_mod]
theorem t_wloop {ns : List Int} {a : Wv} {v p q : Int} {μ : Mu} (v0 : 0 ≤ v) (v1 : v < q) (hp : 0 < p) (hq : 0 < q) (hq2 : q < 1000000000000) : ∃ v' o, sFor (iAny (eSl (eVar 0) none (some (eK (.int 9))))) (gNm 3)
    (sAsg (e2 gMod (en gInt (aCons (e2 gPlus (e2 gPlus (e2 gTimes (eVar 2) (eK (.int 48023))) (e2 gMod (en gInt (aCons (eVar 3) aNil)) (eK (.int p)))) (eK (.int 5))) aNil)) (eK (.int q))) (gNm 2))
    [some (.d (.list (ns.map PyData.int))), some a, some (.d (.int v)), none, none] μ = .ok (.nx [some (.d (.list (ns.map PyData.int))), some a, some (.d (.int v')), o, none]) μ ∧ 0 ≤ v' ∧ v' < q := by
  have main := for_run (it := (iAny (eSl (eVar 0) none (some (eK (.int 9)))))) (xs := cutL (ns.map PyData.int) none (some 9)) (t := gNm 3)
    (b := (sAsg (e2 gMod (en gInt (aCons (e2 gPlus (e2 gPlus (e2 gTimes (eVar 2) (eK (.int 48023))) (e2 gMod (en gInt (aCons (eVar 3) aNil)) (eK (.int p)))) (eK (.int 5))) aNil)) (eK (.int q))) (gNm 2)))
    (ρ := [some (.d (.list (ns.map PyData.int))), some a, some (.d (.int v)), none, none]) (μ := μ) (μ1 := μ)
    (fun _ ρ' μ' => μ' = μ ∧ ∃ v x, ρ' = [some (.d (.list (ns.map PyData.int))), some a, some (.d (.int v)), x, none] ∧ 0 ≤ v ∧ v < q)
    rfl ⟨rfl, _, none, rfl, v0, v1⟩ (fun n x ρ' μ' hx ⟨e0, v, o, e1, v0, v1⟩ => ?_)
  · obtain ⟨ρ', μ', e, rfl, v, o, rfl, v0, v1⟩ := main
    exact ⟨v, o, e, v0, v1⟩
  · subst e0 e1
    have hm := cut_in.2 x (List.mem_of_getElem? hx)
    obtain ⟨y, _, rfl⟩ := List.mem_map.mp hm
    exact ⟨_, _, _, _, rfl, t_wstep v0 (by omega) hp hq, rfl, _, _, rfl, Int.emod_nonneg _ (by omega), Int.emod_lt_of_pos _ hq⟩
theorem t_wown {ns : List Int} {i : Nat} {o2 o3 o4 : Option Wv} {μ : Mu} : ∃ z : Int, (eIf (tB' (e2 (gCmp fun i j => decide (i < j)) (eVar 1) (en gLen (aCons (eVar 0) aNil)))) (en gInt (aCons (e2 gIx (eVar 0) (eVar 1)) aNil)) (eK (.int 0))) [some (.d (.list (ns.map PyData.int))), some (.d (.int i)), o2, o3, o4] μ = .ok (.d (.int z)) μ := by
  by_cases hl : i < ns.length
  · have : atI (ns.map PyData.int) (i : Int) = some (.int ns[i]) := at_n (by rw [List.getElem?_map, List.getElem?_eq_getElem hl]; rfl)
    exact ⟨ns[i], by simp [this, hl]⟩
  · exact ⟨0, by simp [hl]⟩
noncomputable def M_well (p q : Int) : Ev :=
  (e2 gMod (en gInt (aCons (e2 gPlus (e2 gPlus (e2 gTimes (eVar 2) (eK (.int 43))) (e2 gTimes (e2 gMod (en gInt (aCons (eVar 4) aNil)) (eK (.int p))) (eK (.int 20047)))) (eK (.int 13))) aNil)) (eK (.int q)))
noncomputable def U_well : Sv :=
  (sRet (eNew (lDisp (aCons (eIf (bOr (tB' (e2 (gCmp fun i j => decide (i < j)) (eVar 4) (eK (.int 0)))) (tB' (e2 (gCmp fun i j => decide (j ≤ i)) (eVar 4) (e2 gPow (eK (.int 10)) (eK (.int 14)))))) (en gAbs (aCons (eVar 4) aNil)) (eK (.int 0))) (aCons (eVar 2) (aCons (eK (.int 0)) aNil))))))
theorem t_wmix {sc a : Wv} {v z p q : Int} {o o4 : Option Wv} {μ : Mu} (v0 : 0 ≤ v) (v1 : v < 1000000000000) (hp : 0 < p) (hp2 : p < 1000000000000) (hq : 0 < q) :
    sAsg (M_well p q) (gNm 2) [some sc, some a, some (.d (.int v)), o, some (.d (.int z))] μ = .ok (.nx [some sc, some a, some (.d (.int ((v * 43 + z % p * 20047 + 13) % q))), o, some (.d (.int z))]) μ := by
  have h1 := Int.emod_nonneg z (show p ≠ 0 by omega)
  have h2 := Int.emod_lt_of_pos z hp
  simp (disch := omega) [M_well, TL.v_times, TL.v_mod]
theorem t_wret {sc a : Wv} {v z : Int} {o : Option Wv} {μ : Mu} : U_well [some sc, some a, some (.d (.int v)), o, some (.d (.int z))] μ = .ok (.rt (.r μ.length)) (μ ++ [some [.int (if z < 0 ∨ 10 ^ 14 ≤ z then (if z < 0 then -z else z) else 0), .int v, .int 0]]) := by
  have p : gPow (.d (.int 10)) (.d (.int 14)) μ = .ok (.d (.int (10 ^ 14))) μ := rfl
  generalize (10 : Int) ^ 14 = big at p ⊢
  by_cases hz : z < 0
  · simp [-v_pow, U_well, hz, p]
  · by_cases hz2 : big ≤ z
    · simp [-v_pow, U_well, hz, hz2, p]
    · simp [-v_pow, U_well, hz, hz2, p]
theorem well_is : b_law_well = sSeq (sAsg (e2 gPlus (eK (.int 731071)) (e2 gTimes (eK (.int 7457)) (eVar 1))) (gNm 2)) (sSeq (sFor (iAny (eSl (eVar 0) none (some (eK (.int 9))))) (gNm 3) (sAsg (e2 gMod (en gInt (aCons (e2 gPlus (e2 gPlus (e2 gTimes (eVar 2) (eK (.int 48023))) (e2 gMod (en gInt (aCons (eVar 3) aNil)) (eK (.int 2147483629)))) (eK (.int 5))) aNil)) (eK (.int 2147483563))) (gNm 2))) (sSeq (sAsg (eIf (tB' (e2 (gCmp fun i j => decide (i < j)) (eVar 1) (en gLen (aCons (eVar 0) aNil)))) (en gInt (aCons (e2 gIx (eVar 0) (eVar 1)) aNil)) (eK (.int 0))) (gNm 4)) (sSeq (sAsg (M_well 2147483629 2147483563) (gNm 2)) U_well))) := rfl
theorem t_well {ns : List Int} {i : Nat} {μ : Mu} (hi : i ≤ 100) : ∃ c, f_law_well [.d (.list (ns.map PyData.int)), .d (.int i)] μ = .ok (.r μ.length) (μ ++ [some c]) ∧ Wl 0 c := by
  have t1 := TL.v_times (μ := μ) (i := 7457) (j := i) (by omega) (by omega) (by omega) (by omega)
  obtain ⟨v, o, e, v0, v1⟩ := t_wloop (ns := ns) (a := .d (.int i)) (v := 731071 + 7457 * i) (p := 2147483629) (q := 2147483563) (μ := μ) (by omega) (by omega) (by omega) (by omega) (by omega)
  obtain ⟨z, ez⟩ := t_wown (ns := ns) (i := i) (o2 := some (.d (.int v))) (o3 := o) (o4 := none) (μ := μ)
  have em := t_wmix (sc := .d (.list (ns.map PyData.int))) (a := .d (.int i)) (v := v) (z := z) (p := 2147483629) (q := 2147483563) (o := o) (o4 := none) (μ := μ) v0 (by omega) (by omega) (by omega) (by omega)
  have er := t_wret (sc := .d (.list (ns.map PyData.int))) (a := .d (.int i)) (v := (v * 43 + z % 2147483629 * 20047 + 13) % 2147483563) (z := z) (o := o) (μ := μ)
  have q : b_law_well [some (.d (.list (ns.map PyData.int))), some (.d (.int i)), none, none, none] μ = .ok (.rt (.r μ.length)) (μ ++ [some [.int (if z < 0 ∨ 10 ^ 14 ≤ z then (if z < 0 then -z else z) else 0), .int ((v * 43 + z % 2147483629 * 20047 + 13) % 2147483563), .int 0]]) := by
    rw [well_is, seq_ok (asg_ok (w := .d (.int (731071 + 7457 * i))) (μ' := μ) (by simp [t1]))]
    show sSeq _ _ [some (.d (.list (ns.map PyData.int))), some (.d (.int i)), some (.d (.int (731071 + 7457 * i))), none, none] μ = _
    rw [seq_ok e, seq_ok (asg_ok ez)]
    show sSeq _ _ [some (.d (.list (ns.map PyData.int))), some (.d (.int i)), some (.d (.int v)), o, some (.d (.int z))] μ = _
    rw [seq_ok em]
    exact er
  have q2 : f_law_well [.d (.list (ns.map PyData.int)), .d (.int i)] μ = .ok (.r μ.length) (μ ++ [some [.int (if z < 0 ∨ 10 ^ 14 ≤ z then (if z < 0 then -z else z) else 0), .int ((v * 43 + z % 2147483629 * 20047 + 13) % 2147483563), .int 0]]) := by
    show (match b_law_well [some (.d (.list (ns.map PyData.int))), some (.d (.int i)), none, none, none] μ with
      | .ok (.rt w) μ' => leave μ.length w μ'
      | .ok (.nx _) μ' => leave μ.length (.d .none) μ'
      | .ok (.er x us _) μ' => match allD us with
        | some c => .err x (c.map Wv.d) (μ'.take μ.length)
        | none => .bad
      | _ => .bad) = _
    rw [q]
    simp [leave]
  have hz : (0 : Int) ≤ (if z < 0 ∨ 10 ^ 14 ≤ z then (if z < 0 then -z else z) else 0) := by
    split
    · split <;> omega
    · omega
  exact ⟨_, q2, _, _, _, rfl, hz, Int.emod_nonneg _ (by omega), Int.emod_lt_of_pos _ (by omega), by omega, by omega⟩
end LW
namespace LW
open PySem PySem.Spec TL
open L2 (atI ixN)
variable [TabN] [ClsN]
def okS : List Str := ["", "x", "below", "0", "true", "not at"]
mutual
/-- ints of at most B, texts of the law, empty dicts -/
def good (B : Nat) : PyData → Bool
  | .none => true
  | .bool _ => true
  | .int i => decide (i.natAbs ≤ B)
  | .str s => decide (s ∈ okS)
  | .list xs => goodAll B xs
  | .tuple xs => goodAll B xs
  | .dict kvs => kvs.isEmpty
def goodAll (B : Nat) : List PyData → Bool
  | [] => true
  | x :: xs => good B x && goodAll B xs
end
theorem goodAll_iff {B : Nat} : ∀ {xs : List PyData}, goodAll B xs = true ↔ ∀ x ∈ xs, good B x = true
  | [] => by simp [goodAll]
  | x :: xs => by
    simp only [goodAll, Bool.and_eq_true, goodAll_iff (xs := xs), List.mem_cons]
    constructor
    · rintro ⟨h1, h2⟩ y (rfl | hy)
      · exact h1
      · exact h2 y hy
    · intro h
      exact ⟨h x (.inl rfl), fun y hy => h y (.inr hy)⟩
mutual
theorem good_up {B B2 : Nat} (h : B ≤ B2) : ∀ x : PyData, good B x = true → good B2 x = true
  | .none, _ => rfl
  | .bool _, _ => rfl
  | .int i, q => by
    simp only [good, decide_eq_true_eq] at q ⊢
    omega
  | .str s, q => q
  | .list xs, q => goodAll_up h xs q
  | .tuple xs, q => goodAll_up h xs q
  | .dict kvs, q => q
theorem goodAll_up {B B2 : Nat} (h : B ≤ B2) : ∀ xs : List PyData, goodAll B xs = true → goodAll B2 xs = true
  | [], _ => rfl
  | x :: xs, q => by
    simp only [goodAll, Bool.and_eq_true] at q ⊢
    exact ⟨good_up h x q.1, goodAll_up h xs q.2⟩
end
theorem okS_leaf : ∀ s ∈ okS, (PyData.str s).leavesShort 40 = true := by decide +kernel
theorem int_leaf {i : Int} (h : i.natAbs ≤ 10 ^ 26) : i.natAbs.log2 < 1920 ∧ (PyData.shown (.int i)).length ≤ 40 := by
  refine ⟨?_, ?_⟩
  · by_cases hz : i.natAbs = 0
    · rw [hz]
      decide
    · exact (Nat.log2_lt hz).mpr (Nat.lt_of_le_of_lt h (by decide +kernel))
  · show (PySem.Str.ofString (toString i)).length ≤ 40
    rw [PySem.ofString_length]
    have := PySem.int_text_length_le10 (a := i) (k := 27) (by decide) (by omega)
    omega
mutual
theorem good_leaf : ∀ x : PyData, good (10 ^ 26) x = true → x.showable = true ∧ x.leavesShort 40 = true
  | .none, _ => ⟨rfl, rfl⟩
  | .bool _, _ => ⟨rfl, rfl⟩
  | .int i, q => by
    simp only [good, decide_eq_true_eq] at q
    obtain ⟨h1, h2⟩ := int_leaf q
    exact ⟨by simp [PyData.showable, h1], by simp only [PyData.leavesShort, decide_eq_true_eq]; exact h2⟩
  | .str s, q => by
    simp only [good, decide_eq_true_eq] at q
    exact ⟨rfl, okS_leaf s q⟩
  | .list xs, q => by
    obtain ⟨h1, h2⟩ := goodAll_leaf xs q
    exact ⟨by simpa [PyData.showable] using h1, by simpa [PyData.leavesShort] using h2⟩
  | .tuple xs, q => by
    obtain ⟨h1, h2⟩ := goodAll_leaf xs q
    exact ⟨by simpa [PyData.showable] using h1, by simpa [PyData.leavesShort] using h2⟩
  | .dict [], _ => ⟨rfl, rfl⟩
  | .dict (_ :: _), q => by cases q
theorem goodAll_leaf : ∀ xs : List PyData, goodAll (10 ^ 26) xs = true → PyData.showableAll xs = true ∧ PyData.leavesShortAll 40 xs = true
  | [], _ => ⟨rfl, rfl⟩
  | x :: xs, q => by
    simp only [goodAll, Bool.and_eq_true] at q
    obtain ⟨h1, h2⟩ := good_leaf x q.1
    obtain ⟨h3, h4⟩ := goodAll_leaf xs q.2
    exact ⟨by simp [PyData.showableAll, h1, h3], by simp [PyData.leavesShortAll, h2, h4]⟩
end
/-- a value of the law: ints up to B, N parts, D deep -/
structure Td (B N D : Nat) (x : PyData) : Prop where
  g : good B x = true
  n : x.bulk ≤ N
  d : x.depth ≤ D
structure TdL (B N D : Nat) (xs : List PyData) : Prop where
  g : goodAll B xs = true
  n : PyData.bulkAll xs ≤ N
  d : PyData.depthAll xs ≤ D
theorem Td.up {B N D B2 N2 D2 : Nat} {x : PyData} (h : Td B N D x) (hB : B ≤ B2) (hN : N ≤ N2) (hD : D ≤ D2) : Td B2 N2 D2 x := ⟨good_up hB _ h.g, Nat.le_trans h.n hN, Nat.le_trans h.d hD⟩
theorem TdL.up {B N D B2 N2 D2 : Nat} {x : List PyData} (h : TdL B N D x) (hB : B ≤ B2) (hN : N ≤ N2) (hD : D ≤ D2) : TdL B2 N2 D2 x := ⟨goodAll_up hB _ h.g, Nat.le_trans h.n hN, Nat.le_trans h.d hD⟩
theorem TdL.tup {B N D : Nat} {xs : List PyData} (h : TdL B N D xs) : Td B N (D + 1) (.tuple xs) := ⟨h.g, by simp only [PyData.bulk]; exact h.n, by simp only [PyData.depth]; have := h.d; omega⟩
theorem TdL.lst {B N D : Nat} {xs : List PyData} (h : TdL B N D xs) : Td B N (D + 1) (.list xs) := ⟨h.g, by simp only [PyData.bulk]; exact h.n, by simp only [PyData.depth]; have := h.d; omega⟩
theorem Td.of_tup {B N D : Nat} {xs : List PyData} (h : Td B N D (.tuple xs)) : 1 ≤ D ∧ TdL B N (D - 1) xs := by
  obtain ⟨g, n, d⟩ := h
  simp only [PyData.bulk] at n
  simp only [PyData.depth] at d
  exact ⟨by omega, g, n, by omega⟩
theorem TdL.nil {B N D : Nat} : TdL B N D [] := ⟨rfl, Nat.zero_le _, Nat.zero_le _⟩
theorem TdL.cons {B N N2 D : Nat} {x : PyData} {xs : List PyData} (h : Td B N D x) (t : TdL B N2 D xs) : TdL B (N + 1 + N2) D (x :: xs) := by
  obtain ⟨g, n, d⟩ := h
  obtain ⟨g2, n2, d2⟩ := t
  refine ⟨by simp [goodAll, g, g2], ?_, ?_⟩
  · simp only [PyData.bulkAll]
    omega
  · simp only [PyData.depthAll]
    omega
theorem bulk_app : ∀ {a b : List PyData}, PyData.bulkAll (a ++ b) = PyData.bulkAll a + PyData.bulkAll b
  | [], b => by simp [PyData.bulkAll]
  | x :: a, b => by
    show PyData.bulk x + 1 + PyData.bulkAll (a ++ b) = PyData.bulk x + 1 + PyData.bulkAll a + PyData.bulkAll b
    rw [bulk_app]
    omega
theorem depth_app : ∀ {a b : List PyData}, PyData.depthAll (a ++ b) = max (PyData.depthAll a) (PyData.depthAll b)
  | [], b => by simp [PyData.depthAll]
  | x :: a, b => by
    show max (PyData.depth x) (PyData.depthAll (a ++ b)) = max (max (PyData.depth x) (PyData.depthAll a)) (PyData.depthAll b)
    rw [depth_app]
    omega
theorem TdL.app {B N N2 D : Nat} {a b : List PyData} (h : TdL B N D a) (t : TdL B N2 D b) : TdL B (N + N2) D (a ++ b) := by
  refine ⟨goodAll_iff.mpr fun x hx => ?_, ?_, ?_⟩
  · rcases List.mem_append.mp hx with hx | hx
    · exact goodAll_iff.mp h.g x hx
    · exact goodAll_iff.mp t.g x hx
  · rw [bulk_app]
    have := h.n
    have := t.n
    omega
  · rw [depth_app]
    have := h.d
    have := t.d
    omega
theorem TdL.split {B N D : Nat} {a b : List PyData} (h : TdL B N D (a ++ b)) : TdL B N D a ∧ TdL B N D b := by
  obtain ⟨g, n, d⟩ := h
  rw [bulk_app] at n
  rw [depth_app] at d
  exact ⟨⟨goodAll_iff.mpr fun x hx => goodAll_iff.mp g x (List.mem_append_left _ hx), by omega, by omega⟩, ⟨goodAll_iff.mpr fun x hx => goodAll_iff.mp g x (List.mem_append_right _ hx), by omega, by omega⟩⟩
theorem TdL.take {B N D : Nat} {xs : List PyData} (h : TdL B N D xs) (n : Nat) : TdL B N D (xs.take n) := by
  rw [← List.take_append_drop n xs] at h
  exact h.split.1
theorem TdL.drop {B N D : Nat} {xs : List PyData} (h : TdL B N D xs) (n : Nat) : TdL B N D (xs.drop n) := by
  rw [← List.take_append_drop n xs] at h
  exact h.split.2
theorem TdL.cut {B N D : Nat} {xs : List PyData} (h : TdL B N D xs) (lo hi : Option Int) : TdL B N D (cutL xs lo hi) := by
  unfold cutL
  exact (h.drop _).take _
theorem bulk_rev : ∀ {a : List PyData}, PyData.bulkAll a.reverse = PyData.bulkAll a
  | [] => rfl
  | x :: a => by
    rw [List.reverse_cons, bulk_app, bulk_rev (a := a)]
    show _ + (PyData.bulk x + 1 + 0) = PyData.bulk x + 1 + PyData.bulkAll a
    omega
theorem depth_rev : ∀ {a : List PyData}, PyData.depthAll a.reverse = PyData.depthAll a
  | [] => rfl
  | x :: a => by
    rw [List.reverse_cons, depth_app, depth_rev (a := a)]
    show max _ (max (PyData.depth x) 0) = max (PyData.depth x) (PyData.depthAll a)
    omega
theorem TdL.rev {B N D : Nat} {xs : List PyData} (h : TdL B N D xs) : TdL B N D xs.reverse :=
  ⟨goodAll_iff.mpr fun x hx => goodAll_iff.mp h.g x (List.mem_reverse.mp hx), by rw [bulk_rev]; exact h.n, by rw [depth_rev]; exact h.d⟩
theorem TdL.len {B N D : Nat} : ∀ {xs : List PyData}, TdL B N D xs → xs.length ≤ N
  | [], _ => Nat.zero_le _
  | x :: xs, h => by
    have n := h.n
    have : PyData.bulkAll (x :: xs) = PyData.bulk x + 1 + PyData.bulkAll xs := rfl
    have ih := TdL.len (B := B) (N := N - PyData.bulk x - 1) (D := D) (xs := xs) ⟨(goodAll_iff.mpr fun y hy => goodAll_iff.mp h.g y (List.mem_cons_of_mem _ hy)), by omega, by
      have d := h.d
      have : PyData.depthAll (x :: xs) = max (PyData.depth x) (PyData.depthAll xs) := rfl
      omega⟩
    rw [List.length_cons]
    omega
/-- a part: what stands ahead of it, it, and what stands behind -/
theorem TdL.at_ {B N D i : Nat} {xs : List PyData} {z : PyData} (h : TdL B N D xs) (hz : xs[i]? = some z) : Td B N D z ∧ PyData.bulkAll (xs.take i) + PyData.bulk z + 1 + PyData.bulkAll (xs.drop (i + 1)) ≤ N ∧ PyData.bulk z ≤ N := by
  obtain ⟨hl, hz⟩ := List.getElem?_eq_some_iff.mp hz
  have e : xs = xs.take i ++ z :: xs.drop (i + 1) := by
    rw [← hz, List.getElem_cons_drop, List.take_append_drop]
  have n := h.n
  have d := h.d
  rw [e, bulk_app] at n
  rw [e, depth_app] at d
  have n : PyData.bulkAll (xs.take i) + (PyData.bulk z + 1 + PyData.bulkAll (xs.drop (i + 1))) ≤ N := n
  have d : max (PyData.depthAll (xs.take i)) (max (PyData.depth z) (PyData.depthAll (xs.drop (i + 1)))) ≤ D := d
  exact ⟨⟨goodAll_iff.mp h.g z (by rw [e]; simp), by omega, by omega⟩, by omega, by omega⟩
theorem Td.repr {N D : Nat} {x : PyData} {μ : Mu} (h : Td (10 ^ 26) N D x) (hN : N ≤ 300000) (hD : D ≤ 60) : gReprD [.d x] μ = .ok (.d (.str x.shown)) μ := by
  obtain ⟨h1, h2⟩ := good_leaf x h.g
  have h3 := PyData.shown_le_bulk 40 (by omega) x h2
  have h4 : (40 + 2) * x.bulk ≤ 42 * 300000 := Nat.mul_le_mul_left _ (Nat.le_trans h.n hN)
  have ok : reprOkD x = true := by
    unfold reprOkD
    rw [h1, decide_eq_true (show x.shown.length ≤ 16777216 by omega), decide_eq_true (show x.depth ≤ 60 from Nat.le_trans h.d hD)]
    rfl
  show (if reprOkD x = true then Out.ok (wS x.shown) μ else Out.bad) = _
  rw [if_pos ok]
end LW
namespace LW
open PySem PySem.Spec TL
open L2 (atI ixN)
variable [TabN] [ClsN]
def menu : List PyData := [.none, .bool true, .bool false, .int 0, .int 1, .int (-1), .int 3, .int 10000000000000000000000000, .str "", .str "x", .str "below", .tuple [], .tuple [.int 0], .tuple [.int 1], .tuple [.int 0, .int 1], .tuple [.int 1, .int 1], .tuple [.int 2, .int 2], .tuple [.int 0, .int 3], .tuple [.int 1, .int 0], .tuple [.int 3, .int (-2)], .tuple [.bool true, .int 1], .tuple [.int 0, .bool true], .tuple [.int 1, .int 1, .int 1], .tuple [.int 0, .int 0, .int 1], .tuple [.tuple []], .tuple [.tuple [.int 0, .int 1]], .tuple [.tuple [.int 0, .int 1], .tuple [.int 0, .int 1]], .tuple [.tuple [.int 1], .tuple [.int 0, .int 1]], .list [], .list [.int 0, .int 1], .list [.tuple [.int 0, .int 1]], .dict [], .tuple [.none, .int 1], .tuple [.str "0", .int 1], .tuple [.tuple [.int (-2), .int 0, .int 1], .int 1], .tuple [.tuple [.int (-2), .int 0, .int 1], .int 2], .tuple [.tuple [.int (-2), .int 0, .int 1], .bool true], .tuple [.tuple [.int (-2), .int 0, .int 1], .int (-1)], .tuple [.tuple [.int 2, .int 0, .int (-1)], .int 0], .tuple [.tuple [.int (-4), .int 0, .int 2], .int 1], .tuple [.tuple [.int (-1), .int 0, .int 1], .int 0], .tuple [.tuple [.int 4, .int 0, .int (-4), .int 0, .int 1], .int 1], .tuple [.tuple [], .tuple [.bool true]], .tuple [.tuple [], .tuple [.int 1]], .tuple [.tuple [.tuple [.int 0, .int 1]], .tuple [.bool true, .bool true, .bool true]], .tuple [.str "true"], .str "not at", .tuple [.int 1, .int 2], .tuple [.tuple [.tuple [.int 0, .int 1]], .tuple [.bool false, .bool true, .bool true]], .tuple [.str "below", .tuple [.tuple [.int 0, .int 1]]], .tuple [.list [.int 0, .int 1], .int 1], .tuple [.tuple [.int 0, .int 1], .tuple []]]
theorem menu_ok : ∀ x ∈ menu, good (10 ^ 25) x = true ∧ x.bulk ≤ 20 ∧ x.depth ≤ 3 := by decide +kernel
section
variable {μ : Mu} {k m : Nat} {c : Cell}
theorem t_odd (h : μ[k]? = some (some c)) (w : Wl m c) (hm : m < 900000000) : ∃ x c', f_law_odd [.r k] μ = .ok (.d x) (μ.set k (some c')) ∧ Wl (m + 1) c' ∧ Td (10 ^ 25) 20 3 x := by
  obtain ⟨x, c', e, w', hx⟩ := t_pick (xs := menu) h w hm (by decide) (by decide)
  obtain ⟨h1, h2, h3⟩ := menu_ok x hx
  refine ⟨x, c', ?_, w', h1, h2, h3⟩
  have p25 : gPow (.d (.int 10)) (.d (.int 25)) μ = .ok (.d (.int 10000000000000000000000000)) μ := rfl
  unfold menu at e
  simp [-v_pow, f_law_odd, b_law_odd, runD, initR, e, p25]
theorem t_small (h : μ[k]? = some (some c)) (w : Wl m c) (hm : m < 900000000) : ∃ i c', f_law_small [.r k] μ = .ok (.d (.int i)) (μ.set k (some c')) ∧ Wl (m + 2) c' ∧ i.natAbs ≤ 1000000 := by
  obtain ⟨r, c1, e1, r0, r1, w1⟩ := t_draw (many := 12) h w (by omega) (by omega) (by omega)
  have h1 : (μ.set k (some c1))[k]? = some (some c1) := get_set h
  by_cases h9 : r < 9
  · obtain ⟨s, c2, e2, s0, s1, w2⟩ := t_draw (many := 9) h1 w1 (by omega) (by omega) (by omega)
    rw [List.set_set] at e2
    exact ⟨s - 4, c2, by simp [f_law_small, b_law_small, runD, initR, e1, e2, h9], w2, by omega⟩
  · by_cases h11 : r < 11
    · obtain ⟨s, c2, e2, s0, s1, w2⟩ := t_draw (many := 61) h1 w1 (by omega) (by omega) (by omega)
      rw [List.set_set] at e2
      exact ⟨s - 30, c2, by simp [f_law_small, b_law_small, runD, initR, e1, e2, h9, h11], w2, by omega⟩
    · obtain ⟨s, c2, e2, s0, s1, w2⟩ := t_draw (many := 2000001) h1 w1 (by omega) (by omega) (by omega)
      rw [List.set_set] at e2
      exact ⟨s - 1000000, c2, by simp [f_law_small, b_law_small, runD, initR, e1, e2, h9, h11], w2, by omega⟩
theorem t_lean {a b : Int} (hb : 0 < b) (hs : Sml b) : ∃ p q : Int, f_law_lean [.d (.int a), .d (.int b)] μ = .ok (.d (.tuple [.int p, .int q])) μ ∧ p.natAbs ≤ a.natAbs ∧ q.natAbs ≤ b.natAbs := by
  have g1 : 0 < Nat.gcd a.natAbs b.natAbs := Nat.gcd_pos_of_pos_right _ (by omega)
  have g2 : Nat.gcd a.natAbs b.natAbs ≤ b.natAbs := Nat.le_of_dvd (by omega) (Nat.gcd_dvd_right _ _)
  have hg : 0 < (Nat.gcd a.natAbs b.natAbs : Int) := by omega
  have hg2 : Sml (Nat.gcd a.natAbs b.natAbs : Int) := by
    unfold Sml at hs ⊢
    rw [Int.natAbs_natCast]
    exact Nat.lt_of_le_of_lt g2 hs
  have d1 := w_div (μ := μ) (i := a) hg hg2
  have d2 := w_div (μ := μ) (i := b) hg hg2
  exact ⟨a / (Nat.gcd a.natAbs b.natAbs : Int), b / (Nat.gcd a.natAbs b.natAbs : Int), by simp [f_law_lean, b_law_lean, runD, initR, hb, t_common, d1, d2], Int.natAbs_ediv_le_natAbs _ _, Int.natAbs_ediv_le_natAbs _ _⟩
def bases : List PyData := [.int 1, .int 1, .int 1, .int 2, .int 3, .int 1, .int 4, .int 7]
theorem t_part (h : μ[k]? = some (some c)) (w : Wl m c) (hm : m < 800000000) : ∃ x c', f_law_part [.r k] μ = .ok (.d x) (μ.set k (some c')) ∧ Wl (m + 3) c' ∧ Td (10 ^ 25) 2 1 x := by
  obtain ⟨i, c1, e1, w1, hi⟩ := t_small h w (by omega)
  have h1 : (μ.set k (some c1))[k]? = some (some c1) := get_set h
  obtain ⟨z, c2, e2, w2, hz⟩ := t_pick (xs := bases) h1 w1 (by omega) (by decide) (by decide)
  rw [List.set_set] at e2
  obtain ⟨b, rfl, b0, b7⟩ : ∃ b : Int, z = .int b ∧ 0 < b ∧ b ≤ 7 := by
    have : ∀ z ∈ bases, ∃ b : Int, z = .int b ∧ 0 < b ∧ b ≤ 7 := by
      intro z hz
      unfold bases at hz
      simp only [List.mem_cons, List.not_mem_nil, or_false] at hz
      rcases hz with rfl | rfl | rfl | rfl | rfl | rfl | rfl | rfl <;> exact ⟨_, rfl, by omega, by omega⟩
    exact this z hz
  obtain ⟨p, q, e3, hp, hq⟩ := t_lean (μ := μ.set k (some c2)) (a := i) b0 (.of (k := 4) (by omega) (by omega))
  refine ⟨.tuple [.int p, .int q], c2, ?_, w2, ⟨?_, by simp [PyData.bulk, PyData.bulkAll], by simp [PyData.depth, PyData.depthAll]⟩⟩
  · unfold bases at e2
    simp [f_law_part, b_law_part, runD, initR, e1, e2, e3]
  · have a1 : p.natAbs ≤ 10 ^ 25 := Nat.le_trans hp (Nat.le_trans hi (by decide +kernel))
    have a2 : q.natAbs ≤ 10 ^ 25 := Nat.le_trans hq (Nat.le_trans (show b.natAbs ≤ 7 by omega) (by decide +kernel))
    simp [good, goodAll, a1, a2]
end
end LW
namespace LW
open PySem PySem.Spec TL
open L2 (atI ixN)
variable [TabN] [ClsN]
noncomputable def A_bent (rec : GF) : Sv := (sIf (bAnd (tB' (e1 (gIsi "tuple") (eVar 1))) (bAnd (tB' (e2 (gEq true) (eVar 1) (eTup aNil))) (tB' (e2 (gCmp fun i j => decide (j < i)) (cF 2 f_law_draw (aCons (eVar 0) (aCons (eK (.int 4)) aNil))) (eK (.int 0)))))) (sSeq (sAsg (cF 2 f_law_draw (aCons (eVar 0) (aCons (en gLen (aCons (eVar 1) aNil)) aNil))) (gNm 3))
    (sRet (e2 gPlus (e2 gPlus (eSl (eVar 1) none (some (eVar 3))) (eTup (aCons (cF 2 rec (aCons (eVar 0) (aCons (e2 gIx (eVar 1) (eVar 3)) aNil))) aNil))) (eSl (eVar 1) (some (e2 gPlus (eVar 3) (eK (.int 1)))) none)))) sNext)
noncomputable def R_bent : Sv :=
    (sSeq (sAsg (cF 2 f_law_draw (aCons (eVar 0) (aCons (eK (.int 9)) aNil))) (gNm 2))
    (sSeq (sIf (bAnd (tB' (e1 (gIsi "tuple") (eVar 1))) (tB' (e2 (gCmp fun i j => decide (i < j)) (eVar 2) (eK (.int 6))))) (sRet (e2 gIx (eTup (aCons (eFrz (lList (aCons (eVar 1) aNil))) (aCons (eSl (eVar 1) none (some (e1 gNeg (eK (.int 1))))) (aCons (e2 gPlus (eVar 1) (eSl (eVar 1) (some (e1 gNeg (eK (.int 1)))) none)) (aCons (e1 gRev (eVar 1)) (aCons (eSl (eVar 1) (some (eK (.int 1))) none) (aCons (e2 gPlus (eSl (eVar 1) none (some (eK (.int 1)))) (eVar 1)) aNil))))))) (eVar 2))) sNext)
    (sSeq (sIf (bAnd (tB' (e1 (gIsi "int") (eVar 1))) (tB' (e2 (gCmp fun i j => decide (i < j)) (eVar 2) (eK (.int 5))))) (sRet (e2 gIx (eTup (aCons (e2 gPlus (eVar 1) (eK (.int 1))) (aCons (e2 gSub (eK (.int 0)) (eVar 1)) (aCons (e2 gTimes (eK (.int 2)) (eVar 1)) (aCons (e2 gSub (eVar 1) (eK (.int 2))) (aCons (e2 (gEq false) (eVar 1) (eK (.int 1))) aNil)))))) (eVar 2))) sNext)
    (sRet (cF 1 f_law_odd (aCons (eVar 0) aNil))))))
theorem bent_is (rec : GF) : b_law_bent rec = sSeq (A_bent rec) R_bent := rfl
def L6 (xs : List PyData) : List PyData := [.list xs, .tuple (cutL xs none (some (-1))), .tuple (xs ++ cutL xs (some (-1)) none), .tuple xs.reverse, .tuple (cutL xs (some 1) none), .tuple (cutL xs none (some 1) ++ xs)]
theorem ok6 {B N D : Nat} {xs : List PyData} (h : TdL B N D xs) : ∀ y ∈ L6 xs, Td (2 * B + 2) (2 * N + 20) (D + 4) y := by
  intro y hy
  unfold L6 at hy
  simp only [List.mem_cons, List.not_mem_nil, or_false] at hy
  rcases hy with rfl | rfl | rfl | rfl | rfl | rfl
  · exact h.lst.up (by omega) (by omega) (by omega)
  · exact (h.cut none (some (-1))).tup.up (by omega) (by omega) (by omega)
  · exact (h.app (h.cut (some (-1)) none)).tup.up (by omega) (by omega) (by omega)
  · exact h.rev.tup.up (by omega) (by omega) (by omega)
  · exact (h.cut (some 1) none).tup.up (by omega) (by omega) (by omega)
  · exact ((h.cut none (some 1)).app h).tup.up (by omega) (by omega) (by omega)
def L5 (i : Int) (b : Bool) : List PyData := [.int (i + 1), .int (0 - i), .int (2 * i), .int (i - 2), .bool b]
theorem ok5 {B N D : Nat} {i : Int} {b : Bool} (h : i.natAbs ≤ B) : ∀ y ∈ L5 i b, Td (2 * B + 2) N D y := by
  intro y hy
  unfold L5 at hy
  simp only [List.mem_cons, List.not_mem_nil, or_false] at hy
  have p : ∀ j : Int, j.natAbs ≤ 2 * B + 2 → Td (2 * B + 2) N D (.int j) := fun j hj => ⟨by simp [good, hj], Nat.zero_le _, Nat.zero_le _⟩
  rcases hy with rfl | rfl | rfl | rfl | rfl
  · exact p _ (by omega)
  · exact p _ (by omega)
  · exact p _ (by omega)
  · exact p _ (by omega)
  · exact ⟨rfl, Nat.zero_le _, Nat.zero_le _⟩
section
variable {μ : Mu} {k m : Nat} {c : Cell}
theorem t_tail {B N D : Nat} {x : PyData} (h : μ[k]? = some (some c)) (w : Wl m c) (hm : m < 800000000) (hB : 10 ^ 25 ≤ 2 * B + 2) (hB2 : B ≤ 10 ^ 26) (hN : N ≤ 1000) (ho : Td B N D x) :
    ∃ y c', R_bent [some (.r k), some (.d x), none, none] μ = .ok (.rt (.d y)) (μ.set k (some c')) ∧ Wl (m + 2) c' ∧ Td (2 * B + 2) (2 * N + 20) (D + 4) y := by
  obtain ⟨r, c1, e1, r0, r1, w1⟩ := t_draw (many := 9) h w (by omega) (by omega) (by omega)
  have h1 : (μ.set k (some c1))[k]? = some (some c1) := get_set h
  obtain ⟨z, c2, e2, w2, hz⟩ := t_odd h1 w1 (by omega)
  rw [List.set_set] at e2
  have hz' : Td (2 * B + 2) (2 * N + 20) (D + 4) z := hz.up hB (by omega) (by omega)
  have big : ∀ i : Int, i.natAbs ≤ B → gTimes (.d (.int 2)) (.d (.int i)) (μ.set k (some c1)) = .ok (.d (.int (2 * i))) (μ.set k (some c1)) := fun i hi =>
    w_times (.of (k := 4) (by decide) (by omega)) (.of (k := 100) (Nat.le_trans hi (Nat.le_trans hB2 (by decide +kernel))) (by omega))
  cases x with
  | tuple xs =>
    obtain ⟨hD, hl⟩ := ho.of_tup
    by_cases hr : r < 6
    · obtain ⟨y, e3, hy⟩ := at_nat (xs := L6 xs) r0 (by unfold L6; simpa using hr)
      have ln := hl.len
      have g1 : xs.length + (cutL xs (some (-1)) none).length ≤ 16777216 := by
        have := (cut_in (xs := xs) (lo := some (-1)) (hi := none)).1
        omega
      have g2 : (cutL xs none (some 1)).length + xs.length ≤ 16777216 := by
        have := (cut_in (xs := xs) (lo := none) (hi := some 1)).1
        omega
      refine ⟨y, c1, ?_, w1.up (by omega), (ok6 hl y hy).up (Nat.le_refl _) (Nat.le_refl _) (by omega)⟩
      unfold L6 at e3
      simp [R_bent, e1, kinds, subTy, tyName, hr, g1, g2, e3]
    · exact ⟨z, c2, by simp [R_bent, e1, e2, kinds, subTy, tyName, hr], w2, hz'⟩
  | int i =>
    have hi : i.natAbs ≤ B := by
      have := ho.g
      simpa [good] using this
    by_cases hr : r < 5
    · obtain ⟨y, e3, hy⟩ := at_nat (xs := L5 i (i == 1)) r0 (by unfold L5; simpa using hr)
      have bg := big i hi
      refine ⟨y, c1, ?_, w1.up (by omega), ok5 hi y hy⟩
      unfold L5 at e3
      simp at e3
      simp [R_bent, e1, kinds, subTy, tyName, hr, bg, e3]
    · exact ⟨z, c2, by simp [R_bent, e1, e2, kinds, subTy, tyName, hr], w2, hz'⟩
  | bool b =>
    by_cases hr : r < 5
    · obtain ⟨y, e3, hy⟩ := at_nat (xs := L5 (bi b) b) r0 (by unfold L5; simpa using hr)
      have hi : (bi b).natAbs ≤ B := by
        have : 1 ≤ B := by
          have : (1 : Nat) ≤ 10 ^ 24 := by decide +kernel
          omega
        cases b
        · exact Nat.zero_le _
        · exact this
      have bg := big (bi b) hi
      refine ⟨y, c1, ?_, w1.up (by omega), ok5 hi y hy⟩
      unfold L5 at e3
      simp at e3
      have tb : gTimes (.d (.int 2)) (.d (.bool b)) (μ.set k (some c1)) = .ok (.d (.int (2 * bi b))) (μ.set k (some c1)) := bg
      cases b
      · simp [bi] at e3 tb
        simp [R_bent, e1, kinds, subTy, tyName, hr, bi, tb, e3]
      · simp [bi] at e3 tb
        simp [R_bent, e1, kinds, subTy, tyName, hr, bi, tb, e3]
    · exact ⟨z, c2, by simp [R_bent, e1, e2, kinds, subTy, tyName, hr], w2, hz'⟩
  | _ => exact ⟨z, c2, by simp [R_bent, e1, e2, kinds, subTy, tyName], w2, hz'⟩
end
end LW
namespace LW
open PySem PySem.Spec TL
open L2 (atI ixN)
variable [TabN] [ClsN]
theorem t_bent {k : Nat} : ∀ (fuel : Nat) {B N D m : Nat} {μ : Mu} {c : Cell} {x : PyData}, μ[k]? = some (some c) → Wl m c → m + 10 * fuel < 700000000 → D < fuel → 10 ^ 25 ≤ 2 * B + 2 → B ≤ 10 ^ 26 → N ≤ 1000 → Td B N D x →
    ∃ y c', f_law_bent fuel [.r k, .d x] μ = .ok (.d y) (μ.set k (some c')) ∧ Wl (m + 10 * fuel) c' ∧ Td (2 * B + 2) (2 * N + 20) (D + 4) y := by
  intro fuel
  induction fuel with
  | zero => intro B N D m μ c x _ _ _ hd; exact absurd hd (by omega)
  | succ fuel ih =>
    intro B N D m μ c x h w hm hd hB hB2 hN ho
    by_cases hx : ∃ a l, x = .tuple (a :: l)
    · obtain ⟨a, l, rfl⟩ := hx
      obtain ⟨r, c1, e1, r0, r1, w1⟩ := t_draw (many := 4) h w (by omega) (by omega) (by omega)
      have h1 : (μ.set k (some c1))[k]? = some (some c1) := get_set h
      by_cases hr : 0 < r
      · obtain ⟨hD, hl⟩ := ho.of_tup
        have ln := hl.len
        obtain ⟨j, c2, e2, j0, j1, w2⟩ := t_draw (many := ((a :: l).length : Int)) h1 w1 (by omega) (by rw [List.length_cons]; omega) (by omega)
        have h2 : (μ.set k (some c2))[k]? = some (some c2) := get_set h
        rw [List.set_set] at e2
        obtain ⟨i, rfl⟩ : ∃ i : Nat, j = (i : Int) := ⟨j.toNat, by omega⟩
        have hi : i < (a :: l).length := by omega
        obtain ⟨z, hz0⟩ : ∃ z, (a :: l)[i]? = some z := ⟨_, List.getElem?_eq_getElem hi⟩
        have e3 : atI (a :: l) (i : Int) = some z := at_n hz0
        obtain ⟨hz, hz2, hz3⟩ := hl.at_ hz0
        obtain ⟨y, c3, e4, w3, hy⟩ := ih (m := m + 1 + 1) (B := B) (N := z.bulk) (D := D - 1) h2 w2 (by omega) (by omega) hB hB2 (by omega) ⟨hz.g, Nat.le_refl _, hz.d⟩
        rw [List.set_set] at e4
        have q1 := cut_in (xs := a :: l) (lo := none) (hi := some (i : Int))
        have q2 := cut_in (xs := a :: l) (lo := some ((i : Int) + 1)) (hi := none)
        have t1 : cutL (a :: l) none (some (i : Int)) = (a :: l).take i := cut_take (by omega)
        have t2 : cutL (a :: l) (some ((i : Int) + 1)) none = (a :: l).drop (i + 1) := by
          unfold cutL
          rw [show HT.sIx (a :: l).length (a :: l).length none = (a :: l).length from rfl, show ((i : Int) + 1) = ((i + 1 : Nat) : Int) by omega, HT.sIx_nat, Nat.min_eq_left (by omega)]
          exact List.take_of_length_le (by rw [List.length_drop]; omega)
        generalize hxs : a :: l = xs at e2 e3 hl q1 q2 t1 t2 hz2 hz0 ln hi ⊢
        have hne : xs.isEmpty = false := by rw [← hxs]; rfl
        refine ⟨.tuple (cutL xs none (some (i : Int)) ++ (y :: cutL xs (some ((i : Int) + 1)) none)), c3, ?_, w3.up (by omega), ?_⟩
        · have g1 : (cutL xs none (some (i : Int))).length + 1 ≤ 16777216 := by have := q1.1; omega
          have g2 : (cutL xs none (some (i : Int))).length + 1 + (cutL xs (some ((i : Int) + 1)) none).length ≤ 16777216 := by have := q1.1; have := q2.1; omega
          simp [f_law_bent, bent_is, A_bent, runD, initR, kinds, subTy, tyName, e1, hr, e2, e3, e4, hne, g1, g2]
        · rw [t1, t2]
          have a1 : TdL (2 * B + 2) (PyData.bulkAll (xs.take i)) (D + 3) (xs.take i) := ⟨goodAll_up (by omega) _ (hl.take i).g, Nat.le_refl _, Nat.le_trans (hl.take i).d (by omega)⟩
          have a2 : TdL (2 * B + 2) (PyData.bulkAll (xs.drop (i + 1))) (D + 3) (xs.drop (i + 1)) := ⟨goodAll_up (by omega) _ (hl.drop (i + 1)).g, Nat.le_refl _, Nat.le_trans (hl.drop (i + 1)).d (by omega)⟩
          exact ((a1.app (TdL.cons (hy.up (Nat.le_refl _) (Nat.le_refl _) (show D - 1 + 4 ≤ D + 3 by omega)) a2)).tup).up (Nat.le_refl _) (by omega) (by omega)
      · obtain ⟨y, c2, e2, w2, hy⟩ := t_tail h1 w1 (by omega) hB hB2 hN ho
        rw [List.set_set] at e2
        exact ⟨y, c2, by simp [f_law_bent, bent_is, A_bent, runD, initR, kinds, subTy, tyName, e1, hr, e2], w2.up (by omega), hy⟩
    · obtain ⟨y, c2, e2, w2, hy⟩ := t_tail h w (by omega) hB hB2 hN ho
      refine ⟨y, c2, ?_, w2.up (by omega), hy⟩
      cases x with
      | tuple xs =>
        cases xs with
        | nil => simp [f_law_bent, bent_is, A_bent, runD, initR, kinds, subTy, tyName, e2]
        | cons a l => exact (hx ⟨a, l, rfl⟩).elim
      | _ => simp [f_law_bent, bent_is, A_bent, runD, initR, kinds, subTy, tyName, e2]
theorem t_spoilt {μ : Mu} {k m : Nat} {c : Cell} {x : PyData} (h : μ[k]? = some (some c)) (w : Wl m c) (hm : m < 600000000) (ho : Td (10 ^ 25) 45 4 x) :
    ∃ y c', f_law_spoilt [.r k, .d x] μ = .ok (.d y) (μ.set k (some c')) ∧ Wl (m + 100) c' ∧ Td (10 ^ 26) 200 8 y := by
  obtain ⟨r, c1, e1, r0, r1, w1⟩ := t_draw (many := 12) h w (by omega) (by omega) (by omega)
  have h1 : (μ.set k (some c1))[k]? = some (some c1) := get_set h
  have p : 10 ^ 25 ≤ 10 ^ 26 := by decide +kernel
  have p2 : 2 * 10 ^ 25 + 2 ≤ 10 ^ 26 := by decide +kernel
  by_cases h7 : r < 7
  · exact ⟨x, c1, by simp [f_law_spoilt, b_law_spoilt, runD, initR, e1, h7], w1.up (by omega), ho.up p (by omega) (by omega)⟩
  · by_cases h11 : r < 11
    · obtain ⟨y, c2, e2, w2, hy⟩ := t_bent 8 (B := 10 ^ 25) (N := 45) (D := 4) h1 w1 (by omega) (by omega) (by omega) p (by omega) ho
      rw [List.set_set] at e2
      exact ⟨y, c2, by simp [f_law_spoilt, b_law_spoilt, runD, initR, e1, h7, h11, e2], w2.up (by omega), hy.up p2 (by omega) (by omega)⟩
    · obtain ⟨y, c2, e2, w2, hy⟩ := t_odd h1 w1 (by omega)
      rw [List.set_set] at e2
      exact ⟨y, c2, by simp [f_law_spoilt, b_law_spoilt, runD, initR, e1, h7, h11, e2], w2.up (by omega), hy.up p (by omega) (by omega)⟩
end LW
namespace LW
open PySem PySem.Spec TL
open L2 (atI ixN)
variable [TabN] [ClsN]
def plL : List (Str × Str) := [("InvalidFraction", "given"), ("InvalidRow", "given"), ("InvalidNumber", "given"), ("InvalidForm", "given"), ("InvalidIndex", "given"), ("InvalidCount", "given"), ("InvalidRelation", "given"), ("InvalidLetter", "given"), ("InvalidPoly", "given"), ("InvalidPlace", "given"), ("InvalidCell", "given"), ("InvalidPoint", "given"), ("InvalidSaying", "given"), ("TooMany", "given"), ("InvalidRows", "index"), ("InvalidPolys", "index"), ("InvalidLines", "index"), ("BadText", "spot"), ("UnlikePlaces", ""), ("LetterError", "")]
def tgL : List Str := ["InvalidFraction", "InvalidRow", "InvalidNumber", "InvalidForm", "InvalidIndex", "InvalidCount", "InvalidRelation", "InvalidLetter", "InvalidPoly", "InvalidPlace", "InvalidCell", "InvalidPoint", "InvalidSaying", "TooMany", "InvalidRows", "InvalidPolys", "InvalidLines", "BadText", "UnlikePlaces", "LetterError", "ValueError", "Exception", "LookupError", "TypeError", "ArithmeticError", "RuntimeError", "AttributeError"]
/-- what isinstance tells of a class and a target -/
def ovr (n t : Str) : Bool := decide (n = t) || decide (t ∈ overs)
theorem plL_in : ∀ q ∈ plL, q ∈ clsL := by decide +kernel
theorem plL_ov : ∀ a < 20, ∀ e < 27, ∀ q ∈ plL[a]?, ∀ t ∈ tgL[e]?, ovr q.1 t = (decide (e = a) || (decide (18 < e) && decide (e < 22))) := by decide +kernel
theorem plL_g : ∀ a < 14, ∀ q ∈ plL[a]?, q.2 = ("given" : Str) := by decide +kernel
theorem plL_i : ∀ a < 17, 14 ≤ a → ∀ q ∈ plL[a]?, q.2 = ("index" : Str) := by decide +kernel
theorem plL_s : ∀ q ∈ plL[17]?, q.2 = ("spot" : Str) := by decide +kernel
def exW (q : Str × Str) (x : PyData) : Wv := .x q.1 (ClsN.A q.1) (if q.2 = "" then none else some (q.2, x))
theorem xi_ok {n t : Str} {o : Option (Str × PyData)} {μ : Mu} (h : n ∈ clsL.map fun q => q.1) : gXi clsL t (.x n (ClsN.A n) o) μ = .ok (.d (.bool (ovr n t))) μ := by
  show (if n ∈ clsL.map (fun q => q.1) ∧ ClsN.A n = ClsN.A n then Out.ok (Wv.d (.bool (decide (n = t) || decide (t ∈ overs)))) μ else .bad) = _
  rw [if_pos ⟨h, rfl⟩]
  rfl
theorem xf_ok {q : Str × Str} {f : Str} {x : PyData} {μ : Mu} (h : q ∈ clsL) (hf : q.2 = f) (hne : f ≠ "") : gXf clsL f (exW q x) μ = .ok (.d x) μ := by
  unfold exW
  rw [if_neg (by rw [hf]; exact hne)]
  show (if ((q.1, f) : Str × Str) ∈ clsL ∧ ClsN.A q.1 = ClsN.A q.1 ∧ q.2 = f then Out.ok (Wv.d x) μ else .bad) = _
  rw [if_pos ⟨by rw [← hf]; exact h, rfl, hf⟩]
theorem t_truths {n : Str} {o : Option (Str × PyData)} {μ : Mu} (h : n ∈ clsL.map fun q => q.1) : f_law_truths [.x n (ClsN.A n) o] μ = .ok (.d (.list (tgL.map fun t => .bool (ovr n t)))) μ := by
  have xi := fun t => xi_ok (n := n) (t := t) (o := o) (μ := μ) h
  simp [f_law_truths, b_law_truths, runD, initR, xi, tgL]
section
variable {x : PyData} {μ : Mu}
theorem pl_0 : f_law_by_place [.d (.int 0), .d x] μ = .ok (exW ("InvalidFraction", "given") x) μ := by
  have e : exW ("InvalidFraction", "given") x = .x "InvalidFraction" (ClsN.A "InvalidFraction") (some ("given", x)) := by
    unfold exW
    rw [if_neg (by decide +kernel)]
  rw [e]
  simp [f_law_by_place, b_law_by_place, f_law_low, b_law_low, runD, initR, eX1, eX0, leave]
theorem nl_0 : f_law_by_name [.d (.int 0), .d x] μ = .ok (exW ("InvalidFraction", "given") x) μ := by
  have e : exW ("InvalidFraction", "given") x = .x "InvalidFraction" (ClsN.A "InvalidFraction") (some ("given", x)) := by
    unfold exW
    rw [if_neg (by decide +kernel)]
  rw [e]
  simp [f_law_by_name, b_law_by_name, f_law_low_name, b_law_low_name, runD, initR, eX1, eX0, leave]
theorem pl_1 : f_law_by_place [.d (.int 1), .d x] μ = .ok (exW ("InvalidRow", "given") x) μ := by
  have e : exW ("InvalidRow", "given") x = .x "InvalidRow" (ClsN.A "InvalidRow") (some ("given", x)) := by
    unfold exW
    rw [if_neg (by decide +kernel)]
  rw [e]
  simp [f_law_by_place, b_law_by_place, f_law_low, b_law_low, runD, initR, eX1, eX0, leave]
theorem nl_1 : f_law_by_name [.d (.int 1), .d x] μ = .ok (exW ("InvalidRow", "given") x) μ := by
  have e : exW ("InvalidRow", "given") x = .x "InvalidRow" (ClsN.A "InvalidRow") (some ("given", x)) := by
    unfold exW
    rw [if_neg (by decide +kernel)]
  rw [e]
  simp [f_law_by_name, b_law_by_name, f_law_low_name, b_law_low_name, runD, initR, eX1, eX0, leave]
theorem pl_2 : f_law_by_place [.d (.int 2), .d x] μ = .ok (exW ("InvalidNumber", "given") x) μ := by
  have e : exW ("InvalidNumber", "given") x = .x "InvalidNumber" (ClsN.A "InvalidNumber") (some ("given", x)) := by
    unfold exW
    rw [if_neg (by decide +kernel)]
  rw [e]
  simp [f_law_by_place, b_law_by_place, f_law_low, b_law_low, runD, initR, eX1, eX0, leave]
theorem nl_2 : f_law_by_name [.d (.int 2), .d x] μ = .ok (exW ("InvalidNumber", "given") x) μ := by
  have e : exW ("InvalidNumber", "given") x = .x "InvalidNumber" (ClsN.A "InvalidNumber") (some ("given", x)) := by
    unfold exW
    rw [if_neg (by decide +kernel)]
  rw [e]
  simp [f_law_by_name, b_law_by_name, f_law_low_name, b_law_low_name, runD, initR, eX1, eX0, leave]
theorem pl_3 : f_law_by_place [.d (.int 3), .d x] μ = .ok (exW ("InvalidForm", "given") x) μ := by
  have e : exW ("InvalidForm", "given") x = .x "InvalidForm" (ClsN.A "InvalidForm") (some ("given", x)) := by
    unfold exW
    rw [if_neg (by decide +kernel)]
  rw [e]
  simp [f_law_by_place, b_law_by_place, f_law_low, b_law_low, runD, initR, eX1, eX0, leave]
theorem nl_3 : f_law_by_name [.d (.int 3), .d x] μ = .ok (exW ("InvalidForm", "given") x) μ := by
  have e : exW ("InvalidForm", "given") x = .x "InvalidForm" (ClsN.A "InvalidForm") (some ("given", x)) := by
    unfold exW
    rw [if_neg (by decide +kernel)]
  rw [e]
  simp [f_law_by_name, b_law_by_name, f_law_low_name, b_law_low_name, runD, initR, eX1, eX0, leave]
theorem pl_4 : f_law_by_place [.d (.int 4), .d x] μ = .ok (exW ("InvalidIndex", "given") x) μ := by
  have e : exW ("InvalidIndex", "given") x = .x "InvalidIndex" (ClsN.A "InvalidIndex") (some ("given", x)) := by
    unfold exW
    rw [if_neg (by decide +kernel)]
  rw [e]
  simp [f_law_by_place, b_law_by_place, f_law_low, b_law_low, runD, initR, eX1, eX0, leave]
theorem nl_4 : f_law_by_name [.d (.int 4), .d x] μ = .ok (exW ("InvalidIndex", "given") x) μ := by
  have e : exW ("InvalidIndex", "given") x = .x "InvalidIndex" (ClsN.A "InvalidIndex") (some ("given", x)) := by
    unfold exW
    rw [if_neg (by decide +kernel)]
  rw [e]
  simp [f_law_by_name, b_law_by_name, f_law_low_name, b_law_low_name, runD, initR, eX1, eX0, leave]
theorem pl_5 : f_law_by_place [.d (.int 5), .d x] μ = .ok (exW ("InvalidCount", "given") x) μ := by
  have e : exW ("InvalidCount", "given") x = .x "InvalidCount" (ClsN.A "InvalidCount") (some ("given", x)) := by
    unfold exW
    rw [if_neg (by decide +kernel)]
  rw [e]
  simp [f_law_by_place, b_law_by_place, f_law_low, b_law_low, runD, initR, eX1, eX0, leave]
theorem nl_5 : f_law_by_name [.d (.int 5), .d x] μ = .ok (exW ("InvalidCount", "given") x) μ := by
  have e : exW ("InvalidCount", "given") x = .x "InvalidCount" (ClsN.A "InvalidCount") (some ("given", x)) := by
    unfold exW
    rw [if_neg (by decide +kernel)]
  rw [e]
  simp [f_law_by_name, b_law_by_name, f_law_low_name, b_law_low_name, runD, initR, eX1, eX0, leave]
theorem pl_6 : f_law_by_place [.d (.int 6), .d x] μ = .ok (exW ("InvalidRelation", "given") x) μ := by
  have e : exW ("InvalidRelation", "given") x = .x "InvalidRelation" (ClsN.A "InvalidRelation") (some ("given", x)) := by
    unfold exW
    rw [if_neg (by decide +kernel)]
  rw [e]
  simp [f_law_by_place, b_law_by_place, f_law_low, b_law_low, runD, initR, eX1, eX0, leave]
theorem nl_6 : f_law_by_name [.d (.int 6), .d x] μ = .ok (exW ("InvalidRelation", "given") x) μ := by
  have e : exW ("InvalidRelation", "given") x = .x "InvalidRelation" (ClsN.A "InvalidRelation") (some ("given", x)) := by
    unfold exW
    rw [if_neg (by decide +kernel)]
  rw [e]
  simp [f_law_by_name, b_law_by_name, f_law_low_name, b_law_low_name, runD, initR, eX1, eX0, leave]
theorem pl_7 : f_law_by_place [.d (.int 7), .d x] μ = .ok (exW ("InvalidLetter", "given") x) μ := by
  have e : exW ("InvalidLetter", "given") x = .x "InvalidLetter" (ClsN.A "InvalidLetter") (some ("given", x)) := by
    unfold exW
    rw [if_neg (by decide +kernel)]
  rw [e]
  simp [f_law_by_place, b_law_by_place, f_law_low, b_law_low, runD, initR, eX1, eX0, leave]
theorem nl_7 : f_law_by_name [.d (.int 7), .d x] μ = .ok (exW ("InvalidLetter", "given") x) μ := by
  have e : exW ("InvalidLetter", "given") x = .x "InvalidLetter" (ClsN.A "InvalidLetter") (some ("given", x)) := by
    unfold exW
    rw [if_neg (by decide +kernel)]
  rw [e]
  simp [f_law_by_name, b_law_by_name, f_law_low_name, b_law_low_name, runD, initR, eX1, eX0, leave]
theorem pl_8 : f_law_by_place [.d (.int 8), .d x] μ = .ok (exW ("InvalidPoly", "given") x) μ := by
  have e : exW ("InvalidPoly", "given") x = .x "InvalidPoly" (ClsN.A "InvalidPoly") (some ("given", x)) := by
    unfold exW
    rw [if_neg (by decide +kernel)]
  rw [e]
  simp [f_law_by_place, b_law_by_place, f_law_low, b_law_low, runD, initR, eX1, eX0, leave]
theorem nl_8 : f_law_by_name [.d (.int 8), .d x] μ = .ok (exW ("InvalidPoly", "given") x) μ := by
  have e : exW ("InvalidPoly", "given") x = .x "InvalidPoly" (ClsN.A "InvalidPoly") (some ("given", x)) := by
    unfold exW
    rw [if_neg (by decide +kernel)]
  rw [e]
  simp [f_law_by_name, b_law_by_name, f_law_low_name, b_law_low_name, runD, initR, eX1, eX0, leave]
theorem pl_9 : f_law_by_place [.d (.int 9), .d x] μ = .ok (exW ("InvalidPlace", "given") x) μ := by
  have e : exW ("InvalidPlace", "given") x = .x "InvalidPlace" (ClsN.A "InvalidPlace") (some ("given", x)) := by
    unfold exW
    rw [if_neg (by decide +kernel)]
  rw [e]
  simp [f_law_by_place, b_law_by_place, f_law_low, b_law_low, runD, initR, eX1, eX0, leave]
theorem nl_9 : f_law_by_name [.d (.int 9), .d x] μ = .ok (exW ("InvalidPlace", "given") x) μ := by
  have e : exW ("InvalidPlace", "given") x = .x "InvalidPlace" (ClsN.A "InvalidPlace") (some ("given", x)) := by
    unfold exW
    rw [if_neg (by decide +kernel)]
  rw [e]
  simp [f_law_by_name, b_law_by_name, f_law_low_name, b_law_low_name, runD, initR, eX1, eX0, leave]
theorem pl_10 : f_law_by_place [.d (.int 10), .d x] μ = .ok (exW ("InvalidCell", "given") x) μ := by
  have e : exW ("InvalidCell", "given") x = .x "InvalidCell" (ClsN.A "InvalidCell") (some ("given", x)) := by
    unfold exW
    rw [if_neg (by decide +kernel)]
  rw [e]
  simp [f_law_by_place, b_law_by_place, f_law_low, b_law_low, runD, initR, eX1, eX0, leave]
theorem nl_10 : f_law_by_name [.d (.int 10), .d x] μ = .ok (exW ("InvalidCell", "given") x) μ := by
  have e : exW ("InvalidCell", "given") x = .x "InvalidCell" (ClsN.A "InvalidCell") (some ("given", x)) := by
    unfold exW
    rw [if_neg (by decide +kernel)]
  rw [e]
  simp [f_law_by_name, b_law_by_name, f_law_low_name, b_law_low_name, runD, initR, eX1, eX0, leave]
theorem pl_11 : f_law_by_place [.d (.int 11), .d x] μ = .ok (exW ("InvalidPoint", "given") x) μ := by
  have e : exW ("InvalidPoint", "given") x = .x "InvalidPoint" (ClsN.A "InvalidPoint") (some ("given", x)) := by
    unfold exW
    rw [if_neg (by decide +kernel)]
  rw [e]
  simp [f_law_by_place, b_law_by_place, f_law_low, b_law_low, runD, initR, eX1, eX0, leave]
theorem nl_11 : f_law_by_name [.d (.int 11), .d x] μ = .ok (exW ("InvalidPoint", "given") x) μ := by
  have e : exW ("InvalidPoint", "given") x = .x "InvalidPoint" (ClsN.A "InvalidPoint") (some ("given", x)) := by
    unfold exW
    rw [if_neg (by decide +kernel)]
  rw [e]
  simp [f_law_by_name, b_law_by_name, f_law_low_name, b_law_low_name, runD, initR, eX1, eX0, leave]
theorem pl_12 : f_law_by_place [.d (.int 12), .d x] μ = .ok (exW ("InvalidSaying", "given") x) μ := by
  have e : exW ("InvalidSaying", "given") x = .x "InvalidSaying" (ClsN.A "InvalidSaying") (some ("given", x)) := by
    unfold exW
    rw [if_neg (by decide +kernel)]
  rw [e]
  simp [f_law_by_place, b_law_by_place, f_law_low, b_law_low, runD, initR, eX1, eX0, leave]
theorem nl_12 : f_law_by_name [.d (.int 12), .d x] μ = .ok (exW ("InvalidSaying", "given") x) μ := by
  have e : exW ("InvalidSaying", "given") x = .x "InvalidSaying" (ClsN.A "InvalidSaying") (some ("given", x)) := by
    unfold exW
    rw [if_neg (by decide +kernel)]
  rw [e]
  simp [f_law_by_name, b_law_by_name, f_law_low_name, b_law_low_name, runD, initR, eX1, eX0, leave]
theorem pl_13 : f_law_by_place [.d (.int 13), .d x] μ = .ok (exW ("TooMany", "given") x) μ := by
  have e : exW ("TooMany", "given") x = .x "TooMany" (ClsN.A "TooMany") (some ("given", x)) := by
    unfold exW
    rw [if_neg (by decide +kernel)]
  rw [e]
  simp [f_law_by_place, b_law_by_place, f_law_low, b_law_low, runD, initR, eX1, eX0, leave]
theorem nl_13 : f_law_by_name [.d (.int 13), .d x] μ = .ok (exW ("TooMany", "given") x) μ := by
  have e : exW ("TooMany", "given") x = .x "TooMany" (ClsN.A "TooMany") (some ("given", x)) := by
    unfold exW
    rw [if_neg (by decide +kernel)]
  rw [e]
  simp [f_law_by_name, b_law_by_name, f_law_low_name, b_law_low_name, runD, initR, eX1, eX0, leave]
theorem pl_14 : f_law_by_place [.d (.int 14), .d x] μ = .ok (exW ("InvalidRows", "index") x) μ := by
  have e : exW ("InvalidRows", "index") x = .x "InvalidRows" (ClsN.A "InvalidRows") (some ("index", x)) := by
    unfold exW
    rw [if_neg (by decide +kernel)]
  rw [e]
  simp [f_law_by_place, b_law_by_place, f_law_low, b_law_low, runD, initR, eX1, eX0, leave]
theorem nl_14 : f_law_by_name [.d (.int 14), .d x] μ = .ok (exW ("InvalidRows", "index") x) μ := by
  have e : exW ("InvalidRows", "index") x = .x "InvalidRows" (ClsN.A "InvalidRows") (some ("index", x)) := by
    unfold exW
    rw [if_neg (by decide +kernel)]
  rw [e]
  simp [f_law_by_name, b_law_by_name, f_law_low_name, b_law_low_name, runD, initR, eX1, eX0, leave]
theorem pl_15 : f_law_by_place [.d (.int 15), .d x] μ = .ok (exW ("InvalidPolys", "index") x) μ := by
  have e : exW ("InvalidPolys", "index") x = .x "InvalidPolys" (ClsN.A "InvalidPolys") (some ("index", x)) := by
    unfold exW
    rw [if_neg (by decide +kernel)]
  rw [e]
  simp [f_law_by_place, b_law_by_place, f_law_low, b_law_low, runD, initR, eX1, eX0, leave]
theorem nl_15 : f_law_by_name [.d (.int 15), .d x] μ = .ok (exW ("InvalidPolys", "index") x) μ := by
  have e : exW ("InvalidPolys", "index") x = .x "InvalidPolys" (ClsN.A "InvalidPolys") (some ("index", x)) := by
    unfold exW
    rw [if_neg (by decide +kernel)]
  rw [e]
  simp [f_law_by_name, b_law_by_name, f_law_low_name, b_law_low_name, runD, initR, eX1, eX0, leave]
theorem pl_16 : f_law_by_place [.d (.int 16), .d x] μ = .ok (exW ("InvalidLines", "index") x) μ := by
  have e : exW ("InvalidLines", "index") x = .x "InvalidLines" (ClsN.A "InvalidLines") (some ("index", x)) := by
    unfold exW
    rw [if_neg (by decide +kernel)]
  rw [e]
  simp [f_law_by_place, b_law_by_place, f_law_low, b_law_low, runD, initR, eX1, eX0, leave]
theorem nl_16 : f_law_by_name [.d (.int 16), .d x] μ = .ok (exW ("InvalidLines", "index") x) μ := by
  have e : exW ("InvalidLines", "index") x = .x "InvalidLines" (ClsN.A "InvalidLines") (some ("index", x)) := by
    unfold exW
    rw [if_neg (by decide +kernel)]
  rw [e]
  simp [f_law_by_name, b_law_by_name, f_law_low_name, b_law_low_name, runD, initR, eX1, eX0, leave]
theorem pl_17 : f_law_by_place [.d (.int 17), .d x] μ = .ok (exW ("BadText", "spot") x) μ := by
  have e : exW ("BadText", "spot") x = .x "BadText" (ClsN.A "BadText") (some ("spot", x)) := by
    unfold exW
    rw [if_neg (by decide +kernel)]
  rw [e]
  simp [f_law_by_place, b_law_by_place, f_law_low, b_law_low, runD, initR, eX1, eX0, leave]
theorem nl_17 : f_law_by_name [.d (.int 17), .d x] μ = .ok (exW ("BadText", "spot") x) μ := by
  have e : exW ("BadText", "spot") x = .x "BadText" (ClsN.A "BadText") (some ("spot", x)) := by
    unfold exW
    rw [if_neg (by decide +kernel)]
  rw [e]
  simp [f_law_by_name, b_law_by_name, f_law_low_name, b_law_low_name, runD, initR, eX1, eX0, leave]
theorem pl_18 : f_law_by_place [.d (.int 18), .d x] μ = .ok (exW ("UnlikePlaces", "") x) μ := by
  have e : exW ("UnlikePlaces", "") x = .x "UnlikePlaces" (ClsN.A "UnlikePlaces") none := by
    unfold exW
    rw [if_pos rfl]
  rw [e]
  simp [f_law_by_place, b_law_by_place, f_law_low, b_law_low, runD, initR, eX1, eX0, leave]
theorem pl_19 : f_law_by_place [.d (.int 19), .d x] μ = .ok (exW ("LetterError", "") x) μ := by
  have e : exW ("LetterError", "") x = .x "LetterError" (ClsN.A "LetterError") none := by
    unfold exW
    rw [if_pos rfl]
  rw [e]
  simp [f_law_by_place, b_law_by_place, f_law_low, b_law_low, runD, initR, eX1, eX0, leave]
theorem t_place {a : Nat} (ha : a < 20) : ∃ q, plL[a]? = some q ∧ f_law_by_place [.d (.int (a : Int)), .d x] μ = .ok (exW q x) μ := by
  match a, ha with
  | 0, _ => exact ⟨_, rfl, pl_0⟩
  | 1, _ => exact ⟨_, rfl, pl_1⟩
  | 2, _ => exact ⟨_, rfl, pl_2⟩
  | 3, _ => exact ⟨_, rfl, pl_3⟩
  | 4, _ => exact ⟨_, rfl, pl_4⟩
  | 5, _ => exact ⟨_, rfl, pl_5⟩
  | 6, _ => exact ⟨_, rfl, pl_6⟩
  | 7, _ => exact ⟨_, rfl, pl_7⟩
  | 8, _ => exact ⟨_, rfl, pl_8⟩
  | 9, _ => exact ⟨_, rfl, pl_9⟩
  | 10, _ => exact ⟨_, rfl, pl_10⟩
  | 11, _ => exact ⟨_, rfl, pl_11⟩
  | 12, _ => exact ⟨_, rfl, pl_12⟩
  | 13, _ => exact ⟨_, rfl, pl_13⟩
  | 14, _ => exact ⟨_, rfl, pl_14⟩
  | 15, _ => exact ⟨_, rfl, pl_15⟩
  | 16, _ => exact ⟨_, rfl, pl_16⟩
  | 17, _ => exact ⟨_, rfl, pl_17⟩
  | 18, _ => exact ⟨_, rfl, pl_18⟩
  | 19, _ => exact ⟨_, rfl, pl_19⟩
  | n + 20, h => exact absurd h (by omega)
theorem t_name {a : Nat} (ha : a < 18) : ∃ q, plL[a]? = some q ∧ f_law_by_name [.d (.int (a : Int)), .d x] μ = .ok (exW q x) μ := by
  match a, ha with
  | 0, _ => exact ⟨_, rfl, nl_0⟩
  | 1, _ => exact ⟨_, rfl, nl_1⟩
  | 2, _ => exact ⟨_, rfl, nl_2⟩
  | 3, _ => exact ⟨_, rfl, nl_3⟩
  | 4, _ => exact ⟨_, rfl, nl_4⟩
  | 5, _ => exact ⟨_, rfl, nl_5⟩
  | 6, _ => exact ⟨_, rfl, nl_6⟩
  | 7, _ => exact ⟨_, rfl, nl_7⟩
  | 8, _ => exact ⟨_, rfl, nl_8⟩
  | 9, _ => exact ⟨_, rfl, nl_9⟩
  | 10, _ => exact ⟨_, rfl, nl_10⟩
  | 11, _ => exact ⟨_, rfl, nl_11⟩
  | 12, _ => exact ⟨_, rfl, nl_12⟩
  | 13, _ => exact ⟨_, rfl, nl_13⟩
  | 14, _ => exact ⟨_, rfl, nl_14⟩
  | 15, _ => exact ⟨_, rfl, nl_15⟩
  | 16, _ => exact ⟨_, rfl, nl_16⟩
  | 17, _ => exact ⟨_, rfl, nl_17⟩
  | n + 18, h => exact absurd h (by omega)
end
end LW
namespace LW
open PySem PySem.Spec TL
open L2 (atI ixN)
variable [TabN] [ClsN]
theorem eq_self {neg : Bool} {R : Str} {μ : Mu} : gEq neg (.d (.str R)) (.d (.str R)) μ = .ok (.d (.bool (if neg then false else true))) μ := by
  rw [v_eqd]
  simp [eqP, PyData.eqv]
theorem td_bools {B : Nat} : ∀ l : List Bool, TdL B l.length 0 (l.map PyData.bool)
  | [] => TdL.nil
  | b :: l => by
    have := TdL.cons (N := 0) (x := .bool b) ⟨rfl, Nat.le_refl _, Nat.le_refl _⟩ (td_bools (B := B) l)
    rw [List.length_cons]
    exact this.up (Nat.le_refl _) (by omega) (Nat.le_refl _)
noncomputable def MC : Ev := eFrz (lLc (iR1 (aCons (eK (.int 27)) aNil)) (gNm 3) bYes (eOr (e2 (gEq false) (eVar 3) (eVar 0)) (eChain (gCmp fun i j => decide (i < j)) (gCmp fun i j => decide (i < j)) (eK (.int 18)) (eVar 3) (eK (.int 22)))) [3])
def dueB (a e : Nat) : Bool := decide (e = a) || (decide (18 < e) && decide (e < 22))
section
variable {x : PyData} {μ : Mu} {a : Nat}
theorem mc_ok {w1 w2 : Wv} : MC [some (.d (.int (a : Int))), some w1, some w2, none] μ = .ok (.d (.list (((List.range 27).map (dueB a)).map PyData.bool))) μ := by
  have it : iR1 (aCons (eK (.int 27)) aNil) [some (.d (.int (a : Int))), some w1, some w2, none] μ = .ok ⟨(List.range 27).map fun e : Nat => PyData.int (e : Int), []⟩ μ := by
    have := it_r1 (ρ := [some (.d (.int (a : Int))), some w1, some w2, none]) (as := aCons (eK (.int 27)) aNil) (j := 27) (μ1 := μ) rfl (by omega) (by omega)
    rw [this]
    congr 2
  have lc := lc_of (f := fun e : Nat => PyData.int (e : Int)) (g := fun e => PyData.bool (dueB a e)) (i := 3) (e := eOr (e2 (gEq false) (eVar 3) (eVar 0)) (eChain (gCmp fun i j => decide (i < j)) (gCmp fun i j => decide (i < j)) (eK (.int 18)) (eVar 3) (eK (.int 22)))) it (by simp) (fun e he => by
    have q : gEq false (.d (.int (e : Int))) (.d (.int (a : Int))) μ = .ok (.d (.bool (decide ((e : Int) = (a : Int))))) μ := v_eq (x := .int (e : Int)) (y := .int (a : Int)) rfl rfl rfl
    simp only [x_or, x_e2, x_vs, x_v0, x_k, Out.bind_ok, q, x_calm, x_wB, x_chain, v_cmp, List.set_cons_succ, List.set_cons_zero]
    unfold dueB
    by_cases h : e = a
    · subst h
      simp
    · have h' : ¬ ((e : Int) = (a : Int)) := by omega
      simp only [decide_eq_false h, decide_eq_false h', Bool.false_or]
      by_cases h1 : 18 < e
      · have j1 : (18 : Int) < (e : Int) := by omega
        by_cases h2 : e < 22
        · have j2 : (e : Int) < 22 := by omega
          simp only [decide_eq_true h1, decide_eq_true h2, decide_eq_true j1, decide_eq_true j2]
          rfl
        · have j2 : ¬ (e : Int) < 22 := by omega
          simp only [decide_eq_true h1, decide_eq_false h2, decide_eq_true j1, decide_eq_false j2]
          rfl
      · have j1 : ¬ (18 : Int) < (e : Int) := by omega
        simp only [decide_eq_false h1, decide_eq_false j1]
        rfl)
  unfold MC
  rw [x_frz, lc, List.map_map]
  rfl
theorem t_made {q : Str × Str} {N D : Nat} (ha : a < 20) (hq : plL[a]? = some q) (hx : Td (10 ^ 26) N D x) (hN : N ≤ 1000) (hD : D ≤ 30) : f_law_is_made [.d (.int (a : Int)), .d x, exW q x] μ = .ok (.d (.bool true)) μ := by
  have qm : q ∈ plL := List.mem_of_getElem? hq
  have qc := plL_in q qm
  have tr : f_law_truths [exW q x] μ = .ok (.d (.list (((List.range 27).map (dueB a)).map PyData.bool))) μ := by
    unfold exW
    rw [t_truths (List.mem_map_of_mem qc)]
    have e : tgL.map (fun t => PyData.bool (ovr q.1 t)) = ((List.range 27).map (dueB a)).map PyData.bool := by
      rw [List.map_map]
      apply List.ext_getElem?
      intro e
      rw [List.getElem?_map, List.getElem?_map]
      by_cases he : e < 27
      · obtain ⟨t, ht⟩ : ∃ t, tgL[e]? = some t := ⟨_, List.getElem?_eq_getElem (show e < tgL.length from he)⟩
        rw [ht, List.getElem?_range he]
        have := plL_ov a ha e he q hq t ht
        show some (PyData.bool (ovr q.1 t)) = some (PyData.bool (dueB a e))
        rw [this]
        rfl
      · rw [List.getElem?_eq_none (show tgL.length ≤ e from Nat.le_of_not_lt he), List.getElem?_eq_none (by rw [List.length_range]; omega)]
        rfl
    rw [e]
  have rb : gReprD [.d (.list (((List.range 27).map (dueB a)).map PyData.bool))] μ = _ := ((td_bools (B := 10 ^ 26) ((List.range 27).map (dueB a))).lst).repr (by simp) (by omega)
  have rx := hx.repr (μ := μ) (by omega) (by omega)
  have mc := mc_ok (a := a) (w1 := .d x) (w2 := exW q x) (μ := μ)
  obtain ⟨Z, hZ⟩ : ∃ Z, Z = PyData.list (((List.range 27).map (dueB a)).map PyData.bool) := ⟨_, rfl⟩
  rw [← hZ] at tr rb mc
  have s1 : sIf (tB' (e2 (gEq true) (TL.en gReprD (aCons (cF 1 f_law_truths (aCons (eVar 2) aNil)) aNil)) (TL.en gReprD (aCons MC aNil)))) (sRet (eK (.bool false))) sNext [some (.d (.int (a : Int))), some (.d x), some (exW q x), none] μ = .ok (.nx [some (.d (.int (a : Int))), some (.d x), some (exW q x), none]) μ := by
    have c1 : TL.en gReprD (aCons (cF 1 f_law_truths (aCons (eVar 2) aNil)) aNil) [some (.d (.int (a : Int))), some (.d x), some (exW q x), none] μ = .ok (.d (.str Z.shown)) μ := by
      simp only [x_en, x_cons, x_nil, x_cF, x_vs, x_v0, Out.bind_ok, List.length_cons, List.length_nil, if_true, tr, rb, x_calm]
    have c2 : TL.en gReprD (aCons MC aNil) [some (.d (.int (a : Int))), some (.d x), some (exW q x), none] μ = .ok (.d (.str Z.shown)) μ := by
      simp only [x_en, x_cons, x_nil, mc, Out.bind_ok, rb, x_calm]
    have c3 : tB' (e2 (gEq true) (TL.en gReprD (aCons (cF 1 f_law_truths (aCons (eVar 2) aNil)) aNil)) (TL.en gReprD (aCons MC aNil))) [some (.d (.int (a : Int))), some (.d x), some (exW q x), none] μ = .ok false μ := by
      rw [x_tB, x_e2, c1, Out.bind_ok, c2, Out.bind_ok, eq_self]
      rfl
    rw [x_if, c3, liftO_ok, if_neg (by decide)]
    rfl
  have bd : b_law_is_made [some (.d (.int (a : Int))), some (.d x), some (exW q x), none] μ = .ok (.rt (.d (.bool true))) μ := by
    show sSeq (sIf (tB' (e2 (gEq true) (TL.en gReprD (aCons (cF 1 f_law_truths (aCons (eVar 2) aNil)) aNil)) (TL.en gReprD (aCons MC aNil)))) (sRet (eK (.bool false))) sNext) _ _ μ = _
    rw [seq_ok s1]
    by_cases h14 : a < 14
    · have i14 : (a : Int) < 14 := by omega
      have gf := xf_ok (x := x) (μ := μ) qc (plL_g a h14 q hq) (by decide +kernel)
      simp [i14, gf, rx, eq_self, -v_eqd]
    · have i14 : ¬ (a : Int) < 14 := by omega
      by_cases h17 : a < 17
      · have i17 : (a : Int) < 17 := by omega
        have gf := xf_ok (x := x) (μ := μ) qc (plL_i a h17 (by omega) q hq) (by decide +kernel)
        simp [i14, i17, gf, rx, eq_self, -v_eqd]
      · have i17 : ¬ (a : Int) < 17 := by omega
        by_cases h18 : 17 < a
        · have i18 : (17 : Int) < (a : Int) := by omega
          simp [i14, i17, i18]
        · have e17 : a = 17 := by omega
          subst e17
          have gf := xf_ok (x := x) (μ := μ) qc (plL_s q hq) (by decide +kernel)
          simp [gf, rx, eq_self, -v_eqd]
  show runD 4 b_law_is_made [.d (.int (a : Int)), .d x, exW q x] μ = _
  unfold runD
  rw [show initR 4 [.d (.int (a : Int)), .d x, exW q x] = [some (.d (.int (a : Int))), some (.d x), some (exW q x), none] from rfl, bd]
  show Out.ok (Wv.d (.bool true)) (μ.take μ.length) = _
  rw [List.take_length]
end
end LW
namespace LW
open PySem PySem.Spec TL
open L2 (atI ixN)
variable [TabN] [ClsN]
noncomputable def allE (n : Int) (f : GF) : Ev := TL.en gAll (aCons (eFrz (lLc (iR1 (aCons (eK (.int n)) aNil)) (gNm 2) bYes (cF 3 f_law_is_made (aCons (eVar 2) (aCons (eVar 1) (aCons (cF 2 f (aCons (eVar 2) (aCons (eVar 1) aNil))) aNil)))) [2])) aNil)
section
variable {μ : Mu} {k : Nat}
theorem all_ok {n : Nat} {f : GF} {x : PyData} {N D : Nat} (hn : n ≤ 20) (hf : ∀ a < n, ∃ q, plL[a]? = some q ∧ f [.d (.int (a : Int)), .d x] μ = .ok (exW q x) μ) (hx : Td (10 ^ 26) N D x) (hN : N ≤ 1000) (hD : D ≤ 30) :
    allE (n : Int) f [some (.r k), some (.d x), none] μ = .ok (.d (.bool true)) μ := by
  have it : iR1 (aCons (eK (.int (n : Int))) aNil) [some (.r k), some (.d x), none] μ = .ok ⟨(List.range n).map fun e : Nat => PyData.int (e : Int), []⟩ μ := by
    have := it_r1 (ρ := [some (.r k), some (.d x), none]) (as := aCons (eK (.int (n : Int))) aNil) (j := n) (μ1 := μ) rfl (by omega) (by omega)
    rw [this, Int.toNat_natCast]
    unfold intL
    congr 2
    refine List.map_congr_left fun e _ => ?_
    congr 1
    omega
  have lc := lc_of (f := fun e : Nat => PyData.int (e : Int)) (g := fun _ => PyData.bool true) (i := 2) (e := cF 3 f_law_is_made (aCons (eVar 2) (aCons (eVar 1) (aCons (cF 2 f (aCons (eVar 2) (aCons (eVar 1) aNil))) aNil)))) it (by simp; omega) (fun e he => by
    have he : e < n := List.mem_range.mp he
    obtain ⟨q, h1, h2⟩ := hf e he
    have h3 := t_made (μ := μ) (show e < 20 by omega) h1 hx hN hD
    simp only [x_cF, x_cons, x_nil, x_vs, x_v0, Out.bind_ok, List.set_cons_succ, List.set_cons_zero, List.length_cons, List.length_nil, if_true, h2, h3])
  have al := v_allm (xs := List.range n) (p := fun _ => true) (μ := μ)
  have tr : (List.range n).all (fun _ => true) = true := by simp
  rw [tr] at al
  unfold allE
  simp only [x_en, x_cons, x_nil, x_frz, lc, Out.bind_ok, x_calm]
  rw [al]
  rfl
theorem right_is : b_law_right = sSeq (sAsg (cF 2 f_law_spoilt (aCons (eVar 0) (aCons (eTup (aCons (cF 1 f_law_odd (aCons (eVar 0) aNil)) (aCons (cF 1 f_law_part (aCons (eVar 0) aNil)) (aCons (cF 1 f_law_odd (aCons (eVar 0) aNil)) aNil)))) aNil))) (gNm 1)) (sSeq (sIf (bNot (tB' (allE 20 f_law_by_place))) (sRet (eK (.bool false))) sNext) (sRet (allE 18 f_law_by_name))) := rfl
theorem t_right {c : Cell} (h : μ[k]? = some (some c)) (w : Wl 0 c) : ∃ c', f_law_right [.r k] μ = .ok (.d (.bool true)) (μ.set k (some c')) := by
  obtain ⟨x1, c1, e1, w1, d1⟩ := t_odd h w (by omega)
  have h1 : (μ.set k (some c1))[k]? = some (some c1) := get_set h
  obtain ⟨x2, c2, e2, w2, d2⟩ := t_part h1 w1 (by omega)
  rw [List.set_set] at e2
  have h2 : (μ.set k (some c2))[k]? = some (some c2) := get_set h
  obtain ⟨x3, c3, e3, w3, d3⟩ := t_odd h2 w2 (by omega)
  rw [List.set_set] at e3
  have h3 : (μ.set k (some c3))[k]? = some (some c3) := get_set h
  have dt : Td (10 ^ 25) 45 4 (.tuple [x1, x2, x3]) := (TdL.cons d1 (TdL.cons (d2.up (Nat.le_refl _) (Nat.le_refl _) (show 1 ≤ 3 by omega)) (TdL.cons d3 (TdL.nil (N := 0))))).tup
  obtain ⟨y, c4, e4, w4, d4⟩ := t_spoilt h3 w3 (by omega) dt
  rw [List.set_set] at e4
  refine ⟨c4, ?_⟩
  have s1 : sAsg (cF 2 f_law_spoilt (aCons (eVar 0) (aCons (eTup (aCons (cF 1 f_law_odd (aCons (eVar 0) aNil)) (aCons (cF 1 f_law_part (aCons (eVar 0) aNil)) (aCons (cF 1 f_law_odd (aCons (eVar 0) aNil)) aNil)))) aNil))) (gNm 1) [some (.r k), none, none] μ = .ok (.nx [some (.r k), some (.d y), none]) (μ.set k (some c4)) := by
    rw [asg_ok (w := .d y) (μ' := μ.set k (some c4))]
    · rfl
    · simp [e1, e2, e3, e4]
  have a1 := all_ok (μ := μ.set k (some c4)) (k := k) (n := 20) (f := f_law_by_place) (Nat.le_refl _) (fun a ha => t_place ha) d4 (by omega) (by omega)
  have a2 := all_ok (μ := μ.set k (some c4)) (k := k) (n := 18) (f := f_law_by_name) (by omega) (fun a ha => t_name ha) d4 (by omega) (by omega)
  have a1 : allE 20 f_law_by_place [some (.r k), some (.d y), none] (μ.set k (some c4)) = .ok (.d (.bool true)) (μ.set k (some c4)) := a1
  have a2 : allE 18 f_law_by_name [some (.r k), some (.d y), none] (μ.set k (some c4)) = .ok (.d (.bool true)) (μ.set k (some c4)) := a2
  have bd : b_law_right [some (.r k), none, none] μ = .ok (.rt (.d (.bool true))) (μ.set k (some c4)) := by
    rw [right_is, seq_ok s1]
    have s2 : sIf (bNot (tB' (allE 20 f_law_by_place))) (sRet (eK (.bool false))) sNext [some (.r k), some (.d y), none] (μ.set k (some c4)) = .ok (.nx [some (.r k), some (.d y), none]) (μ.set k (some c4)) := by
      simp [a1]
    rw [seq_ok s2, x_ret, a2]
    rfl
  show runD 3 b_law_right [.r k] μ = _
  unfold runD
  rw [show initR 3 [.r k] = [some (.r k), none, none] from rfl, bd]
  show Out.ok (Wv.d (.bool true)) ((μ.set k (some c4)).take μ.length) = _
  rw [List.take_of_length_le (by rw [List.length_set]; exact Nat.le_refl _)]
end
end LW
namespace LW
open PySem PySem.Spec TL
open L2 (atI ixN)
variable [TabN] [ClsN]
theorem law_told : ∀ ns : List Int, ns.length ≤ 63 → (∀ z ∈ ns, Builtin.Int.intBits z ≤ 1048576) → arity 1 f_law [.d (.list (ns.map PyData.int))] [] = .ok (.d (.bool true)) [] := by
  intro ns hn _
  have hj : ∃ j : Int, en gMax (aCons (eK (.int 2)) (aCons (en gMin (aCons (en gLen (aCons (eVar 0) aNil)) (aCons (eK (.int 3)) aNil))) aNil)) [some (.d (.list (ns.map PyData.int))), none] [] = .ok (.d (.int j)) [] ∧ 0 ≤ j ∧ j ≤ 100 := by
    refine ⟨if (if (3 : Int) < ns.length then 3 else (ns.length : Int)) > 2 then (if (3 : Int) < ns.length then 3 else (ns.length : Int)) else 2, ?_, ?_⟩
    · simp [gMax, gMin]
    · split <;> split <;> omega
  obtain ⟨j, ej, j0, j1⟩ := hj
  obtain ⟨ys, μ', e, _, hl, hr⟩ := lc_run (Iv := fun _ _ => True) (R := fun _ y => y = .bool true) (it := iR1 (aCons (en gMax (aCons (eK (.int 2)) (aCons (en gMin (aCons (en gLen (aCons (eVar 0) aNil)) (aCons (eK (.int 3)) aNil))) aNil))) aNil)) (xs := intL 0 j.toNat 1) (i := 1)
    (e := cF 1 f_law_right (aCons (cF 2 f_law_well (aCons (eVar 0) (aCons (eVar 1) aNil))) aNil)) (ρ := [some (.d (.list (ns.map PyData.int))), none]) (μ := []) (μ1 := [])
    (it_r1 (by rw [x_cons, ej]; rfl) (by omega) (by omega)) trivial (by rw [intL_len]; omega) fun x hx n μ _ => by
      obtain ⟨q, hq, rfl⟩ := List.mem_map.mp hx
      have hq : q < j.toNat := List.mem_range.mp hq
      have eq : (0 : Int) + (q : Int) * 1 = (q : Int) := by omega
      rw [eq]
      obtain ⟨c, e1, w⟩ := t_well (ns := ns) (i := q) (μ := μ) (by omega)
      obtain ⟨c', e2⟩ := t_right (k := μ.length) (μ := μ ++ [some c]) (by simp) w
      exact ⟨.bool true, μ ++ [some c'], by simp [e1, e2], trivial, rfl⟩
  have hb : ys = (List.replicate ys.length true).map PyData.bool := by
    apply List.ext_getElem?
    intro k
    by_cases hk : k < ys.length
    · have hk' : k < (intL 0 j.toNat 1).length := by omega
      rw [List.getElem?_eq_getElem hk, hr k _ _ (List.getElem?_eq_getElem hk') (List.getElem?_eq_getElem hk)]
      simp [hk]
    · rw [List.getElem?_eq_none (by omega), List.getElem?_eq_none (by simp; omega)]
  have ga : gAll [.d (.list ys)] μ' = .ok (.d (.bool true)) μ' := by
    rw [hb]
    show (match boolsOf ((List.replicate ys.length true).map PyData.bool) with
      | some bs => Out.ok (wBl (bs.all id)) μ'
      | none => Out.bad) = _
    rw [boolsOf_bools]
    simp
  show f_law [.d (.list (ns.map PyData.int))] [] = _
  have q : b_law [some (.d (.list (ns.map PyData.int))), none] [] = .ok (.rt (.d (.bool true))) μ' := by
    unfold b_law
    simp [e, ga]
  show (match b_law [some (.d (.list (ns.map PyData.int))), none] [] with
      | .ok (.rt w) μ' => leave 0 w μ'
      | .ok (.nx _) μ' => leave 0 (.d .none) μ'
      | .ok (.er x us _) μ' => match allD us with
        | some c => .err x (c.map Wv.d) (μ'.take 0)
        | none => .bad
      | _ => .bad) = _
  rw [q]
  rfl
end LW
namespace LW
open PySem PySem.Spec L2 PyProof.Rows TL
variable [TabN] [ClsN]
structure LE (w : World) (K : PySem.W.Frag) (mg : Str → Option Value) (base : Heap) : Prop where
  xs : XFac clsL K mg
  sys : ∃ o, base.get? PySem.sysModules = some o
  sysK : K.lookup PySem.sysModules = none
  d_law_well : ∃ f fd, mg "_law_well" = some (.ref f) ∧ Fun K "_law_well" "_law_well" st_law_well f fd
  d_law_draw : ∃ f fd, mg "_law_draw" = some (.ref f) ∧ Fun K "_law_draw" "_law_draw" st_law_draw f fd
  d_law_pick : ∃ f fd, mg "_law_pick" = some (.ref f) ∧ Fun K "_law_pick" "_law_pick" st_law_pick f fd
  d_law_common : ∃ f fd, mg "_law_common" = some (.ref f) ∧ Fun K "_law_common" "_law_common" st_law_common f fd
  d_law_lean : ∃ f fd, mg "_law_lean" = some (.ref f) ∧ Fun K "_law_lean" "_law_lean" st_law_lean f fd
  d_law_small : ∃ f fd, mg "_law_small" = some (.ref f) ∧ Fun K "_law_small" "_law_small" st_law_small f fd
  d_law_part : ∃ f fd, mg "_law_part" = some (.ref f) ∧ Fun K "_law_part" "_law_part" st_law_part f fd
  d_law_odd : ∃ f fd, mg "_law_odd" = some (.ref f) ∧ Fun K "_law_odd" "_law_odd" st_law_odd f fd
  d_law_bent : ∃ f fd, mg "_law_bent" = some (.ref f) ∧ Fun K "_law_bent" "_law_bent" st_law_bent f fd
  d_law_spoilt : ∃ f fd, mg "_law_spoilt" = some (.ref f) ∧ Fun K "_law_spoilt" "_law_spoilt" st_law_spoilt f fd
  d_law_low : ∃ f fd, mg "_law_low" = some (.ref f) ∧ Fun K "_law_low" "_law_low" st_law_low f fd
  d_law_by_place : ∃ f fd, mg "_law_by_place" = some (.ref f) ∧ Fun K "_law_by_place" "_law_by_place" st_law_by_place f fd
  d_law_low_name : ∃ f fd, mg "_law_low_name" = some (.ref f) ∧ Fun K "_law_low_name" "_law_low_name" st_law_low_name f fd
  d_law_by_name : ∃ f fd, mg "_law_by_name" = some (.ref f) ∧ Fun K "_law_by_name" "_law_by_name" st_law_by_name f fd
  d_law_truths : ∃ f fd, mg "_law_truths" = some (.ref f) ∧ Fun K "_law_truths" "_law_truths" st_law_truths f fd
  d_law_is_made : ∃ f fd, mg "_law_is_made" = some (.ref f) ∧ Fun K "_law_is_made" "_law_is_made" st_law_is_made f fd
  d_law_right : ∃ f fd, mg "_law_right" = some (.ref f) ∧ Fun K "_law_right" "_law_right" st_law_right f fd
  d_law : ∃ f fd, mg "law" = some (.ref f) ∧ Fun K "law" "law" st_law f fd
  z_ArithmeticError : mg "ArithmeticError" = none
  z_AttributeError : mg "AttributeError" = none
  z_Exception : mg "Exception" = none
  z_LookupError : mg "LookupError" = none
  z_RuntimeError : mg "RuntimeError" = none
  z_TypeError : mg "TypeError" = none
  z_ValueError : mg "ValueError" = none
  z_abs : mg "abs" = none
  z_all : mg "all" = none
  z_divmod : mg "divmod" = none
  z_int : mg "int" = none
  z_isinstance : mg "isinstance" = none
  z_len : mg "len" = none
  z_list : mg "list" = none
  z_max : mg "max" = none
  z_min : mg "min" = none
  z_range : mg "range" = none
  z_repr : mg "repr" = none
  z_tuple : mg "tuple" = none

section
variable {P : Program} {w : World} {K : PySem.W.Frag} {mg : Str → Option Value} {base : Heap}

theorem ok_law_well (L : LE w K mg base) : ∃ f fd, Has P w K mg base 1 "_law_well" st_law_well ["_law_script", "_law_at"] 2 f_law_well f fd := by
  obtain ⟨f, fd, m, F⟩ := L.d_law_well
  refine ⟨f, fd, m, F, bd_law_well F, ?_⟩
  refine fng_sem (k := 0) F sc_law_well fun cdv A outer s H E hr hg => ?_
  exact (ss_cons (xSet 2 sc_law_well.nd (se_op op_gPlus se_int (se_op op_gTimes se_int (xV 1))))
      (ss_cons (xFor (passes_of rfl) rfl (si_any (se_sl (xV 0) so_none (so_some se_int))) (xNm 3 sc_law_well.nd) (ss_one (xSet 2 sc_law_well.nd (se_op op_gMod (xTy cr_gInt bt_int L.z_int (by rfl) (xA (se_op op_gPlus (se_op op_gPlus (se_op op_gTimes (xV 2) se_int) (se_op op_gMod (xTy cr_gInt bt_int L.z_int (by rfl) (xA (xV 3) sa_nil)) se_int)) se_int) sa_nil)) se_int))))
      (ss_cons (xSet 4 sc_law_well.nd (se_if (xtCmp op_gLt (xV 1) (xBi cr_gLen bt_len L.z_len (by rfl) (xA (xV 0) sa_nil))) (xTy cr_gInt bt_int L.z_int (by rfl) (xA (xIx (xV 0) (xV 1)) sa_nil)) se_int))
      (ss_cons (xSet 2 sc_law_well.nd (se_op op_gMod (xTy cr_gInt bt_int L.z_int (by rfl) (xA (se_op op_gPlus (se_op op_gPlus (se_op op_gTimes (xV 2) se_int) (se_op op_gTimes (se_op op_gMod (xTy cr_gInt bt_int L.z_int (by rfl) (xA (xV 4) sa_nil)) se_int) se_int)) se_int) sa_nil)) se_int))
      (ss_one (ss_ret (se_new (sl_disp (xA (se_if (sw_or (xtCmp op_gLt (xV 4) se_int) (sw_or1 (xtCmp op_gGe (xV 4) (se_op op_gPow se_int se_int)))).pt (xBi cr_gAbs bt_abs L.z_abs (by rfl) (xA (xV 4) sa_nil)) se_int) (xA (xV 2) (xA se_int sa_nil)))))))))))

theorem ok_law_draw (L : LE w K mg base) : ∃ f fd, Has P w K mg base 1 "_law_draw" st_law_draw ["_law_well_here", "_law_few"] 2 f_law_draw f fd := by
  obtain ⟨f, fd, m, F⟩ := L.d_law_draw
  refine ⟨f, fd, m, F, bd_law_draw F, ?_⟩
  refine fng_sem (k := 0) F sc_law_draw fun cdv A outer s H E hr hg => ?_
  exact (ss_cons (ss_if (xtCmp op_gGt (xIx (xV 0) se_int) se_int) (ss_cons (xAsg (xBi cr_gDivmod bt_divmod L.z_divmod (by rfl) (xA (xIx (xV 0) se_int) (xA (xV 1) sa_nil))) (xGT rfl (xG (xGS (xV 0) se_int) (xG (xNm 3 sc_law_draw.nd) sgs_nil))))
      (ss_one (ss_ret (xV 3)))) ss_nil)
      (ss_cons (xAsg (se_op op_gPlus (xIx (xV 0) se_int) se_int) (xGS (xV 0) se_int))
      (ss_cons (xSet 2 sc_law_draw.nd (se_op op_gMod (xTy cr_gInt bt_int L.z_int (by rfl) (xA (se_op op_gPlus (xIx (xV 0) se_int) (se_op op_gTimes se_int (xIx (xV 0) se_int))) sa_nil)) se_int))
      (ss_cons (xAsg (se_op op_gMod (xTy cr_gInt bt_int L.z_int (by rfl) (xA (se_op op_gPlus (se_op op_gTimes (xV 2) (se_op op_gPlus (se_op op_gMod (xTy cr_gInt bt_int L.z_int (by rfl) (xA (xV 2) sa_nil)) se_int) se_int)) (se_op op_gTimes se_int (xIx (xV 0) se_int))) sa_nil)) se_int) (xGS (xV 0) se_int))
      (ss_one (ss_ret (se_op op_gMod (xTy cr_gInt bt_int L.z_int (by rfl) (xA (se_op op_gDiv (xIx (xV 0) se_int) se_int) sa_nil)) (xV 1))))))))

theorem ok_law_pick (L : LE w K mg base) : ∃ f fd, Has P w K mg base 2 "_law_pick" st_law_pick ["_law_well_here", "_law_some"] 2 f_law_pick f fd := by
  obtain ⟨_, _, h_law_draw⟩ := ok_law_draw (P := P) (w := w) (base := base) L
  obtain ⟨f, fd, m, F⟩ := L.d_law_pick
  refine ⟨f, fd, m, F, bd_law_pick F, ?_⟩
  refine fng_sem (k := 1) F sc_law_pick fun cdv A outer s H E hr hg => ?_
  exact (ss_one (ss_ret (xIx (xV 1) (xCall h_law_draw (by decide) hr hg (takes_of rfl rfl rfl rfl) (by rfl) (xA (xV 0) (xA (xBi cr_gLen bt_len L.z_len (by rfl) (xA (xV 1) sa_nil)) sa_nil))))))

theorem ok_law_common (L : LE w K mg base) : ∃ f fd, Has P w K mg base 1 "_law_common" st_law_common ["_law_one", "_law_two"] 2 f_law_common f fd := by
  obtain ⟨f, fd, m, F⟩ := L.d_law_common
  refine ⟨f, fd, m, F, bd_law_common F, ?_⟩
  refine fng_sem (k := 0) F sc_law_common fun cdv A outer s H E hr hg => ?_
  exact (ss_cons (xPar 2 3 rfl sc_law_common.nd (xA (xBi cr_gAbs bt_abs L.z_abs (by rfl) (xA (xV 0) sa_nil)) (xA (xBi cr_gAbs bt_abs L.z_abs (by rfl) (xA (xV 1) sa_nil)) sa_nil)))
      (ss_cons (ss_whileN (passes_of rfl) (xtCmp (op_gNe (hu64 hr)) (xV 3) se_int) (ss_one (xPar 2 3 rfl sc_law_common.nd (xA (xV 3) (xA (se_op op_gMod (xTy cr_gInt bt_int L.z_int (by rfl) (xA (xV 2) sa_nil)) (xV 3)) sa_nil)))))
      (ss_one (ss_ret (xV 2)))))

theorem ok_law_lean (L : LE w K mg base) : ∃ f fd, Has P w K mg base 2 "_law_lean" st_law_lean ["_law_top", "_law_base"] 2 f_law_lean f fd := by
  obtain ⟨_, _, h_law_common⟩ := ok_law_common (P := P) (w := w) (base := base) L
  obtain ⟨f, fd, m, F⟩ := L.d_law_lean
  refine ⟨f, fd, m, F, bd_law_lean F, ?_⟩
  refine fng_sem (k := 1) F sc_law_lean fun cdv A outer s H E hr hg => ?_
  exact (ss_cons (xSet 2 sc_law_lean.nd (se_if (xtCmp op_gGt (xV 1) se_int) (xCall h_law_common (by decide) hr hg (takes_of rfl rfl rfl rfl) (by rfl) (xA (xV 0) (xA (xV 1) sa_nil))) (se_op op_gSub se_int (xCall h_law_common (by decide) hr hg (takes_of rfl rfl rfl rfl) (by rfl) (xA (xV 0) (xA (xV 1) sa_nil))))))
      (ss_one (ss_ret (se_tup (xA (se_op op_gDiv (xV 0) (xV 2)) (xA (se_op op_gDiv (xV 1) (xV 2)) sa_nil))))))

theorem ok_law_small (L : LE w K mg base) : ∃ f fd, Has P w K mg base 2 "_law_small" st_law_small ["_law_well_here"] 1 f_law_small f fd := by
  obtain ⟨_, _, h_law_draw⟩ := ok_law_draw (P := P) (w := w) (base := base) L
  obtain ⟨f, fd, m, F⟩ := L.d_law_small
  refine ⟨f, fd, m, F, bd_law_small F, ?_⟩
  refine fng_sem (k := 1) F sc_law_small fun cdv A outer s H E hr hg => ?_
  exact (ss_cons (xSet 1 sc_law_small.nd (xCall h_law_draw (by decide) hr hg (takes_of rfl rfl rfl rfl) (by rfl) (xA (xV 0) (xA se_int sa_nil))))
      (ss_cons (ss_if (xtCmp op_gLt (xV 1) se_int) (ss_one (ss_ret (se_op op_gSub (xCall h_law_draw (by decide) hr hg (takes_of rfl rfl rfl rfl) (by rfl) (xA (xV 0) (xA se_int sa_nil))) se_int))) ss_nil)
      (ss_one (ss_ret (se_if (xtCmp op_gLt (xV 1) se_int) (se_op op_gSub (xCall h_law_draw (by decide) hr hg (takes_of rfl rfl rfl rfl) (by rfl) (xA (xV 0) (xA se_int sa_nil))) se_int) (se_op op_gSub (xCall h_law_draw (by decide) hr hg (takes_of rfl rfl rfl rfl) (by rfl) (xA (xV 0) (xA se_int sa_nil))) se_int))))))

theorem ok_law_part (L : LE w K mg base) : ∃ f fd, Has P w K mg base 3 "_law_part" st_law_part ["_law_well_here"] 1 f_law_part f fd := by
  obtain ⟨_, _, h_law_pick⟩ := ok_law_pick (P := P) (w := w) (base := base) L
  obtain ⟨_, _, h_law_lean⟩ := ok_law_lean (P := P) (w := w) (base := base) L
  obtain ⟨_, _, h_law_small⟩ := ok_law_small (P := P) (w := w) (base := base) L
  obtain ⟨f, fd, m, F⟩ := L.d_law_part
  refine ⟨f, fd, m, F, bd_law_part F, ?_⟩
  refine fng_sem (k := 2) F sc_law_part fun cdv A outer s H E hr hg => ?_
  exact (ss_cons (xSet 1 sc_law_part.nd (xCall h_law_small (by decide) hr hg (takes_of rfl rfl rfl rfl) (by rfl) (xA (xV 0) sa_nil)))
      (ss_one (ss_ret (xCall h_law_lean (by decide) hr hg (takes_of rfl rfl rfl rfl) (by rfl) (xA (xV 1) (xA (xCall h_law_pick (by decide) hr hg (takes_of rfl rfl rfl rfl) (by rfl) (xA (xV 0) (xA (se_tup (xA se_int (xA se_int (xA se_int (xA se_int (xA se_int (xA se_int (xA se_int (xA se_int sa_nil))))))))) sa_nil))) sa_nil))))))

theorem ok_law_odd (L : LE w K mg base) : ∃ f fd, Has P w K mg base 3 "_law_odd" st_law_odd ["_law_well_here"] 1 f_law_odd f fd := by
  obtain ⟨_, _, h_law_pick⟩ := ok_law_pick (P := P) (w := w) (base := base) L
  obtain ⟨f, fd, m, F⟩ := L.d_law_odd
  refine ⟨f, fd, m, F, bd_law_odd F, ?_⟩
  refine fng_sem (k := 2) F sc_law_odd fun cdv A outer s H E hr hg => ?_
  exact (ss_one (ss_ret (xCall h_law_pick (by decide) hr hg (takes_of rfl rfl rfl rfl) (by rfl) (xA (xV 0) (xA (se_tup (xA se_non (xA se_bl (xA se_bl (xA se_int (xA se_int (xA (se_un un_gNeg se_int) (xA se_int (xA (se_op op_gPow se_int se_int) (xA se_str (xA se_str (xA se_str (xA (se_tup sa_nil) (xA (se_tup (xA se_int sa_nil)) (xA (se_tup (xA se_int sa_nil)) (xA (se_tup (xA se_int (xA se_int sa_nil))) (xA (se_tup (xA se_int (xA se_int sa_nil))) (xA (se_tup (xA se_int (xA se_int sa_nil))) (xA (se_tup (xA se_int (xA se_int sa_nil))) (xA (se_tup (xA se_int (xA se_int sa_nil))) (xA (se_tup (xA se_int (xA (se_un un_gNeg se_int) sa_nil))) (xA (se_tup (xA se_bl (xA se_int sa_nil))) (xA (se_tup (xA se_int (xA se_bl sa_nil))) (xA (se_tup (xA se_int (xA se_int (xA se_int sa_nil)))) (xA (se_tup (xA se_int (xA se_int (xA se_int sa_nil)))) (xA (se_tup (xA (se_tup sa_nil) sa_nil)) (xA (se_tup (xA (se_tup (xA se_int (xA se_int sa_nil))) sa_nil)) (xA (se_tup (xA (se_tup (xA se_int (xA se_int sa_nil))) (xA (se_tup (xA se_int (xA se_int sa_nil))) sa_nil))) (xA (se_tup (xA (se_tup (xA se_int sa_nil)) (xA (se_tup (xA se_int (xA se_int sa_nil))) sa_nil))) (xA (se_frz (sl_disp sa_nil)) (xA (se_frz (sl_disp (xA se_int (xA se_int sa_nil)))) (xA (se_frz (sl_disp (xA (se_tup (xA se_int (xA se_int sa_nil))) sa_nil))) (xA se_dic (xA (se_tup (xA se_non (xA se_int sa_nil))) (xA (se_tup (xA se_str (xA se_int sa_nil))) (xA (se_tup (xA (se_tup (xA (se_un un_gNeg se_int) (xA se_int (xA se_int sa_nil)))) (xA se_int sa_nil))) (xA (se_tup (xA (se_tup (xA (se_un un_gNeg se_int) (xA se_int (xA se_int sa_nil)))) (xA se_int sa_nil))) (xA (se_tup (xA (se_tup (xA (se_un un_gNeg se_int) (xA se_int (xA se_int sa_nil)))) (xA se_bl sa_nil))) (xA (se_tup (xA (se_tup (xA (se_un un_gNeg se_int) (xA se_int (xA se_int sa_nil)))) (xA (se_un un_gNeg se_int) sa_nil))) (xA (se_tup (xA (se_tup (xA se_int (xA se_int (xA (se_un un_gNeg se_int) sa_nil)))) (xA se_int sa_nil))) (xA (se_tup (xA (se_tup (xA (se_un un_gNeg se_int) (xA se_int (xA se_int sa_nil)))) (xA se_int sa_nil))) (xA (se_tup (xA (se_tup (xA (se_un un_gNeg se_int) (xA se_int (xA se_int sa_nil)))) (xA se_int sa_nil))) (xA (se_tup (xA (se_tup (xA se_int (xA se_int (xA (se_un un_gNeg se_int) (xA se_int (xA se_int sa_nil)))))) (xA se_int sa_nil))) (xA (se_tup (xA (se_tup sa_nil) (xA (se_tup (xA se_bl sa_nil)) sa_nil))) (xA (se_tup (xA (se_tup sa_nil) (xA (se_tup (xA se_int sa_nil)) sa_nil))) (xA (se_tup (xA (se_tup (xA (se_tup (xA se_int (xA se_int sa_nil))) sa_nil)) (xA (se_tup (xA se_bl (xA se_bl (xA se_bl sa_nil)))) sa_nil))) (xA (se_tup (xA se_str sa_nil)) (xA se_str (xA (se_tup (xA se_int (xA se_int sa_nil))) (xA (se_tup (xA (se_tup (xA (se_tup (xA se_int (xA se_int sa_nil))) sa_nil)) (xA (se_tup (xA se_bl (xA se_bl (xA se_bl sa_nil)))) sa_nil))) (xA (se_tup (xA se_str (xA (se_tup (xA (se_tup (xA se_int (xA se_int sa_nil))) sa_nil)) sa_nil))) (xA (se_tup (xA (se_frz (sl_disp (xA se_int (xA se_int sa_nil)))) (xA se_int sa_nil))) (xA (se_tup (xA (se_tup (xA se_int (xA se_int sa_nil))) (xA (se_tup sa_nil) sa_nil))) sa_nil))))))))))))))))))))))))))))))))))))))))))))))))))))) sa_nil)))))

theorem ok_law_bent (n : Nat) (L : LE w K mg base) : ∃ f fd, Has P w K mg base (3 + n) "_law_bent" st_law_bent ["_law_well_here", "_law_thing"] 2 (f_law_bent n) f fd := by
  obtain ⟨_, _, h_law_draw⟩ := ok_law_draw (P := P) (w := w) (base := base) L
  obtain ⟨_, _, h_law_odd⟩ := ok_law_odd (P := P) (w := w) (base := base) L
  obtain ⟨f, fd, m, F⟩ := L.d_law_bent
  refine ⟨f, fd, m, F, bd_law_bent F, ?_⟩
  induction n with
  | zero => exact fng_bad rfl
  | succ n ih =>
    have hrec : Has P w K mg base (3 + n) "_law_bent" st_law_bent ["_law_well_here", "_law_thing"] 2 (f_law_bent n) f fd := ⟨m, F, bd_law_bent F, ih⟩
    have hle : 3 + n ≤ 3 + n := Nat.le_refl _
    refine fng_sem (k := 3 + n) F sc_law_bent fun cdv A outer s H E hr hg => ?_
    exact (ss_cons (ss_if (sw_and (xtVal (xIsi bt_tuple L.z_isinstance L.z_tuple (by rfl) (by rfl) (xV 1))) (sw_and (xtCmp (op_gNe (hu64 hr)) (xV 1) (se_tup sa_nil)) (sw_and1 (xtCmp op_gGt (xCall h_law_draw (Nat.le_trans (by decide : 1 ≤ 3) (Nat.le_add_right _ _)) hr hg (takes_of rfl rfl rfl rfl) (by rfl) (xA (xV 0) (xA se_int sa_nil))) se_int)))).pt (ss_cons (xSet 3 sc_law_bent.nd (xCall h_law_draw (Nat.le_trans (by decide : 1 ≤ 3) (Nat.le_add_right _ _)) hr hg (takes_of rfl rfl rfl rfl) (by rfl) (xA (xV 0) (xA (xBi cr_gLen bt_len L.z_len (by rfl) (xA (xV 1) sa_nil)) sa_nil))))
      (ss_one (ss_ret (se_op op_gPlus (se_op op_gPlus (se_sl (xV 1) so_none (so_some (xV 3))) (se_tup (xA (xCall hrec hle hr hg (takes_of rfl rfl rfl rfl) (by rfl) (xA (xV 0) (xA (xIx (xV 1) (xV 3)) sa_nil))) sa_nil))) (se_sl (xV 1) (so_some (se_op op_gPlus (xV 3) se_int)) so_none))))) ss_nil)
      (ss_cons (xSet 2 sc_law_bent.nd (xCall h_law_draw (Nat.le_trans (by decide : 1 ≤ 3) (Nat.le_add_right _ _)) hr hg (takes_of rfl rfl rfl rfl) (by rfl) (xA (xV 0) (xA se_int sa_nil))))
      (ss_cons (ss_if (sw_and (xtVal (xIsi bt_tuple L.z_isinstance L.z_tuple (by rfl) (by rfl) (xV 1))) (sw_and1 (xtCmp op_gLt (xV 2) se_int))).pt (ss_one (ss_ret (xIx (se_tup (xA (se_frz (xList L.z_list (by rfl) (xA (xV 1) sa_nil))) (xA (se_sl (xV 1) so_none (so_some (se_un un_gNeg se_int))) (xA (se_op op_gPlus (xV 1) (se_sl (xV 1) (so_some (se_un un_gNeg se_int)) so_none)) (xA (se_rev (xV 1)) (xA (se_sl (xV 1) (so_some se_int) so_none) (xA (se_op op_gPlus (se_sl (xV 1) so_none (so_some se_int)) (xV 1)) sa_nil))))))) (xV 2)))) ss_nil)
      (ss_cons (ss_if (sw_and (xtVal (xIsi bt_int L.z_isinstance L.z_int (by rfl) (by rfl) (xV 1))) (sw_and1 (xtCmp op_gLt (xV 2) se_int))).pt (ss_one (ss_ret (xIx (se_tup (xA (se_op op_gPlus (xV 1) se_int) (xA (se_op op_gSub se_int (xV 1)) (xA (se_op op_gTimes se_int (xV 1)) (xA (se_op op_gSub (xV 1) se_int) (xA (xCmp (op_gEq (hu64 hr)) (xV 1) se_int) sa_nil)))))) (xV 2)))) ss_nil)
      (ss_one (ss_ret (xCall h_law_odd (Nat.le_trans (by decide : 3 ≤ 3) (Nat.le_add_right _ _)) hr hg (takes_of rfl rfl rfl rfl) (by rfl) (xA (xV 0) sa_nil))))))))

theorem ok_law_spoilt (L : LE w K mg base) : ∃ f fd, Has P w K mg base 12 "_law_spoilt" st_law_spoilt ["_law_well_here", "_law_thing"] 2 f_law_spoilt f fd := by
  obtain ⟨_, _, h_law_draw⟩ := ok_law_draw (P := P) (w := w) (base := base) L
  obtain ⟨_, _, h_law_odd⟩ := ok_law_odd (P := P) (w := w) (base := base) L
  obtain ⟨_, _, h_law_bent⟩ := ok_law_bent (P := P) (w := w) (base := base) 8 L
  obtain ⟨f, fd, m, F⟩ := L.d_law_spoilt
  refine ⟨f, fd, m, F, bd_law_spoilt F, ?_⟩
  refine fng_sem (k := 11) F sc_law_spoilt fun cdv A outer s H E hr hg => ?_
  exact (ss_cons (xSet 2 sc_law_spoilt.nd (xCall h_law_draw (by decide) hr hg (takes_of rfl rfl rfl rfl) (by rfl) (xA (xV 0) (xA se_int sa_nil))))
      (ss_cons (ss_if (xtCmp op_gLt (xV 2) se_int) (ss_one (ss_ret (xV 1))) ss_nil)
      (ss_one (ss_ret (se_if (xtCmp op_gLt (xV 2) se_int) (xCall h_law_bent (by decide) hr hg (takes_of rfl rfl rfl rfl) (by rfl) (xA (xV 0) (xA (xV 1) sa_nil))) (xCall h_law_odd (by decide) hr hg (takes_of rfl rfl rfl rfl) (by rfl) (xA (xV 0) sa_nil)))))))

theorem ok_law_low (L : LE w K mg base) : ∃ f fd, Has P w K mg base 1 "_law_low" st_law_low ["_law_spot", "_law_thing"] 2 f_law_low f fd := by
  obtain ⟨f, fd, m, F⟩ := L.d_law_low
  refine ⟨f, fd, m, F, bd_law_low F, ?_⟩
  refine fng_sem (k := 0) F sc_law_low fun cdv A outer s H E hr hg => ?_
  exact (ss_cons (ss_if (xtCmp op_gLt (xV 0) se_int) (ss_one (ss_ret (se_if (xtCmp (op_gEq (hu64 hr)) (xV 0) se_int) (xX_given L.xs (by decide +kernel) hr (by rfl) (xV 1)) (se_if (xtCmp (op_gEq (hu64 hr)) (xV 0) se_int) (xX_given L.xs (by decide +kernel) hr (by rfl) (xV 1)) (xX_given L.xs (by decide +kernel) hr (by rfl) (xV 1)))))) ss_nil)
      (ss_cons (ss_if (xtCmp op_gLt (xV 0) se_int) (ss_one (ss_ret (se_if (xtCmp (op_gEq (hu64 hr)) (xV 0) se_int) (xX_given L.xs (by decide +kernel) hr (by rfl) (xV 1)) (se_if (xtCmp (op_gEq (hu64 hr)) (xV 0) se_int) (xX_given L.xs (by decide +kernel) hr (by rfl) (xV 1)) (xX_given L.xs (by decide +kernel) hr (by rfl) (xV 1)))))) ss_nil)
      (ss_one (ss_ret (se_if (xtCmp (op_gEq (hu64 hr)) (xV 0) se_int) (xX_given L.xs (by decide +kernel) hr (by rfl) (xV 1)) (se_if (xtCmp (op_gEq (hu64 hr)) (xV 0) se_int) (xX_given L.xs (by decide +kernel) hr (by rfl) (xV 1)) (xX_given L.xs (by decide +kernel) hr (by rfl) (xV 1))))))))

theorem ok_law_by_place (L : LE w K mg base) : ∃ f fd, Has P w K mg base 2 "_law_by_place" st_law_by_place ["_law_spot", "_law_thing"] 2 f_law_by_place f fd := by
  obtain ⟨_, _, h_law_low⟩ := ok_law_low (P := P) (w := w) (base := base) L
  obtain ⟨f, fd, m, F⟩ := L.d_law_by_place
  refine ⟨f, fd, m, F, bd_law_by_place F, ?_⟩
  refine fng_sem (k := 1) F sc_law_by_place fun cdv A outer s H E hr hg => ?_
  exact (ss_cons (ss_if (xtCmp op_gLt (xV 0) se_int) (ss_one (ss_ret (xCall h_law_low (by decide) hr hg (takes_of rfl rfl rfl rfl) (by rfl) (xA (xV 0) (xA (xV 1) sa_nil))))) ss_nil)
      (ss_cons (ss_if (xtCmp op_gLt (xV 0) se_int) (ss_one (ss_ret (se_if (xtCmp (op_gEq (hu64 hr)) (xV 0) se_int) (xX_given L.xs (by decide +kernel) hr (by rfl) (xV 1)) (se_if (xtCmp (op_gEq (hu64 hr)) (xV 0) se_int) (xX_given L.xs (by decide +kernel) hr (by rfl) (xV 1)) (xX_given L.xs (by decide +kernel) hr (by rfl) (xV 1)))))) ss_nil)
      (ss_cons (ss_if (xtCmp op_gLt (xV 0) se_int) (ss_one (ss_ret (se_if (xtCmp (op_gEq (hu64 hr)) (xV 0) se_int) (xX_given L.xs (by decide +kernel) hr (by rfl) (xV 1)) (xX_given L.xs (by decide +kernel) hr (by rfl) (xV 1))))) ss_nil)
      (ss_cons (ss_if (xtCmp op_gLt (xV 0) se_int) (ss_one (ss_ret (se_if (xtCmp (op_gEq (hu64 hr)) (xV 0) se_int) (xX_index L.xs (by decide +kernel) hr (by rfl) (xV 1)) (se_if (xtCmp (op_gEq (hu64 hr)) (xV 0) se_int) (xX_index L.xs (by decide +kernel) hr (by rfl) (xV 1)) (xX_index L.xs (by decide +kernel) hr (by rfl) (xV 1)))))) ss_nil)
      (ss_one (ss_ret (se_if (xtCmp (op_gEq (hu64 hr)) (xV 0) se_int) (xX_spot L.xs (by decide +kernel) hr (by rfl) (xV 1)) (se_if (xtCmp (op_gEq (hu64 hr)) (xV 0) se_int) (xX0 L.xs (by decide +kernel) (by rfl)) (xX0 L.xs (by decide +kernel) (by rfl))))))))))

theorem ok_law_low_name (L : LE w K mg base) : ∃ f fd, Has P w K mg base 1 "_law_low_name" st_law_low_name ["_law_spot", "_law_thing"] 2 f_law_low_name f fd := by
  obtain ⟨f, fd, m, F⟩ := L.d_law_low_name
  refine ⟨f, fd, m, F, bd_law_low_name F, ?_⟩
  refine fng_sem (k := 0) F sc_law_low_name fun cdv A outer s H E hr hg => ?_
  exact (ss_cons (ss_if (xtCmp op_gLt (xV 0) se_int) (ss_cons (ss_if (xtCmp (op_gEq (hu64 hr)) (xV 0) se_int) (ss_one (ss_ret (xXk_given L.xs (by decide +kernel) hr (by rfl) (xV 1)))) ss_nil)
      (ss_one (ss_ret (se_if (xtCmp (op_gEq (hu64 hr)) (xV 0) se_int) (xXk_given L.xs (by decide +kernel) hr (by rfl) (xV 1)) (xXk_given L.xs (by decide +kernel) hr (by rfl) (xV 1)))))) ss_nil)
      (ss_cons (ss_if (xtCmp op_gLt (xV 0) se_int) (ss_cons (ss_if (xtCmp (op_gEq (hu64 hr)) (xV 0) se_int) (ss_one (ss_ret (xXk_given L.xs (by decide +kernel) hr (by rfl) (xV 1)))) ss_nil)
      (ss_one (ss_ret (se_if (xtCmp (op_gEq (hu64 hr)) (xV 0) se_int) (xXk_given L.xs (by decide +kernel) hr (by rfl) (xV 1)) (xXk_given L.xs (by decide +kernel) hr (by rfl) (xV 1)))))) ss_nil)
      (ss_cons (ss_if (xtCmp (op_gEq (hu64 hr)) (xV 0) se_int) (ss_one (ss_ret (xXk_given L.xs (by decide +kernel) hr (by rfl) (xV 1)))) ss_nil)
      (ss_one (ss_ret (se_if (xtCmp (op_gEq (hu64 hr)) (xV 0) se_int) (xXk_given L.xs (by decide +kernel) hr (by rfl) (xV 1)) (xXk_given L.xs (by decide +kernel) hr (by rfl) (xV 1))))))))

theorem ok_law_by_name (L : LE w K mg base) : ∃ f fd, Has P w K mg base 2 "_law_by_name" st_law_by_name ["_law_spot", "_law_thing"] 2 f_law_by_name f fd := by
  obtain ⟨_, _, h_law_low_name⟩ := ok_law_low_name (P := P) (w := w) (base := base) L
  obtain ⟨f, fd, m, F⟩ := L.d_law_by_name
  refine ⟨f, fd, m, F, bd_law_by_name F, ?_⟩
  refine fng_sem (k := 1) F sc_law_by_name fun cdv A outer s H E hr hg => ?_
  exact (ss_cons (ss_if (xtCmp op_gLt (xV 0) se_int) (ss_one (ss_ret (xCall h_law_low_name (by decide) hr hg (takes_of rfl rfl rfl rfl) (by rfl) (xA (xV 0) (xA (xV 1) sa_nil))))) ss_nil)
      (ss_cons (ss_if (xtCmp op_gLt (xV 0) se_int) (ss_cons (ss_if (xtCmp (op_gEq (hu64 hr)) (xV 0) se_int) (ss_one (ss_ret (xXk_given L.xs (by decide +kernel) hr (by rfl) (xV 1)))) ss_nil)
      (ss_one (ss_ret (se_if (xtCmp (op_gEq (hu64 hr)) (xV 0) se_int) (xXk_given L.xs (by decide +kernel) hr (by rfl) (xV 1)) (xXk_given L.xs (by decide +kernel) hr (by rfl) (xV 1)))))) ss_nil)
      (ss_cons (ss_if (xtCmp op_gLt (xV 0) se_int) (ss_one (ss_ret (se_if (xtCmp (op_gEq (hu64 hr)) (xV 0) se_int) (xXk_given L.xs (by decide +kernel) hr (by rfl) (xV 1)) (xXk_given L.xs (by decide +kernel) hr (by rfl) (xV 1))))) ss_nil)
      (ss_cons (ss_if (xtCmp op_gLt (xV 0) se_int) (ss_one (ss_ret (se_if (xtCmp (op_gEq (hu64 hr)) (xV 0) se_int) (xXk_index L.xs (by decide +kernel) hr (by rfl) (xV 1)) (xXk_index L.xs (by decide +kernel) hr (by rfl) (xV 1))))) ss_nil)
      (ss_one (ss_ret (se_if (xtCmp (op_gEq (hu64 hr)) (xV 0) se_int) (xXk_index L.xs (by decide +kernel) hr (by rfl) (xV 1)) (xXk_spot L.xs (by decide +kernel) hr (by rfl) (xV 1)))))))))

theorem ok_law_truths (L : LE w K mg base) : ∃ f fd, Has P w K mg base 1 "_law_truths" st_law_truths ["_law_error"] 1 f_law_truths f fd := by
  obtain ⟨f, fd, m, F⟩ := L.d_law_truths
  refine ⟨f, fd, m, F, bd_law_truths F, ?_⟩
  refine fng_sem (k := 0) F sc_law_truths fun cdv A outer s H E hr hg => ?_
  exact (ss_cons (xSet 1 sc_law_truths.nd (se_frz (sl_disp (xA (xXi (t := ("InvalidFraction", "given")) L.xs (by decide +kernel) L.z_isinstance (by rfl) (by rfl) (xV 0)) (xA (xXi (t := ("InvalidRow", "given")) L.xs (by decide +kernel) L.z_isinstance (by rfl) (by rfl) (xV 0)) (xA (xXi (t := ("InvalidNumber", "given")) L.xs (by decide +kernel) L.z_isinstance (by rfl) (by rfl) (xV 0)) sa_nil))))))
      (ss_cons (xSet 1 sc_law_truths.nd (se_op op_gPlus (xV 1) (se_frz (sl_disp (xA (xXi (t := ("InvalidForm", "given")) L.xs (by decide +kernel) L.z_isinstance (by rfl) (by rfl) (xV 0)) (xA (xXi (t := ("InvalidIndex", "given")) L.xs (by decide +kernel) L.z_isinstance (by rfl) (by rfl) (xV 0)) sa_nil))))))
      (ss_cons (xSet 1 sc_law_truths.nd (se_op op_gPlus (xV 1) (se_frz (sl_disp (xA (xXi (t := ("InvalidCount", "given")) L.xs (by decide +kernel) L.z_isinstance (by rfl) (by rfl) (xV 0)) (xA (xXi (t := ("InvalidRelation", "given")) L.xs (by decide +kernel) L.z_isinstance (by rfl) (by rfl) (xV 0)) sa_nil))))))
      (ss_cons (xSet 1 sc_law_truths.nd (se_op op_gPlus (xV 1) (se_frz (sl_disp (xA (xXi (t := ("InvalidLetter", "given")) L.xs (by decide +kernel) L.z_isinstance (by rfl) (by rfl) (xV 0)) (xA (xXi (t := ("InvalidPoly", "given")) L.xs (by decide +kernel) L.z_isinstance (by rfl) (by rfl) (xV 0)) sa_nil))))))
      (ss_cons (xSet 1 sc_law_truths.nd (se_op op_gPlus (xV 1) (se_frz (sl_disp (xA (xXi (t := ("InvalidPlace", "given")) L.xs (by decide +kernel) L.z_isinstance (by rfl) (by rfl) (xV 0)) (xA (xXi (t := ("InvalidCell", "given")) L.xs (by decide +kernel) L.z_isinstance (by rfl) (by rfl) (xV 0)) (xA (xXi (t := ("InvalidPoint", "given")) L.xs (by decide +kernel) L.z_isinstance (by rfl) (by rfl) (xV 0)) sa_nil)))))))
      (ss_cons (xSet 1 sc_law_truths.nd (se_op op_gPlus (xV 1) (se_frz (sl_disp (xA (xXi (t := ("InvalidSaying", "given")) L.xs (by decide +kernel) L.z_isinstance (by rfl) (by rfl) (xV 0)) (xA (xXi (t := ("TooMany", "given")) L.xs (by decide +kernel) L.z_isinstance (by rfl) (by rfl) (xV 0)) (xA (xXi (t := ("InvalidRows", "index")) L.xs (by decide +kernel) L.z_isinstance (by rfl) (by rfl) (xV 0)) sa_nil)))))))
      (ss_cons (xSet 1 sc_law_truths.nd (se_op op_gPlus (xV 1) (se_frz (sl_disp (xA (xXi (t := ("InvalidPolys", "index")) L.xs (by decide +kernel) L.z_isinstance (by rfl) (by rfl) (xV 0)) (xA (xXi (t := ("InvalidLines", "index")) L.xs (by decide +kernel) L.z_isinstance (by rfl) (by rfl) (xV 0)) (xA (xXi (t := ("BadText", "spot")) L.xs (by decide +kernel) L.z_isinstance (by rfl) (by rfl) (xV 0)) sa_nil)))))))
      (ss_cons (xSet 1 sc_law_truths.nd (se_op op_gPlus (xV 1) (se_frz (sl_disp (xA (xXi (t := ("UnlikePlaces", "")) L.xs (by decide +kernel) L.z_isinstance (by rfl) (by rfl) (xV 0)) (xA (xXi (t := ("LetterError", "")) L.xs (by decide +kernel) L.z_isinstance (by rfl) (by rfl) (xV 0)) (xA (xXiT (T := "ValueError") (by first | rfl | decide +kernel) (by decide +kernel) (by decide +kernel) (by decide +kernel) L.xs L.z_isinstance (by rfl) L.z_ValueError (by rfl) (xV 0)) sa_nil)))))))
      (ss_cons (xSet 1 sc_law_truths.nd (se_op op_gPlus (xV 1) (se_frz (sl_disp (xA (xXiT (T := "Exception") (by first | rfl | decide +kernel) (by decide +kernel) (by decide +kernel) (by decide +kernel) L.xs L.z_isinstance (by rfl) L.z_Exception (by rfl) (xV 0)) (xA (xXiT (T := "LookupError") (by first | rfl | decide +kernel) (by decide +kernel) (by decide +kernel) (by decide +kernel) L.xs L.z_isinstance (by rfl) L.z_LookupError (by rfl) (xV 0)) (xA (xXiT (T := "TypeError") (by first | rfl | decide +kernel) (by decide +kernel) (by decide +kernel) (by decide +kernel) L.xs L.z_isinstance (by rfl) L.z_TypeError (by rfl) (xV 0)) sa_nil)))))))
      (ss_cons (xSet 1 sc_law_truths.nd (se_op op_gPlus (xV 1) (se_frz (sl_disp (xA (xXiT (T := "ArithmeticError") (by first | rfl | decide +kernel) (by decide +kernel) (by decide +kernel) (by decide +kernel) L.xs L.z_isinstance (by rfl) L.z_ArithmeticError (by rfl) (xV 0)) (xA (xXiT (T := "RuntimeError") (by first | rfl | decide +kernel) (by decide +kernel) (by decide +kernel) (by decide +kernel) L.xs L.z_isinstance (by rfl) L.z_RuntimeError (by rfl) (xV 0)) sa_nil))))))
      (ss_one (ss_ret (se_op op_gPlus (xV 1) (se_frz (sl_disp (xA (xXiT (T := "AttributeError") (by first | rfl | decide +kernel) (by decide +kernel) (by decide +kernel) (by decide +kernel) L.xs L.z_isinstance (by rfl) L.z_AttributeError (by rfl) (xV 0)) sa_nil))))))))))))))))

theorem ok_law_is_made (L : LE w K mg base) : ∃ f fd, Has P w K mg base 2 "_law_is_made" st_law_is_made ["_law_at", "_law_thing", "_law_error"] 3 f_law_is_made f fd := by
  obtain ⟨_, _, h_law_truths⟩ := ok_law_truths (P := P) (w := w) (base := base) L
  obtain ⟨f, fd, m, F⟩ := L.d_law_is_made
  refine ⟨f, fd, m, F, bd_law_is_made F, ?_⟩
  refine fng_sem (k := 1) F sc_law_is_made fun cdv A outer s H E hr hg => ?_
  exact (ss_cons (ss_if (xtCmp (op_gNe (hu64 hr)) (xBi (cr_gReprD hg (hu64 hr) L.sys L.sysK) bt_repr L.z_repr (by rfl) (xA (xCall h_law_truths (by decide) hr hg (takes_of rfl rfl rfl rfl) (by rfl) (xA (xV 2) sa_nil)) sa_nil)) (xBi (cr_gReprD hg (hu64 hr) L.sys L.sysK) bt_repr L.z_repr (by rfl) (xA (se_frz (xLc [("_law_each", 3)] rfl sc_law_is_made.nd (xR1 L.z_range (by rfl) (xA se_int sa_nil)) (fun _ _ _ _ _ => (xwNm 3 sc_law_is_made.nd)) (fun _ _ _ _ _ => sts_nil) (fun _ _ _ _ _ => (se_or (xCmp (op_gEq (hu64 hr)) (xV 3) (xV 0)) (se_one (xChain op_gLt op_gLt se_int (xV 3) se_int)))) (ok := by exact blkOk_by (show blkC ["_law_at", "_law_thing", "_law_error", "_law_each"] (defScope st_law_is_made) _ [("_law_each", 3)] = true from by decide +kernel)))) sa_nil))) (ss_one (ss_ret se_bl)) ss_nil)
      (ss_cons (ss_if (xtCmp op_gLt (xV 0) se_int) (ss_one (ss_ret (xCmp (op_gEq (hu64 hr)) (xBi (cr_gReprD hg (hu64 hr) L.sys L.sysK) bt_repr L.z_repr (by rfl) (xA (xXf_given L.xs (xV 2)) sa_nil)) (xBi (cr_gReprD hg (hu64 hr) L.sys L.sysK) bt_repr L.z_repr (by rfl) (xA (xV 1) sa_nil))))) ss_nil)
      (ss_cons (ss_if (xtCmp op_gLt (xV 0) se_int) (ss_one (ss_ret (xCmp (op_gEq (hu64 hr)) (xBi (cr_gReprD hg (hu64 hr) L.sys L.sysK) bt_repr L.z_repr (by rfl) (xA (xXf_index L.xs (xV 2)) sa_nil)) (xBi (cr_gReprD hg (hu64 hr) L.sys L.sysK) bt_repr L.z_repr (by rfl) (xA (xV 1) sa_nil))))) ss_nil)
      (ss_one (ss_ret (se_or (xCmp op_gGt (xV 0) se_int) (se_one (xCmp (op_gEq (hu64 hr)) (xBi (cr_gReprD hg (hu64 hr) L.sys L.sysK) bt_repr L.z_repr (by rfl) (xA (xXf_spot L.xs (xV 2)) sa_nil)) (xBi (cr_gReprD hg (hu64 hr) L.sys L.sysK) bt_repr L.z_repr (by rfl) (xA (xV 1) sa_nil))))))))))

theorem ok_law_right (L : LE w K mg base) : ∃ f fd, Has P w K mg base 13 "_law_right" st_law_right ["_law_well_here"] 1 f_law_right f fd := by
  obtain ⟨_, _, h_law_part⟩ := ok_law_part (P := P) (w := w) (base := base) L
  obtain ⟨_, _, h_law_odd⟩ := ok_law_odd (P := P) (w := w) (base := base) L
  obtain ⟨_, _, h_law_spoilt⟩ := ok_law_spoilt (P := P) (w := w) (base := base) L
  obtain ⟨_, _, h_law_by_place⟩ := ok_law_by_place (P := P) (w := w) (base := base) L
  obtain ⟨_, _, h_law_by_name⟩ := ok_law_by_name (P := P) (w := w) (base := base) L
  obtain ⟨_, _, h_law_is_made⟩ := ok_law_is_made (P := P) (w := w) (base := base) L
  obtain ⟨f, fd, m, F⟩ := L.d_law_right
  refine ⟨f, fd, m, F, bd_law_right F, ?_⟩
  refine fng_sem (k := 12) F sc_law_right fun cdv A outer s H E hr hg => ?_
  exact (ss_cons (xSet 1 sc_law_right.nd (xCall h_law_spoilt (by decide) hr hg (takes_of rfl rfl rfl rfl) (by rfl) (xA (xV 0) (xA (se_tup (xA (xCall h_law_odd (by decide) hr hg (takes_of rfl rfl rfl rfl) (by rfl) (xA (xV 0) sa_nil)) (xA (xCall h_law_part (by decide) hr hg (takes_of rfl rfl rfl rfl) (by rfl) (xA (xV 0) sa_nil)) (xA (xCall h_law_odd (by decide) hr hg (takes_of rfl rfl rfl rfl) (by rfl) (xA (xV 0) sa_nil)) sa_nil)))) sa_nil))))
      (ss_cons (ss_if (st_not (xtVal (xBi (cr_gAll rfl) bt_all L.z_all (by rfl) (xA (se_frz (xLc [("_law_at", 2)] rfl sc_law_right.nd (xR1 L.z_range (by rfl) (xA se_int sa_nil)) (fun _ _ _ _ _ => (xwNm 2 sc_law_right.nd)) (fun _ _ _ _ _ => sts_nil) (fun _ _ _ _ _ => (xCall h_law_is_made (by decide) hr hg takes0 (by rfl) (xA (xV 2) (xA (xV 1) (xA (xCall h_law_by_place (by decide) hr hg takes0 (by rfl) (xA (xV 2) (xA (xV 1) sa_nil))) sa_nil))))) (ok := by exact blkOk_by (show blkC ["_law_well_here", "_law_thing", "_law_at"] (defScope st_law_right) _ [("_law_at", 2)] = true from by decide +kernel)))) sa_nil)))) (ss_one (ss_ret se_bl)) ss_nil)
      (ss_one (ss_ret (xBi (cr_gAll rfl) bt_all L.z_all (by rfl) (xA (se_frz (xLc [("_law_at", 2)] rfl sc_law_right.nd (xR1 L.z_range (by rfl) (xA se_int sa_nil)) (fun _ _ _ _ _ => (xwNm 2 sc_law_right.nd)) (fun _ _ _ _ _ => sts_nil) (fun _ _ _ _ _ => (xCall h_law_is_made (by decide) hr hg takes0 (by rfl) (xA (xV 2) (xA (xV 1) (xA (xCall h_law_by_name (by decide) hr hg takes0 (by rfl) (xA (xV 2) (xA (xV 1) sa_nil))) sa_nil))))) (ok := by exact blkOk_by (show blkC ["_law_well_here", "_law_thing", "_law_at"] (defScope st_law_right) _ [("_law_at", 2)] = true from by decide +kernel)))) sa_nil))))))

theorem ok_law (L : LE w K mg base) : ∃ f fd, Has P w K mg base 14 "law" st_law ["_law_script"] 1 f_law f fd := by
  obtain ⟨_, _, h_law_well⟩ := ok_law_well (P := P) (w := w) (base := base) L
  obtain ⟨_, _, h_law_right⟩ := ok_law_right (P := P) (w := w) (base := base) L
  obtain ⟨f, fd, m, F⟩ := L.d_law
  refine ⟨f, fd, m, F, bd_law F, ?_⟩
  refine fng_sem (k := 13) F sc_law fun cdv A outer s H E hr hg => ?_
  exact (ss_one (ss_ret (xBi (cr_gAll rfl) bt_all L.z_all (by rfl) (xA (se_frz (xLc [("_law_at", 1)] rfl sc_law.nd (xR1 L.z_range (by rfl) (xA (xBi (cr_gMax rfl) bt_max L.z_max (by rfl) (xA se_int (xA (xBi (cr_gMin rfl) bt_min L.z_min (by rfl) (xA (xBi cr_gLen bt_len L.z_len (by rfl) (xA (xV 0) sa_nil)) (xA se_int sa_nil))) sa_nil))) sa_nil)) (fun _ _ _ _ _ => (xwNm 1 sc_law.nd)) (fun _ _ _ _ _ => sts_nil) (fun _ _ _ _ _ => (xCall h_law_right (by decide) hr hg takes0 (by rfl) (xA (xCall h_law_well (by decide) hr hg takes0 (by rfl) (xA (xV 0) (xA (xV 1) sa_nil))) sa_nil))) (ok := by exact blkOk_by (show blkC ["_law_script", "_law_at"] (defScope st_law) _ [("_law_at", 1)] = true from by decide +kernel)))) sa_nil))))

end

omit [ClsN] in
theorem all_mk {l : PySem.W.OpenLaw} {w : World} {K : PySem.W.Frag} {h : Heap} {mg : Str → Option Value} {fa : Addr} (X : K.In h) (G : h.Ns mainGlobals mg) (hfa : mg "law" = some (.ref fa))
    {f0 : Addr} {od0 an0 : Option Addr} {sl0 : Array (Option Value)} {oc0 kV0 dc0 pm0 cd0 ct0 : Value}
    (a0 : PySem.W.nsIn K mainGlobals "_law_well" = some (some (.ref f0))) (l0 : K.lookup f0 = some ⟨oc0, od0, .func (PySem.W.fnOf "_law_well" "_law_well" (defArgs st_law_well) (defBody st_law_well) (defScope st_law_well) .none kV0 dc0 pm0 an0 cd0 ct0), sl0⟩) (c0 : PySem.W.codeIn K cd0 "_law_well" = true) (k0 : PySem.W.keepIn K (.ref f0) = true)
    {f1 : Addr} {od1 an1 : Option Addr} {sl1 : Array (Option Value)} {oc1 kV1 dc1 pm1 cd1 ct1 : Value}
    (a1 : PySem.W.nsIn K mainGlobals "_law_draw" = some (some (.ref f1))) (l1 : K.lookup f1 = some ⟨oc1, od1, .func (PySem.W.fnOf "_law_draw" "_law_draw" (defArgs st_law_draw) (defBody st_law_draw) (defScope st_law_draw) .none kV1 dc1 pm1 an1 cd1 ct1), sl1⟩) (c1 : PySem.W.codeIn K cd1 "_law_draw" = true) (k1 : PySem.W.keepIn K (.ref f1) = true)
    {f2 : Addr} {od2 an2 : Option Addr} {sl2 : Array (Option Value)} {oc2 kV2 dc2 pm2 cd2 ct2 : Value}
    (a2 : PySem.W.nsIn K mainGlobals "_law_pick" = some (some (.ref f2))) (l2 : K.lookup f2 = some ⟨oc2, od2, .func (PySem.W.fnOf "_law_pick" "_law_pick" (defArgs st_law_pick) (defBody st_law_pick) (defScope st_law_pick) .none kV2 dc2 pm2 an2 cd2 ct2), sl2⟩) (c2 : PySem.W.codeIn K cd2 "_law_pick" = true) (k2 : PySem.W.keepIn K (.ref f2) = true)
    {f3 : Addr} {od3 an3 : Option Addr} {sl3 : Array (Option Value)} {oc3 kV3 dc3 pm3 cd3 ct3 : Value}
    (a3 : PySem.W.nsIn K mainGlobals "_law_common" = some (some (.ref f3))) (l3 : K.lookup f3 = some ⟨oc3, od3, .func (PySem.W.fnOf "_law_common" "_law_common" (defArgs st_law_common) (defBody st_law_common) (defScope st_law_common) .none kV3 dc3 pm3 an3 cd3 ct3), sl3⟩) (c3 : PySem.W.codeIn K cd3 "_law_common" = true) (k3 : PySem.W.keepIn K (.ref f3) = true)
    {f4 : Addr} {od4 an4 : Option Addr} {sl4 : Array (Option Value)} {oc4 kV4 dc4 pm4 cd4 ct4 : Value}
    (a4 : PySem.W.nsIn K mainGlobals "_law_lean" = some (some (.ref f4))) (l4 : K.lookup f4 = some ⟨oc4, od4, .func (PySem.W.fnOf "_law_lean" "_law_lean" (defArgs st_law_lean) (defBody st_law_lean) (defScope st_law_lean) .none kV4 dc4 pm4 an4 cd4 ct4), sl4⟩) (c4 : PySem.W.codeIn K cd4 "_law_lean" = true) (k4 : PySem.W.keepIn K (.ref f4) = true)
    {f5 : Addr} {od5 an5 : Option Addr} {sl5 : Array (Option Value)} {oc5 kV5 dc5 pm5 cd5 ct5 : Value}
    (a5 : PySem.W.nsIn K mainGlobals "_law_small" = some (some (.ref f5))) (l5 : K.lookup f5 = some ⟨oc5, od5, .func (PySem.W.fnOf "_law_small" "_law_small" (defArgs st_law_small) (defBody st_law_small) (defScope st_law_small) .none kV5 dc5 pm5 an5 cd5 ct5), sl5⟩) (c5 : PySem.W.codeIn K cd5 "_law_small" = true) (k5 : PySem.W.keepIn K (.ref f5) = true)
    {f6 : Addr} {od6 an6 : Option Addr} {sl6 : Array (Option Value)} {oc6 kV6 dc6 pm6 cd6 ct6 : Value}
    (a6 : PySem.W.nsIn K mainGlobals "_law_part" = some (some (.ref f6))) (l6 : K.lookup f6 = some ⟨oc6, od6, .func (PySem.W.fnOf "_law_part" "_law_part" (defArgs st_law_part) (defBody st_law_part) (defScope st_law_part) .none kV6 dc6 pm6 an6 cd6 ct6), sl6⟩) (c6 : PySem.W.codeIn K cd6 "_law_part" = true) (k6 : PySem.W.keepIn K (.ref f6) = true)
    {f7 : Addr} {od7 an7 : Option Addr} {sl7 : Array (Option Value)} {oc7 kV7 dc7 pm7 cd7 ct7 : Value}
    (a7 : PySem.W.nsIn K mainGlobals "_law_odd" = some (some (.ref f7))) (l7 : K.lookup f7 = some ⟨oc7, od7, .func (PySem.W.fnOf "_law_odd" "_law_odd" (defArgs st_law_odd) (defBody st_law_odd) (defScope st_law_odd) .none kV7 dc7 pm7 an7 cd7 ct7), sl7⟩) (c7 : PySem.W.codeIn K cd7 "_law_odd" = true) (k7 : PySem.W.keepIn K (.ref f7) = true)
    {f8 : Addr} {od8 an8 : Option Addr} {sl8 : Array (Option Value)} {oc8 kV8 dc8 pm8 cd8 ct8 : Value}
    (a8 : PySem.W.nsIn K mainGlobals "_law_bent" = some (some (.ref f8))) (l8 : K.lookup f8 = some ⟨oc8, od8, .func (PySem.W.fnOf "_law_bent" "_law_bent" (defArgs st_law_bent) (defBody st_law_bent) (defScope st_law_bent) .none kV8 dc8 pm8 an8 cd8 ct8), sl8⟩) (c8 : PySem.W.codeIn K cd8 "_law_bent" = true) (k8 : PySem.W.keepIn K (.ref f8) = true)
    {f9 : Addr} {od9 an9 : Option Addr} {sl9 : Array (Option Value)} {oc9 kV9 dc9 pm9 cd9 ct9 : Value}
    (a9 : PySem.W.nsIn K mainGlobals "_law_spoilt" = some (some (.ref f9))) (l9 : K.lookup f9 = some ⟨oc9, od9, .func (PySem.W.fnOf "_law_spoilt" "_law_spoilt" (defArgs st_law_spoilt) (defBody st_law_spoilt) (defScope st_law_spoilt) .none kV9 dc9 pm9 an9 cd9 ct9), sl9⟩) (c9 : PySem.W.codeIn K cd9 "_law_spoilt" = true) (k9 : PySem.W.keepIn K (.ref f9) = true)
    {f10 : Addr} {od10 an10 : Option Addr} {sl10 : Array (Option Value)} {oc10 kV10 dc10 pm10 cd10 ct10 : Value}
    (a10 : PySem.W.nsIn K mainGlobals "_law_low" = some (some (.ref f10))) (l10 : K.lookup f10 = some ⟨oc10, od10, .func (PySem.W.fnOf "_law_low" "_law_low" (defArgs st_law_low) (defBody st_law_low) (defScope st_law_low) .none kV10 dc10 pm10 an10 cd10 ct10), sl10⟩) (c10 : PySem.W.codeIn K cd10 "_law_low" = true) (k10 : PySem.W.keepIn K (.ref f10) = true)
    {f11 : Addr} {od11 an11 : Option Addr} {sl11 : Array (Option Value)} {oc11 kV11 dc11 pm11 cd11 ct11 : Value}
    (a11 : PySem.W.nsIn K mainGlobals "_law_by_place" = some (some (.ref f11))) (l11 : K.lookup f11 = some ⟨oc11, od11, .func (PySem.W.fnOf "_law_by_place" "_law_by_place" (defArgs st_law_by_place) (defBody st_law_by_place) (defScope st_law_by_place) .none kV11 dc11 pm11 an11 cd11 ct11), sl11⟩) (c11 : PySem.W.codeIn K cd11 "_law_by_place" = true) (k11 : PySem.W.keepIn K (.ref f11) = true)
    {f12 : Addr} {od12 an12 : Option Addr} {sl12 : Array (Option Value)} {oc12 kV12 dc12 pm12 cd12 ct12 : Value}
    (a12 : PySem.W.nsIn K mainGlobals "_law_low_name" = some (some (.ref f12))) (l12 : K.lookup f12 = some ⟨oc12, od12, .func (PySem.W.fnOf "_law_low_name" "_law_low_name" (defArgs st_law_low_name) (defBody st_law_low_name) (defScope st_law_low_name) .none kV12 dc12 pm12 an12 cd12 ct12), sl12⟩) (c12 : PySem.W.codeIn K cd12 "_law_low_name" = true) (k12 : PySem.W.keepIn K (.ref f12) = true)
    {f13 : Addr} {od13 an13 : Option Addr} {sl13 : Array (Option Value)} {oc13 kV13 dc13 pm13 cd13 ct13 : Value}
    (a13 : PySem.W.nsIn K mainGlobals "_law_by_name" = some (some (.ref f13))) (l13 : K.lookup f13 = some ⟨oc13, od13, .func (PySem.W.fnOf "_law_by_name" "_law_by_name" (defArgs st_law_by_name) (defBody st_law_by_name) (defScope st_law_by_name) .none kV13 dc13 pm13 an13 cd13 ct13), sl13⟩) (c13 : PySem.W.codeIn K cd13 "_law_by_name" = true) (k13 : PySem.W.keepIn K (.ref f13) = true)
    {f14 : Addr} {od14 an14 : Option Addr} {sl14 : Array (Option Value)} {oc14 kV14 dc14 pm14 cd14 ct14 : Value}
    (a14 : PySem.W.nsIn K mainGlobals "_law_truths" = some (some (.ref f14))) (l14 : K.lookup f14 = some ⟨oc14, od14, .func (PySem.W.fnOf "_law_truths" "_law_truths" (defArgs st_law_truths) (defBody st_law_truths) (defScope st_law_truths) .none kV14 dc14 pm14 an14 cd14 ct14), sl14⟩) (c14 : PySem.W.codeIn K cd14 "_law_truths" = true) (k14 : PySem.W.keepIn K (.ref f14) = true)
    {f15 : Addr} {od15 an15 : Option Addr} {sl15 : Array (Option Value)} {oc15 kV15 dc15 pm15 cd15 ct15 : Value}
    (a15 : PySem.W.nsIn K mainGlobals "_law_is_made" = some (some (.ref f15))) (l15 : K.lookup f15 = some ⟨oc15, od15, .func (PySem.W.fnOf "_law_is_made" "_law_is_made" (defArgs st_law_is_made) (defBody st_law_is_made) (defScope st_law_is_made) .none kV15 dc15 pm15 an15 cd15 ct15), sl15⟩) (c15 : PySem.W.codeIn K cd15 "_law_is_made" = true) (k15 : PySem.W.keepIn K (.ref f15) = true)
    {f16 : Addr} {od16 an16 : Option Addr} {sl16 : Array (Option Value)} {oc16 kV16 dc16 pm16 cd16 ct16 : Value}
    (a16 : PySem.W.nsIn K mainGlobals "_law_right" = some (some (.ref f16))) (l16 : K.lookup f16 = some ⟨oc16, od16, .func (PySem.W.fnOf "_law_right" "_law_right" (defArgs st_law_right) (defBody st_law_right) (defScope st_law_right) .none kV16 dc16 pm16 an16 cd16 ct16), sl16⟩) (c16 : PySem.W.codeIn K cd16 "_law_right" = true) (k16 : PySem.W.keepIn K (.ref f16) = true)
    {f17 : Addr} {od17 an17 : Option Addr} {sl17 : Array (Option Value)} {oc17 kV17 dc17 pm17 cd17 ct17 : Value}
    (a17 : PySem.W.nsIn K mainGlobals "law" = some (some (.ref f17))) (l17 : K.lookup f17 = some ⟨oc17, od17, .func (PySem.W.fnOf "law" "law" (defArgs st_law) (defBody st_law) (defScope st_law) .none kV17 dc17 pm17 an17 cd17 ct17), sl17⟩) (c17 : PySem.W.codeIn K cd17 "law" = true) (k17 : PySem.W.keepIn K (.ref f17) = true)
    (z_ArithmeticError : PySem.W.nsIn K mainGlobals "ArithmeticError" = some none)
    (z_AttributeError : PySem.W.nsIn K mainGlobals "AttributeError" = some none)
    (z_Exception : PySem.W.nsIn K mainGlobals "Exception" = some none)
    (z_LookupError : PySem.W.nsIn K mainGlobals "LookupError" = some none)
    (z_RuntimeError : PySem.W.nsIn K mainGlobals "RuntimeError" = some none)
    (z_TypeError : PySem.W.nsIn K mainGlobals "TypeError" = some none)
    (z_ValueError : PySem.W.nsIn K mainGlobals "ValueError" = some none)
    (z_abs : PySem.W.nsIn K mainGlobals "abs" = some none)
    (z_all : PySem.W.nsIn K mainGlobals "all" = some none)
    (z_divmod : PySem.W.nsIn K mainGlobals "divmod" = some none)
    (z_int : PySem.W.nsIn K mainGlobals "int" = some none)
    (z_isinstance : PySem.W.nsIn K mainGlobals "isinstance" = some none)
    (z_len : PySem.W.nsIn K mainGlobals "len" = some none)
    (z_list : PySem.W.nsIn K mainGlobals "list" = some none)
    (z_max : PySem.W.nsIn K mainGlobals "max" = some none)
    (z_min : PySem.W.nsIn K mainGlobals "min" = some none)
    (z_range : PySem.W.nsIn K mainGlobals "range" = some none)
    (z_repr : PySem.W.nsIn K mainGlobals "repr" = some none)
    (z_tuple : PySem.W.nsIn K mainGlobals "tuple" = some none)
    (cg_x : PySem.W.specialIn K (.builtin "object.__class__") "__get__" = some (some (.builtin "getset_descriptor.__get__"))) (ct_x : PySem.W.takesIn K (.builtin "object.__class__") = some true)
    (sysK : K.lookup PySem.sysModules = none)
    {C_LetterError N_LetterError : Addr} {q_LetterError : Str} {bs_LetterError : List Value} {sn_LetterError : List Str} {sub_LetterError : List Value} {ab_LetterError : Bool} {col_LetterError : Option Bool} {dd_LetterError : Option Addr} {m0_LetterError m1_LetterError m2_LetterError m3_LetterError m5_LetterError : Option Value}
    (aC_LetterError : PySem.W.nsIn K mainGlobals "LetterError" = some (some (.ref C_LetterError))) (xL_LetterError : K.lookup C_LetterError = some (PySem.excClassObj "LetterError" q_LetterError C_LetterError N_LetterError bs_LetterError [.type "ValueError", .type "Exception", .type "BaseException", .type "object"] true sn_LetterError sub_LetterError ab_LetterError col_LetterError dd_LetterError m0_LetterError m1_LetterError m2_LetterError m3_LetterError m5_LetterError "ValueError.__new__"))
    (sa_LetterError : PySem.W.findIn K (.ref C_LetterError) "__setattr__" = some (some (.builtin "object.__setattr__"))) (ga_LetterError : PySem.W.findIn K (.ref C_LetterError) "__getattribute__" = some (some (.builtin "BaseException.__getattribute__"))) (gg_LetterError : PySem.W.findIn K (.ref C_LetterError) "__getattr__" = some none) (kC_LetterError : PySem.W.keepIn K (.ref C_LetterError) = true) (eC_LetterError : PySem.W.subIn K (.ref C_LetterError) (.type "BaseException") = some true) (hC_LetterError : PySem.W.hasDictIn K C_LetterError = true) (ca_LetterError : PySem.W.findIn K (.ref C_LetterError) "__class__" = some (some (.builtin "object.__class__"))) (cm_LetterError : PySem.W.mroIn K C_LetterError (.type "object") = some true)
    (ze_LetterError : PySem.W.excIn K C_LetterError PySem.HandSPX.veTail "ValueError.__new__" = true)
    {C_InvalidFraction N_InvalidFraction : Addr} {q_InvalidFraction : Str} {bs_InvalidFraction : List Value} {sn_InvalidFraction : List Str} {sub_InvalidFraction : List Value} {ab_InvalidFraction : Bool} {col_InvalidFraction : Option Bool} {dd_InvalidFraction : Option Addr} {m0_InvalidFraction m1_InvalidFraction m2_InvalidFraction m3_InvalidFraction m5_InvalidFraction : Option Value}
    (aC_InvalidFraction : PySem.W.nsIn K mainGlobals "InvalidFraction" = some (some (.ref C_InvalidFraction))) (xL_InvalidFraction : K.lookup C_InvalidFraction = some (PySem.excClassObj "InvalidFraction" q_InvalidFraction C_InvalidFraction N_InvalidFraction bs_InvalidFraction [.ref C_LetterError, .type "ValueError", .type "Exception", .type "BaseException", .type "object"] true sn_InvalidFraction sub_InvalidFraction ab_InvalidFraction col_InvalidFraction dd_InvalidFraction m0_InvalidFraction m1_InvalidFraction m2_InvalidFraction m3_InvalidFraction m5_InvalidFraction "ValueError.__new__"))
    (sa_InvalidFraction : PySem.W.findIn K (.ref C_InvalidFraction) "__setattr__" = some (some (.builtin "object.__setattr__"))) (ga_InvalidFraction : PySem.W.findIn K (.ref C_InvalidFraction) "__getattribute__" = some (some (.builtin "BaseException.__getattribute__"))) (gg_InvalidFraction : PySem.W.findIn K (.ref C_InvalidFraction) "__getattr__" = some none) (kC_InvalidFraction : PySem.W.keepIn K (.ref C_InvalidFraction) = true) (eC_InvalidFraction : PySem.W.subIn K (.ref C_InvalidFraction) (.type "BaseException") = some true) (hC_InvalidFraction : PySem.W.hasDictIn K C_InvalidFraction = true) (ca_InvalidFraction : PySem.W.findIn K (.ref C_InvalidFraction) "__class__" = some (some (.builtin "object.__class__"))) (cm_InvalidFraction : PySem.W.mroIn K C_InvalidFraction (.type "object") = some true)
    {fI_InvalidFraction : Addr} {od_InvalidFraction an_InvalidFraction : Option Addr} {sl_InvalidFraction : Array (Option Value)} {oc_InvalidFraction dc_InvalidFraction pm_InvalidFraction cd_InvalidFraction ct_InvalidFraction : Value} {p1_InvalidFraction p2_InvalidFraction q1_InvalidFraction q2_InvalidFraction q3_InvalidFraction q4_InvalidFraction : Pos}
    (nb_InvalidFraction : PySem.W.findIn K (.ref C_InvalidFraction) "given" = some none) (a1_InvalidFraction : PySem.W.findIn K (.ref C_InvalidFraction) "__init__" = some (some (.ref fI_InvalidFraction))) (t1_InvalidFraction : PySem.W.typeIn K (.ref fI_InvalidFraction) = some (.type "function")) (l1_InvalidFraction : K.lookup fI_InvalidFraction = some ⟨oc_InvalidFraction, od_InvalidFraction, .func (PySem.W.fnOf "__init__" "InvalidFraction.__init__" (PySem.XE_given.iA p1_InvalidFraction p2_InvalidFraction) (PySem.XE_given.iB q1_InvalidFraction q2_InvalidFraction q3_InvalidFraction q4_InvalidFraction) PySem.XE_given.iS .none .none dc_InvalidFraction pm_InvalidFraction an_InvalidFraction cd_InvalidFraction ct_InvalidFraction), sl_InvalidFraction⟩) (c1_InvalidFraction : PySem.W.codeIn K cd_InvalidFraction "InvalidFraction.__init__" = true)
    {C_InvalidRow N_InvalidRow : Addr} {q_InvalidRow : Str} {bs_InvalidRow : List Value} {sn_InvalidRow : List Str} {sub_InvalidRow : List Value} {ab_InvalidRow : Bool} {col_InvalidRow : Option Bool} {dd_InvalidRow : Option Addr} {m0_InvalidRow m1_InvalidRow m2_InvalidRow m3_InvalidRow m5_InvalidRow : Option Value}
    (aC_InvalidRow : PySem.W.nsIn K mainGlobals "InvalidRow" = some (some (.ref C_InvalidRow))) (xL_InvalidRow : K.lookup C_InvalidRow = some (PySem.excClassObj "InvalidRow" q_InvalidRow C_InvalidRow N_InvalidRow bs_InvalidRow [.ref C_LetterError, .type "ValueError", .type "Exception", .type "BaseException", .type "object"] true sn_InvalidRow sub_InvalidRow ab_InvalidRow col_InvalidRow dd_InvalidRow m0_InvalidRow m1_InvalidRow m2_InvalidRow m3_InvalidRow m5_InvalidRow "ValueError.__new__"))
    (sa_InvalidRow : PySem.W.findIn K (.ref C_InvalidRow) "__setattr__" = some (some (.builtin "object.__setattr__"))) (ga_InvalidRow : PySem.W.findIn K (.ref C_InvalidRow) "__getattribute__" = some (some (.builtin "BaseException.__getattribute__"))) (gg_InvalidRow : PySem.W.findIn K (.ref C_InvalidRow) "__getattr__" = some none) (kC_InvalidRow : PySem.W.keepIn K (.ref C_InvalidRow) = true) (eC_InvalidRow : PySem.W.subIn K (.ref C_InvalidRow) (.type "BaseException") = some true) (hC_InvalidRow : PySem.W.hasDictIn K C_InvalidRow = true) (ca_InvalidRow : PySem.W.findIn K (.ref C_InvalidRow) "__class__" = some (some (.builtin "object.__class__"))) (cm_InvalidRow : PySem.W.mroIn K C_InvalidRow (.type "object") = some true)
    {fI_InvalidRow : Addr} {od_InvalidRow an_InvalidRow : Option Addr} {sl_InvalidRow : Array (Option Value)} {oc_InvalidRow dc_InvalidRow pm_InvalidRow cd_InvalidRow ct_InvalidRow : Value} {p1_InvalidRow p2_InvalidRow q1_InvalidRow q2_InvalidRow q3_InvalidRow q4_InvalidRow : Pos}
    (nb_InvalidRow : PySem.W.findIn K (.ref C_InvalidRow) "given" = some none) (a1_InvalidRow : PySem.W.findIn K (.ref C_InvalidRow) "__init__" = some (some (.ref fI_InvalidRow))) (t1_InvalidRow : PySem.W.typeIn K (.ref fI_InvalidRow) = some (.type "function")) (l1_InvalidRow : K.lookup fI_InvalidRow = some ⟨oc_InvalidRow, od_InvalidRow, .func (PySem.W.fnOf "__init__" "InvalidRow.__init__" (PySem.XE_given.iA p1_InvalidRow p2_InvalidRow) (PySem.XE_given.iB q1_InvalidRow q2_InvalidRow q3_InvalidRow q4_InvalidRow) PySem.XE_given.iS .none .none dc_InvalidRow pm_InvalidRow an_InvalidRow cd_InvalidRow ct_InvalidRow), sl_InvalidRow⟩) (c1_InvalidRow : PySem.W.codeIn K cd_InvalidRow "InvalidRow.__init__" = true)
    {C_InvalidNumber N_InvalidNumber : Addr} {q_InvalidNumber : Str} {bs_InvalidNumber : List Value} {sn_InvalidNumber : List Str} {sub_InvalidNumber : List Value} {ab_InvalidNumber : Bool} {col_InvalidNumber : Option Bool} {dd_InvalidNumber : Option Addr} {m0_InvalidNumber m1_InvalidNumber m2_InvalidNumber m3_InvalidNumber m5_InvalidNumber : Option Value}
    (aC_InvalidNumber : PySem.W.nsIn K mainGlobals "InvalidNumber" = some (some (.ref C_InvalidNumber))) (xL_InvalidNumber : K.lookup C_InvalidNumber = some (PySem.excClassObj "InvalidNumber" q_InvalidNumber C_InvalidNumber N_InvalidNumber bs_InvalidNumber [.ref C_LetterError, .type "ValueError", .type "Exception", .type "BaseException", .type "object"] true sn_InvalidNumber sub_InvalidNumber ab_InvalidNumber col_InvalidNumber dd_InvalidNumber m0_InvalidNumber m1_InvalidNumber m2_InvalidNumber m3_InvalidNumber m5_InvalidNumber "ValueError.__new__"))
    (sa_InvalidNumber : PySem.W.findIn K (.ref C_InvalidNumber) "__setattr__" = some (some (.builtin "object.__setattr__"))) (ga_InvalidNumber : PySem.W.findIn K (.ref C_InvalidNumber) "__getattribute__" = some (some (.builtin "BaseException.__getattribute__"))) (gg_InvalidNumber : PySem.W.findIn K (.ref C_InvalidNumber) "__getattr__" = some none) (kC_InvalidNumber : PySem.W.keepIn K (.ref C_InvalidNumber) = true) (eC_InvalidNumber : PySem.W.subIn K (.ref C_InvalidNumber) (.type "BaseException") = some true) (hC_InvalidNumber : PySem.W.hasDictIn K C_InvalidNumber = true) (ca_InvalidNumber : PySem.W.findIn K (.ref C_InvalidNumber) "__class__" = some (some (.builtin "object.__class__"))) (cm_InvalidNumber : PySem.W.mroIn K C_InvalidNumber (.type "object") = some true)
    {fI_InvalidNumber : Addr} {od_InvalidNumber an_InvalidNumber : Option Addr} {sl_InvalidNumber : Array (Option Value)} {oc_InvalidNumber dc_InvalidNumber pm_InvalidNumber cd_InvalidNumber ct_InvalidNumber : Value} {p1_InvalidNumber p2_InvalidNumber q1_InvalidNumber q2_InvalidNumber q3_InvalidNumber q4_InvalidNumber : Pos}
    (nb_InvalidNumber : PySem.W.findIn K (.ref C_InvalidNumber) "given" = some none) (a1_InvalidNumber : PySem.W.findIn K (.ref C_InvalidNumber) "__init__" = some (some (.ref fI_InvalidNumber))) (t1_InvalidNumber : PySem.W.typeIn K (.ref fI_InvalidNumber) = some (.type "function")) (l1_InvalidNumber : K.lookup fI_InvalidNumber = some ⟨oc_InvalidNumber, od_InvalidNumber, .func (PySem.W.fnOf "__init__" "InvalidNumber.__init__" (PySem.XE_given.iA p1_InvalidNumber p2_InvalidNumber) (PySem.XE_given.iB q1_InvalidNumber q2_InvalidNumber q3_InvalidNumber q4_InvalidNumber) PySem.XE_given.iS .none .none dc_InvalidNumber pm_InvalidNumber an_InvalidNumber cd_InvalidNumber ct_InvalidNumber), sl_InvalidNumber⟩) (c1_InvalidNumber : PySem.W.codeIn K cd_InvalidNumber "InvalidNumber.__init__" = true)
    {C_InvalidForm N_InvalidForm : Addr} {q_InvalidForm : Str} {bs_InvalidForm : List Value} {sn_InvalidForm : List Str} {sub_InvalidForm : List Value} {ab_InvalidForm : Bool} {col_InvalidForm : Option Bool} {dd_InvalidForm : Option Addr} {m0_InvalidForm m1_InvalidForm m2_InvalidForm m3_InvalidForm m5_InvalidForm : Option Value}
    (aC_InvalidForm : PySem.W.nsIn K mainGlobals "InvalidForm" = some (some (.ref C_InvalidForm))) (xL_InvalidForm : K.lookup C_InvalidForm = some (PySem.excClassObj "InvalidForm" q_InvalidForm C_InvalidForm N_InvalidForm bs_InvalidForm [.ref C_LetterError, .type "ValueError", .type "Exception", .type "BaseException", .type "object"] true sn_InvalidForm sub_InvalidForm ab_InvalidForm col_InvalidForm dd_InvalidForm m0_InvalidForm m1_InvalidForm m2_InvalidForm m3_InvalidForm m5_InvalidForm "ValueError.__new__"))
    (sa_InvalidForm : PySem.W.findIn K (.ref C_InvalidForm) "__setattr__" = some (some (.builtin "object.__setattr__"))) (ga_InvalidForm : PySem.W.findIn K (.ref C_InvalidForm) "__getattribute__" = some (some (.builtin "BaseException.__getattribute__"))) (gg_InvalidForm : PySem.W.findIn K (.ref C_InvalidForm) "__getattr__" = some none) (kC_InvalidForm : PySem.W.keepIn K (.ref C_InvalidForm) = true) (eC_InvalidForm : PySem.W.subIn K (.ref C_InvalidForm) (.type "BaseException") = some true) (hC_InvalidForm : PySem.W.hasDictIn K C_InvalidForm = true) (ca_InvalidForm : PySem.W.findIn K (.ref C_InvalidForm) "__class__" = some (some (.builtin "object.__class__"))) (cm_InvalidForm : PySem.W.mroIn K C_InvalidForm (.type "object") = some true)
    {fI_InvalidForm : Addr} {od_InvalidForm an_InvalidForm : Option Addr} {sl_InvalidForm : Array (Option Value)} {oc_InvalidForm dc_InvalidForm pm_InvalidForm cd_InvalidForm ct_InvalidForm : Value} {p1_InvalidForm p2_InvalidForm q1_InvalidForm q2_InvalidForm q3_InvalidForm q4_InvalidForm : Pos}
    (nb_InvalidForm : PySem.W.findIn K (.ref C_InvalidForm) "given" = some none) (a1_InvalidForm : PySem.W.findIn K (.ref C_InvalidForm) "__init__" = some (some (.ref fI_InvalidForm))) (t1_InvalidForm : PySem.W.typeIn K (.ref fI_InvalidForm) = some (.type "function")) (l1_InvalidForm : K.lookup fI_InvalidForm = some ⟨oc_InvalidForm, od_InvalidForm, .func (PySem.W.fnOf "__init__" "InvalidForm.__init__" (PySem.XE_given.iA p1_InvalidForm p2_InvalidForm) (PySem.XE_given.iB q1_InvalidForm q2_InvalidForm q3_InvalidForm q4_InvalidForm) PySem.XE_given.iS .none .none dc_InvalidForm pm_InvalidForm an_InvalidForm cd_InvalidForm ct_InvalidForm), sl_InvalidForm⟩) (c1_InvalidForm : PySem.W.codeIn K cd_InvalidForm "InvalidForm.__init__" = true)
    {C_InvalidIndex N_InvalidIndex : Addr} {q_InvalidIndex : Str} {bs_InvalidIndex : List Value} {sn_InvalidIndex : List Str} {sub_InvalidIndex : List Value} {ab_InvalidIndex : Bool} {col_InvalidIndex : Option Bool} {dd_InvalidIndex : Option Addr} {m0_InvalidIndex m1_InvalidIndex m2_InvalidIndex m3_InvalidIndex m5_InvalidIndex : Option Value}
    (aC_InvalidIndex : PySem.W.nsIn K mainGlobals "InvalidIndex" = some (some (.ref C_InvalidIndex))) (xL_InvalidIndex : K.lookup C_InvalidIndex = some (PySem.excClassObj "InvalidIndex" q_InvalidIndex C_InvalidIndex N_InvalidIndex bs_InvalidIndex [.ref C_LetterError, .type "ValueError", .type "Exception", .type "BaseException", .type "object"] true sn_InvalidIndex sub_InvalidIndex ab_InvalidIndex col_InvalidIndex dd_InvalidIndex m0_InvalidIndex m1_InvalidIndex m2_InvalidIndex m3_InvalidIndex m5_InvalidIndex "ValueError.__new__"))
    (sa_InvalidIndex : PySem.W.findIn K (.ref C_InvalidIndex) "__setattr__" = some (some (.builtin "object.__setattr__"))) (ga_InvalidIndex : PySem.W.findIn K (.ref C_InvalidIndex) "__getattribute__" = some (some (.builtin "BaseException.__getattribute__"))) (gg_InvalidIndex : PySem.W.findIn K (.ref C_InvalidIndex) "__getattr__" = some none) (kC_InvalidIndex : PySem.W.keepIn K (.ref C_InvalidIndex) = true) (eC_InvalidIndex : PySem.W.subIn K (.ref C_InvalidIndex) (.type "BaseException") = some true) (hC_InvalidIndex : PySem.W.hasDictIn K C_InvalidIndex = true) (ca_InvalidIndex : PySem.W.findIn K (.ref C_InvalidIndex) "__class__" = some (some (.builtin "object.__class__"))) (cm_InvalidIndex : PySem.W.mroIn K C_InvalidIndex (.type "object") = some true)
    {fI_InvalidIndex : Addr} {od_InvalidIndex an_InvalidIndex : Option Addr} {sl_InvalidIndex : Array (Option Value)} {oc_InvalidIndex dc_InvalidIndex pm_InvalidIndex cd_InvalidIndex ct_InvalidIndex : Value} {p1_InvalidIndex p2_InvalidIndex q1_InvalidIndex q2_InvalidIndex q3_InvalidIndex q4_InvalidIndex : Pos}
    (nb_InvalidIndex : PySem.W.findIn K (.ref C_InvalidIndex) "given" = some none) (a1_InvalidIndex : PySem.W.findIn K (.ref C_InvalidIndex) "__init__" = some (some (.ref fI_InvalidIndex))) (t1_InvalidIndex : PySem.W.typeIn K (.ref fI_InvalidIndex) = some (.type "function")) (l1_InvalidIndex : K.lookup fI_InvalidIndex = some ⟨oc_InvalidIndex, od_InvalidIndex, .func (PySem.W.fnOf "__init__" "InvalidIndex.__init__" (PySem.XE_given.iA p1_InvalidIndex p2_InvalidIndex) (PySem.XE_given.iB q1_InvalidIndex q2_InvalidIndex q3_InvalidIndex q4_InvalidIndex) PySem.XE_given.iS .none .none dc_InvalidIndex pm_InvalidIndex an_InvalidIndex cd_InvalidIndex ct_InvalidIndex), sl_InvalidIndex⟩) (c1_InvalidIndex : PySem.W.codeIn K cd_InvalidIndex "InvalidIndex.__init__" = true)
    {C_InvalidCount N_InvalidCount : Addr} {q_InvalidCount : Str} {bs_InvalidCount : List Value} {sn_InvalidCount : List Str} {sub_InvalidCount : List Value} {ab_InvalidCount : Bool} {col_InvalidCount : Option Bool} {dd_InvalidCount : Option Addr} {m0_InvalidCount m1_InvalidCount m2_InvalidCount m3_InvalidCount m5_InvalidCount : Option Value}
    (aC_InvalidCount : PySem.W.nsIn K mainGlobals "InvalidCount" = some (some (.ref C_InvalidCount))) (xL_InvalidCount : K.lookup C_InvalidCount = some (PySem.excClassObj "InvalidCount" q_InvalidCount C_InvalidCount N_InvalidCount bs_InvalidCount [.ref C_LetterError, .type "ValueError", .type "Exception", .type "BaseException", .type "object"] true sn_InvalidCount sub_InvalidCount ab_InvalidCount col_InvalidCount dd_InvalidCount m0_InvalidCount m1_InvalidCount m2_InvalidCount m3_InvalidCount m5_InvalidCount "ValueError.__new__"))
    (sa_InvalidCount : PySem.W.findIn K (.ref C_InvalidCount) "__setattr__" = some (some (.builtin "object.__setattr__"))) (ga_InvalidCount : PySem.W.findIn K (.ref C_InvalidCount) "__getattribute__" = some (some (.builtin "BaseException.__getattribute__"))) (gg_InvalidCount : PySem.W.findIn K (.ref C_InvalidCount) "__getattr__" = some none) (kC_InvalidCount : PySem.W.keepIn K (.ref C_InvalidCount) = true) (eC_InvalidCount : PySem.W.subIn K (.ref C_InvalidCount) (.type "BaseException") = some true) (hC_InvalidCount : PySem.W.hasDictIn K C_InvalidCount = true) (ca_InvalidCount : PySem.W.findIn K (.ref C_InvalidCount) "__class__" = some (some (.builtin "object.__class__"))) (cm_InvalidCount : PySem.W.mroIn K C_InvalidCount (.type "object") = some true)
    {fI_InvalidCount : Addr} {od_InvalidCount an_InvalidCount : Option Addr} {sl_InvalidCount : Array (Option Value)} {oc_InvalidCount dc_InvalidCount pm_InvalidCount cd_InvalidCount ct_InvalidCount : Value} {p1_InvalidCount p2_InvalidCount q1_InvalidCount q2_InvalidCount q3_InvalidCount q4_InvalidCount : Pos}
    (nb_InvalidCount : PySem.W.findIn K (.ref C_InvalidCount) "given" = some none) (a1_InvalidCount : PySem.W.findIn K (.ref C_InvalidCount) "__init__" = some (some (.ref fI_InvalidCount))) (t1_InvalidCount : PySem.W.typeIn K (.ref fI_InvalidCount) = some (.type "function")) (l1_InvalidCount : K.lookup fI_InvalidCount = some ⟨oc_InvalidCount, od_InvalidCount, .func (PySem.W.fnOf "__init__" "InvalidCount.__init__" (PySem.XE_given.iA p1_InvalidCount p2_InvalidCount) (PySem.XE_given.iB q1_InvalidCount q2_InvalidCount q3_InvalidCount q4_InvalidCount) PySem.XE_given.iS .none .none dc_InvalidCount pm_InvalidCount an_InvalidCount cd_InvalidCount ct_InvalidCount), sl_InvalidCount⟩) (c1_InvalidCount : PySem.W.codeIn K cd_InvalidCount "InvalidCount.__init__" = true)
    {C_InvalidRelation N_InvalidRelation : Addr} {q_InvalidRelation : Str} {bs_InvalidRelation : List Value} {sn_InvalidRelation : List Str} {sub_InvalidRelation : List Value} {ab_InvalidRelation : Bool} {col_InvalidRelation : Option Bool} {dd_InvalidRelation : Option Addr} {m0_InvalidRelation m1_InvalidRelation m2_InvalidRelation m3_InvalidRelation m5_InvalidRelation : Option Value}
    (aC_InvalidRelation : PySem.W.nsIn K mainGlobals "InvalidRelation" = some (some (.ref C_InvalidRelation))) (xL_InvalidRelation : K.lookup C_InvalidRelation = some (PySem.excClassObj "InvalidRelation" q_InvalidRelation C_InvalidRelation N_InvalidRelation bs_InvalidRelation [.ref C_LetterError, .type "ValueError", .type "Exception", .type "BaseException", .type "object"] true sn_InvalidRelation sub_InvalidRelation ab_InvalidRelation col_InvalidRelation dd_InvalidRelation m0_InvalidRelation m1_InvalidRelation m2_InvalidRelation m3_InvalidRelation m5_InvalidRelation "ValueError.__new__"))
    (sa_InvalidRelation : PySem.W.findIn K (.ref C_InvalidRelation) "__setattr__" = some (some (.builtin "object.__setattr__"))) (ga_InvalidRelation : PySem.W.findIn K (.ref C_InvalidRelation) "__getattribute__" = some (some (.builtin "BaseException.__getattribute__"))) (gg_InvalidRelation : PySem.W.findIn K (.ref C_InvalidRelation) "__getattr__" = some none) (kC_InvalidRelation : PySem.W.keepIn K (.ref C_InvalidRelation) = true) (eC_InvalidRelation : PySem.W.subIn K (.ref C_InvalidRelation) (.type "BaseException") = some true) (hC_InvalidRelation : PySem.W.hasDictIn K C_InvalidRelation = true) (ca_InvalidRelation : PySem.W.findIn K (.ref C_InvalidRelation) "__class__" = some (some (.builtin "object.__class__"))) (cm_InvalidRelation : PySem.W.mroIn K C_InvalidRelation (.type "object") = some true)
    {fI_InvalidRelation : Addr} {od_InvalidRelation an_InvalidRelation : Option Addr} {sl_InvalidRelation : Array (Option Value)} {oc_InvalidRelation dc_InvalidRelation pm_InvalidRelation cd_InvalidRelation ct_InvalidRelation : Value} {p1_InvalidRelation p2_InvalidRelation q1_InvalidRelation q2_InvalidRelation q3_InvalidRelation q4_InvalidRelation : Pos}
    (nb_InvalidRelation : PySem.W.findIn K (.ref C_InvalidRelation) "given" = some none) (a1_InvalidRelation : PySem.W.findIn K (.ref C_InvalidRelation) "__init__" = some (some (.ref fI_InvalidRelation))) (t1_InvalidRelation : PySem.W.typeIn K (.ref fI_InvalidRelation) = some (.type "function")) (l1_InvalidRelation : K.lookup fI_InvalidRelation = some ⟨oc_InvalidRelation, od_InvalidRelation, .func (PySem.W.fnOf "__init__" "InvalidRelation.__init__" (PySem.XE_given.iA p1_InvalidRelation p2_InvalidRelation) (PySem.XE_given.iB q1_InvalidRelation q2_InvalidRelation q3_InvalidRelation q4_InvalidRelation) PySem.XE_given.iS .none .none dc_InvalidRelation pm_InvalidRelation an_InvalidRelation cd_InvalidRelation ct_InvalidRelation), sl_InvalidRelation⟩) (c1_InvalidRelation : PySem.W.codeIn K cd_InvalidRelation "InvalidRelation.__init__" = true)
    {C_InvalidLetter N_InvalidLetter : Addr} {q_InvalidLetter : Str} {bs_InvalidLetter : List Value} {sn_InvalidLetter : List Str} {sub_InvalidLetter : List Value} {ab_InvalidLetter : Bool} {col_InvalidLetter : Option Bool} {dd_InvalidLetter : Option Addr} {m0_InvalidLetter m1_InvalidLetter m2_InvalidLetter m3_InvalidLetter m5_InvalidLetter : Option Value}
    (aC_InvalidLetter : PySem.W.nsIn K mainGlobals "InvalidLetter" = some (some (.ref C_InvalidLetter))) (xL_InvalidLetter : K.lookup C_InvalidLetter = some (PySem.excClassObj "InvalidLetter" q_InvalidLetter C_InvalidLetter N_InvalidLetter bs_InvalidLetter [.ref C_LetterError, .type "ValueError", .type "Exception", .type "BaseException", .type "object"] true sn_InvalidLetter sub_InvalidLetter ab_InvalidLetter col_InvalidLetter dd_InvalidLetter m0_InvalidLetter m1_InvalidLetter m2_InvalidLetter m3_InvalidLetter m5_InvalidLetter "ValueError.__new__"))
    (sa_InvalidLetter : PySem.W.findIn K (.ref C_InvalidLetter) "__setattr__" = some (some (.builtin "object.__setattr__"))) (ga_InvalidLetter : PySem.W.findIn K (.ref C_InvalidLetter) "__getattribute__" = some (some (.builtin "BaseException.__getattribute__"))) (gg_InvalidLetter : PySem.W.findIn K (.ref C_InvalidLetter) "__getattr__" = some none) (kC_InvalidLetter : PySem.W.keepIn K (.ref C_InvalidLetter) = true) (eC_InvalidLetter : PySem.W.subIn K (.ref C_InvalidLetter) (.type "BaseException") = some true) (hC_InvalidLetter : PySem.W.hasDictIn K C_InvalidLetter = true) (ca_InvalidLetter : PySem.W.findIn K (.ref C_InvalidLetter) "__class__" = some (some (.builtin "object.__class__"))) (cm_InvalidLetter : PySem.W.mroIn K C_InvalidLetter (.type "object") = some true)
    {fI_InvalidLetter : Addr} {od_InvalidLetter an_InvalidLetter : Option Addr} {sl_InvalidLetter : Array (Option Value)} {oc_InvalidLetter dc_InvalidLetter pm_InvalidLetter cd_InvalidLetter ct_InvalidLetter : Value} {p1_InvalidLetter p2_InvalidLetter q1_InvalidLetter q2_InvalidLetter q3_InvalidLetter q4_InvalidLetter : Pos}
    (nb_InvalidLetter : PySem.W.findIn K (.ref C_InvalidLetter) "given" = some none) (a1_InvalidLetter : PySem.W.findIn K (.ref C_InvalidLetter) "__init__" = some (some (.ref fI_InvalidLetter))) (t1_InvalidLetter : PySem.W.typeIn K (.ref fI_InvalidLetter) = some (.type "function")) (l1_InvalidLetter : K.lookup fI_InvalidLetter = some ⟨oc_InvalidLetter, od_InvalidLetter, .func (PySem.W.fnOf "__init__" "InvalidLetter.__init__" (PySem.XE_given.iA p1_InvalidLetter p2_InvalidLetter) (PySem.XE_given.iB q1_InvalidLetter q2_InvalidLetter q3_InvalidLetter q4_InvalidLetter) PySem.XE_given.iS .none .none dc_InvalidLetter pm_InvalidLetter an_InvalidLetter cd_InvalidLetter ct_InvalidLetter), sl_InvalidLetter⟩) (c1_InvalidLetter : PySem.W.codeIn K cd_InvalidLetter "InvalidLetter.__init__" = true)
    {C_InvalidPoly N_InvalidPoly : Addr} {q_InvalidPoly : Str} {bs_InvalidPoly : List Value} {sn_InvalidPoly : List Str} {sub_InvalidPoly : List Value} {ab_InvalidPoly : Bool} {col_InvalidPoly : Option Bool} {dd_InvalidPoly : Option Addr} {m0_InvalidPoly m1_InvalidPoly m2_InvalidPoly m3_InvalidPoly m5_InvalidPoly : Option Value}
    (aC_InvalidPoly : PySem.W.nsIn K mainGlobals "InvalidPoly" = some (some (.ref C_InvalidPoly))) (xL_InvalidPoly : K.lookup C_InvalidPoly = some (PySem.excClassObj "InvalidPoly" q_InvalidPoly C_InvalidPoly N_InvalidPoly bs_InvalidPoly [.ref C_LetterError, .type "ValueError", .type "Exception", .type "BaseException", .type "object"] true sn_InvalidPoly sub_InvalidPoly ab_InvalidPoly col_InvalidPoly dd_InvalidPoly m0_InvalidPoly m1_InvalidPoly m2_InvalidPoly m3_InvalidPoly m5_InvalidPoly "ValueError.__new__"))
    (sa_InvalidPoly : PySem.W.findIn K (.ref C_InvalidPoly) "__setattr__" = some (some (.builtin "object.__setattr__"))) (ga_InvalidPoly : PySem.W.findIn K (.ref C_InvalidPoly) "__getattribute__" = some (some (.builtin "BaseException.__getattribute__"))) (gg_InvalidPoly : PySem.W.findIn K (.ref C_InvalidPoly) "__getattr__" = some none) (kC_InvalidPoly : PySem.W.keepIn K (.ref C_InvalidPoly) = true) (eC_InvalidPoly : PySem.W.subIn K (.ref C_InvalidPoly) (.type "BaseException") = some true) (hC_InvalidPoly : PySem.W.hasDictIn K C_InvalidPoly = true) (ca_InvalidPoly : PySem.W.findIn K (.ref C_InvalidPoly) "__class__" = some (some (.builtin "object.__class__"))) (cm_InvalidPoly : PySem.W.mroIn K C_InvalidPoly (.type "object") = some true)
    {fI_InvalidPoly : Addr} {od_InvalidPoly an_InvalidPoly : Option Addr} {sl_InvalidPoly : Array (Option Value)} {oc_InvalidPoly dc_InvalidPoly pm_InvalidPoly cd_InvalidPoly ct_InvalidPoly : Value} {p1_InvalidPoly p2_InvalidPoly q1_InvalidPoly q2_InvalidPoly q3_InvalidPoly q4_InvalidPoly : Pos}
    (nb_InvalidPoly : PySem.W.findIn K (.ref C_InvalidPoly) "given" = some none) (a1_InvalidPoly : PySem.W.findIn K (.ref C_InvalidPoly) "__init__" = some (some (.ref fI_InvalidPoly))) (t1_InvalidPoly : PySem.W.typeIn K (.ref fI_InvalidPoly) = some (.type "function")) (l1_InvalidPoly : K.lookup fI_InvalidPoly = some ⟨oc_InvalidPoly, od_InvalidPoly, .func (PySem.W.fnOf "__init__" "InvalidPoly.__init__" (PySem.XE_given.iA p1_InvalidPoly p2_InvalidPoly) (PySem.XE_given.iB q1_InvalidPoly q2_InvalidPoly q3_InvalidPoly q4_InvalidPoly) PySem.XE_given.iS .none .none dc_InvalidPoly pm_InvalidPoly an_InvalidPoly cd_InvalidPoly ct_InvalidPoly), sl_InvalidPoly⟩) (c1_InvalidPoly : PySem.W.codeIn K cd_InvalidPoly "InvalidPoly.__init__" = true)
    {C_InvalidPlace N_InvalidPlace : Addr} {q_InvalidPlace : Str} {bs_InvalidPlace : List Value} {sn_InvalidPlace : List Str} {sub_InvalidPlace : List Value} {ab_InvalidPlace : Bool} {col_InvalidPlace : Option Bool} {dd_InvalidPlace : Option Addr} {m0_InvalidPlace m1_InvalidPlace m2_InvalidPlace m3_InvalidPlace m5_InvalidPlace : Option Value}
    (aC_InvalidPlace : PySem.W.nsIn K mainGlobals "InvalidPlace" = some (some (.ref C_InvalidPlace))) (xL_InvalidPlace : K.lookup C_InvalidPlace = some (PySem.excClassObj "InvalidPlace" q_InvalidPlace C_InvalidPlace N_InvalidPlace bs_InvalidPlace [.ref C_LetterError, .type "ValueError", .type "Exception", .type "BaseException", .type "object"] true sn_InvalidPlace sub_InvalidPlace ab_InvalidPlace col_InvalidPlace dd_InvalidPlace m0_InvalidPlace m1_InvalidPlace m2_InvalidPlace m3_InvalidPlace m5_InvalidPlace "ValueError.__new__"))
    (sa_InvalidPlace : PySem.W.findIn K (.ref C_InvalidPlace) "__setattr__" = some (some (.builtin "object.__setattr__"))) (ga_InvalidPlace : PySem.W.findIn K (.ref C_InvalidPlace) "__getattribute__" = some (some (.builtin "BaseException.__getattribute__"))) (gg_InvalidPlace : PySem.W.findIn K (.ref C_InvalidPlace) "__getattr__" = some none) (kC_InvalidPlace : PySem.W.keepIn K (.ref C_InvalidPlace) = true) (eC_InvalidPlace : PySem.W.subIn K (.ref C_InvalidPlace) (.type "BaseException") = some true) (hC_InvalidPlace : PySem.W.hasDictIn K C_InvalidPlace = true) (ca_InvalidPlace : PySem.W.findIn K (.ref C_InvalidPlace) "__class__" = some (some (.builtin "object.__class__"))) (cm_InvalidPlace : PySem.W.mroIn K C_InvalidPlace (.type "object") = some true)
    {fI_InvalidPlace : Addr} {od_InvalidPlace an_InvalidPlace : Option Addr} {sl_InvalidPlace : Array (Option Value)} {oc_InvalidPlace dc_InvalidPlace pm_InvalidPlace cd_InvalidPlace ct_InvalidPlace : Value} {p1_InvalidPlace p2_InvalidPlace q1_InvalidPlace q2_InvalidPlace q3_InvalidPlace q4_InvalidPlace : Pos}
    (nb_InvalidPlace : PySem.W.findIn K (.ref C_InvalidPlace) "given" = some none) (a1_InvalidPlace : PySem.W.findIn K (.ref C_InvalidPlace) "__init__" = some (some (.ref fI_InvalidPlace))) (t1_InvalidPlace : PySem.W.typeIn K (.ref fI_InvalidPlace) = some (.type "function")) (l1_InvalidPlace : K.lookup fI_InvalidPlace = some ⟨oc_InvalidPlace, od_InvalidPlace, .func (PySem.W.fnOf "__init__" "InvalidPlace.__init__" (PySem.XE_given.iA p1_InvalidPlace p2_InvalidPlace) (PySem.XE_given.iB q1_InvalidPlace q2_InvalidPlace q3_InvalidPlace q4_InvalidPlace) PySem.XE_given.iS .none .none dc_InvalidPlace pm_InvalidPlace an_InvalidPlace cd_InvalidPlace ct_InvalidPlace), sl_InvalidPlace⟩) (c1_InvalidPlace : PySem.W.codeIn K cd_InvalidPlace "InvalidPlace.__init__" = true)
    {C_InvalidSaying N_InvalidSaying : Addr} {q_InvalidSaying : Str} {bs_InvalidSaying : List Value} {sn_InvalidSaying : List Str} {sub_InvalidSaying : List Value} {ab_InvalidSaying : Bool} {col_InvalidSaying : Option Bool} {dd_InvalidSaying : Option Addr} {m0_InvalidSaying m1_InvalidSaying m2_InvalidSaying m3_InvalidSaying m5_InvalidSaying : Option Value}
    (aC_InvalidSaying : PySem.W.nsIn K mainGlobals "InvalidSaying" = some (some (.ref C_InvalidSaying))) (xL_InvalidSaying : K.lookup C_InvalidSaying = some (PySem.excClassObj "InvalidSaying" q_InvalidSaying C_InvalidSaying N_InvalidSaying bs_InvalidSaying [.ref C_LetterError, .type "ValueError", .type "Exception", .type "BaseException", .type "object"] true sn_InvalidSaying sub_InvalidSaying ab_InvalidSaying col_InvalidSaying dd_InvalidSaying m0_InvalidSaying m1_InvalidSaying m2_InvalidSaying m3_InvalidSaying m5_InvalidSaying "ValueError.__new__"))
    (sa_InvalidSaying : PySem.W.findIn K (.ref C_InvalidSaying) "__setattr__" = some (some (.builtin "object.__setattr__"))) (ga_InvalidSaying : PySem.W.findIn K (.ref C_InvalidSaying) "__getattribute__" = some (some (.builtin "BaseException.__getattribute__"))) (gg_InvalidSaying : PySem.W.findIn K (.ref C_InvalidSaying) "__getattr__" = some none) (kC_InvalidSaying : PySem.W.keepIn K (.ref C_InvalidSaying) = true) (eC_InvalidSaying : PySem.W.subIn K (.ref C_InvalidSaying) (.type "BaseException") = some true) (hC_InvalidSaying : PySem.W.hasDictIn K C_InvalidSaying = true) (ca_InvalidSaying : PySem.W.findIn K (.ref C_InvalidSaying) "__class__" = some (some (.builtin "object.__class__"))) (cm_InvalidSaying : PySem.W.mroIn K C_InvalidSaying (.type "object") = some true)
    {fI_InvalidSaying : Addr} {od_InvalidSaying an_InvalidSaying : Option Addr} {sl_InvalidSaying : Array (Option Value)} {oc_InvalidSaying dc_InvalidSaying pm_InvalidSaying cd_InvalidSaying ct_InvalidSaying : Value} {p1_InvalidSaying p2_InvalidSaying q1_InvalidSaying q2_InvalidSaying q3_InvalidSaying q4_InvalidSaying : Pos}
    (nb_InvalidSaying : PySem.W.findIn K (.ref C_InvalidSaying) "given" = some none) (a1_InvalidSaying : PySem.W.findIn K (.ref C_InvalidSaying) "__init__" = some (some (.ref fI_InvalidSaying))) (t1_InvalidSaying : PySem.W.typeIn K (.ref fI_InvalidSaying) = some (.type "function")) (l1_InvalidSaying : K.lookup fI_InvalidSaying = some ⟨oc_InvalidSaying, od_InvalidSaying, .func (PySem.W.fnOf "__init__" "InvalidSaying.__init__" (PySem.XE_given.iA p1_InvalidSaying p2_InvalidSaying) (PySem.XE_given.iB q1_InvalidSaying q2_InvalidSaying q3_InvalidSaying q4_InvalidSaying) PySem.XE_given.iS .none .none dc_InvalidSaying pm_InvalidSaying an_InvalidSaying cd_InvalidSaying ct_InvalidSaying), sl_InvalidSaying⟩) (c1_InvalidSaying : PySem.W.codeIn K cd_InvalidSaying "InvalidSaying.__init__" = true)
    {C_InvalidCell N_InvalidCell : Addr} {q_InvalidCell : Str} {bs_InvalidCell : List Value} {sn_InvalidCell : List Str} {sub_InvalidCell : List Value} {ab_InvalidCell : Bool} {col_InvalidCell : Option Bool} {dd_InvalidCell : Option Addr} {m0_InvalidCell m1_InvalidCell m2_InvalidCell m3_InvalidCell m5_InvalidCell : Option Value}
    (aC_InvalidCell : PySem.W.nsIn K mainGlobals "InvalidCell" = some (some (.ref C_InvalidCell))) (xL_InvalidCell : K.lookup C_InvalidCell = some (PySem.excClassObj "InvalidCell" q_InvalidCell C_InvalidCell N_InvalidCell bs_InvalidCell [.ref C_LetterError, .type "ValueError", .type "Exception", .type "BaseException", .type "object"] true sn_InvalidCell sub_InvalidCell ab_InvalidCell col_InvalidCell dd_InvalidCell m0_InvalidCell m1_InvalidCell m2_InvalidCell m3_InvalidCell m5_InvalidCell "ValueError.__new__"))
    (sa_InvalidCell : PySem.W.findIn K (.ref C_InvalidCell) "__setattr__" = some (some (.builtin "object.__setattr__"))) (ga_InvalidCell : PySem.W.findIn K (.ref C_InvalidCell) "__getattribute__" = some (some (.builtin "BaseException.__getattribute__"))) (gg_InvalidCell : PySem.W.findIn K (.ref C_InvalidCell) "__getattr__" = some none) (kC_InvalidCell : PySem.W.keepIn K (.ref C_InvalidCell) = true) (eC_InvalidCell : PySem.W.subIn K (.ref C_InvalidCell) (.type "BaseException") = some true) (hC_InvalidCell : PySem.W.hasDictIn K C_InvalidCell = true) (ca_InvalidCell : PySem.W.findIn K (.ref C_InvalidCell) "__class__" = some (some (.builtin "object.__class__"))) (cm_InvalidCell : PySem.W.mroIn K C_InvalidCell (.type "object") = some true)
    {fI_InvalidCell : Addr} {od_InvalidCell an_InvalidCell : Option Addr} {sl_InvalidCell : Array (Option Value)} {oc_InvalidCell dc_InvalidCell pm_InvalidCell cd_InvalidCell ct_InvalidCell : Value} {p1_InvalidCell p2_InvalidCell q1_InvalidCell q2_InvalidCell q3_InvalidCell q4_InvalidCell : Pos}
    (nb_InvalidCell : PySem.W.findIn K (.ref C_InvalidCell) "given" = some none) (a1_InvalidCell : PySem.W.findIn K (.ref C_InvalidCell) "__init__" = some (some (.ref fI_InvalidCell))) (t1_InvalidCell : PySem.W.typeIn K (.ref fI_InvalidCell) = some (.type "function")) (l1_InvalidCell : K.lookup fI_InvalidCell = some ⟨oc_InvalidCell, od_InvalidCell, .func (PySem.W.fnOf "__init__" "InvalidCell.__init__" (PySem.XE_given.iA p1_InvalidCell p2_InvalidCell) (PySem.XE_given.iB q1_InvalidCell q2_InvalidCell q3_InvalidCell q4_InvalidCell) PySem.XE_given.iS .none .none dc_InvalidCell pm_InvalidCell an_InvalidCell cd_InvalidCell ct_InvalidCell), sl_InvalidCell⟩) (c1_InvalidCell : PySem.W.codeIn K cd_InvalidCell "InvalidCell.__init__" = true)
    {C_InvalidPoint N_InvalidPoint : Addr} {q_InvalidPoint : Str} {bs_InvalidPoint : List Value} {sn_InvalidPoint : List Str} {sub_InvalidPoint : List Value} {ab_InvalidPoint : Bool} {col_InvalidPoint : Option Bool} {dd_InvalidPoint : Option Addr} {m0_InvalidPoint m1_InvalidPoint m2_InvalidPoint m3_InvalidPoint m5_InvalidPoint : Option Value}
    (aC_InvalidPoint : PySem.W.nsIn K mainGlobals "InvalidPoint" = some (some (.ref C_InvalidPoint))) (xL_InvalidPoint : K.lookup C_InvalidPoint = some (PySem.excClassObj "InvalidPoint" q_InvalidPoint C_InvalidPoint N_InvalidPoint bs_InvalidPoint [.ref C_LetterError, .type "ValueError", .type "Exception", .type "BaseException", .type "object"] true sn_InvalidPoint sub_InvalidPoint ab_InvalidPoint col_InvalidPoint dd_InvalidPoint m0_InvalidPoint m1_InvalidPoint m2_InvalidPoint m3_InvalidPoint m5_InvalidPoint "ValueError.__new__"))
    (sa_InvalidPoint : PySem.W.findIn K (.ref C_InvalidPoint) "__setattr__" = some (some (.builtin "object.__setattr__"))) (ga_InvalidPoint : PySem.W.findIn K (.ref C_InvalidPoint) "__getattribute__" = some (some (.builtin "BaseException.__getattribute__"))) (gg_InvalidPoint : PySem.W.findIn K (.ref C_InvalidPoint) "__getattr__" = some none) (kC_InvalidPoint : PySem.W.keepIn K (.ref C_InvalidPoint) = true) (eC_InvalidPoint : PySem.W.subIn K (.ref C_InvalidPoint) (.type "BaseException") = some true) (hC_InvalidPoint : PySem.W.hasDictIn K C_InvalidPoint = true) (ca_InvalidPoint : PySem.W.findIn K (.ref C_InvalidPoint) "__class__" = some (some (.builtin "object.__class__"))) (cm_InvalidPoint : PySem.W.mroIn K C_InvalidPoint (.type "object") = some true)
    {fI_InvalidPoint : Addr} {od_InvalidPoint an_InvalidPoint : Option Addr} {sl_InvalidPoint : Array (Option Value)} {oc_InvalidPoint dc_InvalidPoint pm_InvalidPoint cd_InvalidPoint ct_InvalidPoint : Value} {p1_InvalidPoint p2_InvalidPoint q1_InvalidPoint q2_InvalidPoint q3_InvalidPoint q4_InvalidPoint : Pos}
    (nb_InvalidPoint : PySem.W.findIn K (.ref C_InvalidPoint) "given" = some none) (a1_InvalidPoint : PySem.W.findIn K (.ref C_InvalidPoint) "__init__" = some (some (.ref fI_InvalidPoint))) (t1_InvalidPoint : PySem.W.typeIn K (.ref fI_InvalidPoint) = some (.type "function")) (l1_InvalidPoint : K.lookup fI_InvalidPoint = some ⟨oc_InvalidPoint, od_InvalidPoint, .func (PySem.W.fnOf "__init__" "InvalidPoint.__init__" (PySem.XE_given.iA p1_InvalidPoint p2_InvalidPoint) (PySem.XE_given.iB q1_InvalidPoint q2_InvalidPoint q3_InvalidPoint q4_InvalidPoint) PySem.XE_given.iS .none .none dc_InvalidPoint pm_InvalidPoint an_InvalidPoint cd_InvalidPoint ct_InvalidPoint), sl_InvalidPoint⟩) (c1_InvalidPoint : PySem.W.codeIn K cd_InvalidPoint "InvalidPoint.__init__" = true)
    {C_TooMany N_TooMany : Addr} {q_TooMany : Str} {bs_TooMany : List Value} {sn_TooMany : List Str} {sub_TooMany : List Value} {ab_TooMany : Bool} {col_TooMany : Option Bool} {dd_TooMany : Option Addr} {m0_TooMany m1_TooMany m2_TooMany m3_TooMany m5_TooMany : Option Value}
    (aC_TooMany : PySem.W.nsIn K mainGlobals "TooMany" = some (some (.ref C_TooMany))) (xL_TooMany : K.lookup C_TooMany = some (PySem.excClassObj "TooMany" q_TooMany C_TooMany N_TooMany bs_TooMany [.ref C_LetterError, .type "ValueError", .type "Exception", .type "BaseException", .type "object"] true sn_TooMany sub_TooMany ab_TooMany col_TooMany dd_TooMany m0_TooMany m1_TooMany m2_TooMany m3_TooMany m5_TooMany "ValueError.__new__"))
    (sa_TooMany : PySem.W.findIn K (.ref C_TooMany) "__setattr__" = some (some (.builtin "object.__setattr__"))) (ga_TooMany : PySem.W.findIn K (.ref C_TooMany) "__getattribute__" = some (some (.builtin "BaseException.__getattribute__"))) (gg_TooMany : PySem.W.findIn K (.ref C_TooMany) "__getattr__" = some none) (kC_TooMany : PySem.W.keepIn K (.ref C_TooMany) = true) (eC_TooMany : PySem.W.subIn K (.ref C_TooMany) (.type "BaseException") = some true) (hC_TooMany : PySem.W.hasDictIn K C_TooMany = true) (ca_TooMany : PySem.W.findIn K (.ref C_TooMany) "__class__" = some (some (.builtin "object.__class__"))) (cm_TooMany : PySem.W.mroIn K C_TooMany (.type "object") = some true)
    {fI_TooMany : Addr} {od_TooMany an_TooMany : Option Addr} {sl_TooMany : Array (Option Value)} {oc_TooMany dc_TooMany pm_TooMany cd_TooMany ct_TooMany : Value} {p1_TooMany p2_TooMany q1_TooMany q2_TooMany q3_TooMany q4_TooMany : Pos}
    (nb_TooMany : PySem.W.findIn K (.ref C_TooMany) "given" = some none) (a1_TooMany : PySem.W.findIn K (.ref C_TooMany) "__init__" = some (some (.ref fI_TooMany))) (t1_TooMany : PySem.W.typeIn K (.ref fI_TooMany) = some (.type "function")) (l1_TooMany : K.lookup fI_TooMany = some ⟨oc_TooMany, od_TooMany, .func (PySem.W.fnOf "__init__" "TooMany.__init__" (PySem.XE_given.iA p1_TooMany p2_TooMany) (PySem.XE_given.iB q1_TooMany q2_TooMany q3_TooMany q4_TooMany) PySem.XE_given.iS .none .none dc_TooMany pm_TooMany an_TooMany cd_TooMany ct_TooMany), sl_TooMany⟩) (c1_TooMany : PySem.W.codeIn K cd_TooMany "TooMany.__init__" = true)
    {C_InvalidRows N_InvalidRows : Addr} {q_InvalidRows : Str} {bs_InvalidRows : List Value} {sn_InvalidRows : List Str} {sub_InvalidRows : List Value} {ab_InvalidRows : Bool} {col_InvalidRows : Option Bool} {dd_InvalidRows : Option Addr} {m0_InvalidRows m1_InvalidRows m2_InvalidRows m3_InvalidRows m5_InvalidRows : Option Value}
    (aC_InvalidRows : PySem.W.nsIn K mainGlobals "InvalidRows" = some (some (.ref C_InvalidRows))) (xL_InvalidRows : K.lookup C_InvalidRows = some (PySem.excClassObj "InvalidRows" q_InvalidRows C_InvalidRows N_InvalidRows bs_InvalidRows [.ref C_LetterError, .type "ValueError", .type "Exception", .type "BaseException", .type "object"] true sn_InvalidRows sub_InvalidRows ab_InvalidRows col_InvalidRows dd_InvalidRows m0_InvalidRows m1_InvalidRows m2_InvalidRows m3_InvalidRows m5_InvalidRows "ValueError.__new__"))
    (sa_InvalidRows : PySem.W.findIn K (.ref C_InvalidRows) "__setattr__" = some (some (.builtin "object.__setattr__"))) (ga_InvalidRows : PySem.W.findIn K (.ref C_InvalidRows) "__getattribute__" = some (some (.builtin "BaseException.__getattribute__"))) (gg_InvalidRows : PySem.W.findIn K (.ref C_InvalidRows) "__getattr__" = some none) (kC_InvalidRows : PySem.W.keepIn K (.ref C_InvalidRows) = true) (eC_InvalidRows : PySem.W.subIn K (.ref C_InvalidRows) (.type "BaseException") = some true) (hC_InvalidRows : PySem.W.hasDictIn K C_InvalidRows = true) (ca_InvalidRows : PySem.W.findIn K (.ref C_InvalidRows) "__class__" = some (some (.builtin "object.__class__"))) (cm_InvalidRows : PySem.W.mroIn K C_InvalidRows (.type "object") = some true)
    {fI_InvalidRows : Addr} {od_InvalidRows an_InvalidRows : Option Addr} {sl_InvalidRows : Array (Option Value)} {oc_InvalidRows dc_InvalidRows pm_InvalidRows cd_InvalidRows ct_InvalidRows : Value} {p1_InvalidRows p2_InvalidRows q1_InvalidRows q2_InvalidRows q3_InvalidRows q4_InvalidRows : Pos}
    (nb_InvalidRows : PySem.W.findIn K (.ref C_InvalidRows) "index" = some none) (a1_InvalidRows : PySem.W.findIn K (.ref C_InvalidRows) "__init__" = some (some (.ref fI_InvalidRows))) (t1_InvalidRows : PySem.W.typeIn K (.ref fI_InvalidRows) = some (.type "function")) (l1_InvalidRows : K.lookup fI_InvalidRows = some ⟨oc_InvalidRows, od_InvalidRows, .func (PySem.W.fnOf "__init__" "InvalidRows.__init__" (PySem.XE_index.iA p1_InvalidRows p2_InvalidRows) (PySem.XE_index.iB q1_InvalidRows q2_InvalidRows q3_InvalidRows q4_InvalidRows) PySem.XE_index.iS .none .none dc_InvalidRows pm_InvalidRows an_InvalidRows cd_InvalidRows ct_InvalidRows), sl_InvalidRows⟩) (c1_InvalidRows : PySem.W.codeIn K cd_InvalidRows "InvalidRows.__init__" = true)
    {C_InvalidPolys N_InvalidPolys : Addr} {q_InvalidPolys : Str} {bs_InvalidPolys : List Value} {sn_InvalidPolys : List Str} {sub_InvalidPolys : List Value} {ab_InvalidPolys : Bool} {col_InvalidPolys : Option Bool} {dd_InvalidPolys : Option Addr} {m0_InvalidPolys m1_InvalidPolys m2_InvalidPolys m3_InvalidPolys m5_InvalidPolys : Option Value}
    (aC_InvalidPolys : PySem.W.nsIn K mainGlobals "InvalidPolys" = some (some (.ref C_InvalidPolys))) (xL_InvalidPolys : K.lookup C_InvalidPolys = some (PySem.excClassObj "InvalidPolys" q_InvalidPolys C_InvalidPolys N_InvalidPolys bs_InvalidPolys [.ref C_LetterError, .type "ValueError", .type "Exception", .type "BaseException", .type "object"] true sn_InvalidPolys sub_InvalidPolys ab_InvalidPolys col_InvalidPolys dd_InvalidPolys m0_InvalidPolys m1_InvalidPolys m2_InvalidPolys m3_InvalidPolys m5_InvalidPolys "ValueError.__new__"))
    (sa_InvalidPolys : PySem.W.findIn K (.ref C_InvalidPolys) "__setattr__" = some (some (.builtin "object.__setattr__"))) (ga_InvalidPolys : PySem.W.findIn K (.ref C_InvalidPolys) "__getattribute__" = some (some (.builtin "BaseException.__getattribute__"))) (gg_InvalidPolys : PySem.W.findIn K (.ref C_InvalidPolys) "__getattr__" = some none) (kC_InvalidPolys : PySem.W.keepIn K (.ref C_InvalidPolys) = true) (eC_InvalidPolys : PySem.W.subIn K (.ref C_InvalidPolys) (.type "BaseException") = some true) (hC_InvalidPolys : PySem.W.hasDictIn K C_InvalidPolys = true) (ca_InvalidPolys : PySem.W.findIn K (.ref C_InvalidPolys) "__class__" = some (some (.builtin "object.__class__"))) (cm_InvalidPolys : PySem.W.mroIn K C_InvalidPolys (.type "object") = some true)
    {fI_InvalidPolys : Addr} {od_InvalidPolys an_InvalidPolys : Option Addr} {sl_InvalidPolys : Array (Option Value)} {oc_InvalidPolys dc_InvalidPolys pm_InvalidPolys cd_InvalidPolys ct_InvalidPolys : Value} {p1_InvalidPolys p2_InvalidPolys q1_InvalidPolys q2_InvalidPolys q3_InvalidPolys q4_InvalidPolys : Pos}
    (nb_InvalidPolys : PySem.W.findIn K (.ref C_InvalidPolys) "index" = some none) (a1_InvalidPolys : PySem.W.findIn K (.ref C_InvalidPolys) "__init__" = some (some (.ref fI_InvalidPolys))) (t1_InvalidPolys : PySem.W.typeIn K (.ref fI_InvalidPolys) = some (.type "function")) (l1_InvalidPolys : K.lookup fI_InvalidPolys = some ⟨oc_InvalidPolys, od_InvalidPolys, .func (PySem.W.fnOf "__init__" "InvalidPolys.__init__" (PySem.XE_index.iA p1_InvalidPolys p2_InvalidPolys) (PySem.XE_index.iB q1_InvalidPolys q2_InvalidPolys q3_InvalidPolys q4_InvalidPolys) PySem.XE_index.iS .none .none dc_InvalidPolys pm_InvalidPolys an_InvalidPolys cd_InvalidPolys ct_InvalidPolys), sl_InvalidPolys⟩) (c1_InvalidPolys : PySem.W.codeIn K cd_InvalidPolys "InvalidPolys.__init__" = true)
    {C_InvalidLines N_InvalidLines : Addr} {q_InvalidLines : Str} {bs_InvalidLines : List Value} {sn_InvalidLines : List Str} {sub_InvalidLines : List Value} {ab_InvalidLines : Bool} {col_InvalidLines : Option Bool} {dd_InvalidLines : Option Addr} {m0_InvalidLines m1_InvalidLines m2_InvalidLines m3_InvalidLines m5_InvalidLines : Option Value}
    (aC_InvalidLines : PySem.W.nsIn K mainGlobals "InvalidLines" = some (some (.ref C_InvalidLines))) (xL_InvalidLines : K.lookup C_InvalidLines = some (PySem.excClassObj "InvalidLines" q_InvalidLines C_InvalidLines N_InvalidLines bs_InvalidLines [.ref C_LetterError, .type "ValueError", .type "Exception", .type "BaseException", .type "object"] true sn_InvalidLines sub_InvalidLines ab_InvalidLines col_InvalidLines dd_InvalidLines m0_InvalidLines m1_InvalidLines m2_InvalidLines m3_InvalidLines m5_InvalidLines "ValueError.__new__"))
    (sa_InvalidLines : PySem.W.findIn K (.ref C_InvalidLines) "__setattr__" = some (some (.builtin "object.__setattr__"))) (ga_InvalidLines : PySem.W.findIn K (.ref C_InvalidLines) "__getattribute__" = some (some (.builtin "BaseException.__getattribute__"))) (gg_InvalidLines : PySem.W.findIn K (.ref C_InvalidLines) "__getattr__" = some none) (kC_InvalidLines : PySem.W.keepIn K (.ref C_InvalidLines) = true) (eC_InvalidLines : PySem.W.subIn K (.ref C_InvalidLines) (.type "BaseException") = some true) (hC_InvalidLines : PySem.W.hasDictIn K C_InvalidLines = true) (ca_InvalidLines : PySem.W.findIn K (.ref C_InvalidLines) "__class__" = some (some (.builtin "object.__class__"))) (cm_InvalidLines : PySem.W.mroIn K C_InvalidLines (.type "object") = some true)
    {fI_InvalidLines : Addr} {od_InvalidLines an_InvalidLines : Option Addr} {sl_InvalidLines : Array (Option Value)} {oc_InvalidLines dc_InvalidLines pm_InvalidLines cd_InvalidLines ct_InvalidLines : Value} {p1_InvalidLines p2_InvalidLines q1_InvalidLines q2_InvalidLines q3_InvalidLines q4_InvalidLines : Pos}
    (nb_InvalidLines : PySem.W.findIn K (.ref C_InvalidLines) "index" = some none) (a1_InvalidLines : PySem.W.findIn K (.ref C_InvalidLines) "__init__" = some (some (.ref fI_InvalidLines))) (t1_InvalidLines : PySem.W.typeIn K (.ref fI_InvalidLines) = some (.type "function")) (l1_InvalidLines : K.lookup fI_InvalidLines = some ⟨oc_InvalidLines, od_InvalidLines, .func (PySem.W.fnOf "__init__" "InvalidLines.__init__" (PySem.XE_index.iA p1_InvalidLines p2_InvalidLines) (PySem.XE_index.iB q1_InvalidLines q2_InvalidLines q3_InvalidLines q4_InvalidLines) PySem.XE_index.iS .none .none dc_InvalidLines pm_InvalidLines an_InvalidLines cd_InvalidLines ct_InvalidLines), sl_InvalidLines⟩) (c1_InvalidLines : PySem.W.codeIn K cd_InvalidLines "InvalidLines.__init__" = true)
    {C_BadText N_BadText : Addr} {q_BadText : Str} {bs_BadText : List Value} {sn_BadText : List Str} {sub_BadText : List Value} {ab_BadText : Bool} {col_BadText : Option Bool} {dd_BadText : Option Addr} {m0_BadText m1_BadText m2_BadText m3_BadText m5_BadText : Option Value}
    (aC_BadText : PySem.W.nsIn K mainGlobals "BadText" = some (some (.ref C_BadText))) (xL_BadText : K.lookup C_BadText = some (PySem.excClassObj "BadText" q_BadText C_BadText N_BadText bs_BadText [.ref C_LetterError, .type "ValueError", .type "Exception", .type "BaseException", .type "object"] true sn_BadText sub_BadText ab_BadText col_BadText dd_BadText m0_BadText m1_BadText m2_BadText m3_BadText m5_BadText "ValueError.__new__"))
    (sa_BadText : PySem.W.findIn K (.ref C_BadText) "__setattr__" = some (some (.builtin "object.__setattr__"))) (ga_BadText : PySem.W.findIn K (.ref C_BadText) "__getattribute__" = some (some (.builtin "BaseException.__getattribute__"))) (gg_BadText : PySem.W.findIn K (.ref C_BadText) "__getattr__" = some none) (kC_BadText : PySem.W.keepIn K (.ref C_BadText) = true) (eC_BadText : PySem.W.subIn K (.ref C_BadText) (.type "BaseException") = some true) (hC_BadText : PySem.W.hasDictIn K C_BadText = true) (ca_BadText : PySem.W.findIn K (.ref C_BadText) "__class__" = some (some (.builtin "object.__class__"))) (cm_BadText : PySem.W.mroIn K C_BadText (.type "object") = some true)
    {fI_BadText : Addr} {od_BadText an_BadText : Option Addr} {sl_BadText : Array (Option Value)} {oc_BadText dc_BadText pm_BadText cd_BadText ct_BadText : Value} {p1_BadText p2_BadText q1_BadText q2_BadText q3_BadText q4_BadText : Pos}
    (nb_BadText : PySem.W.findIn K (.ref C_BadText) "spot" = some none) (a1_BadText : PySem.W.findIn K (.ref C_BadText) "__init__" = some (some (.ref fI_BadText))) (t1_BadText : PySem.W.typeIn K (.ref fI_BadText) = some (.type "function")) (l1_BadText : K.lookup fI_BadText = some ⟨oc_BadText, od_BadText, .func (PySem.W.fnOf "__init__" "BadText.__init__" (PySem.XE_spot.iA p1_BadText p2_BadText) (PySem.XE_spot.iB q1_BadText q2_BadText q3_BadText q4_BadText) PySem.XE_spot.iS .none .none dc_BadText pm_BadText an_BadText cd_BadText ct_BadText), sl_BadText⟩) (c1_BadText : PySem.W.codeIn K cd_BadText "BadText.__init__" = true)
    {C_UnlikePlaces N_UnlikePlaces : Addr} {q_UnlikePlaces : Str} {bs_UnlikePlaces : List Value} {sn_UnlikePlaces : List Str} {sub_UnlikePlaces : List Value} {ab_UnlikePlaces : Bool} {col_UnlikePlaces : Option Bool} {dd_UnlikePlaces : Option Addr} {m0_UnlikePlaces m1_UnlikePlaces m2_UnlikePlaces m3_UnlikePlaces m5_UnlikePlaces : Option Value}
    (aC_UnlikePlaces : PySem.W.nsIn K mainGlobals "UnlikePlaces" = some (some (.ref C_UnlikePlaces))) (xL_UnlikePlaces : K.lookup C_UnlikePlaces = some (PySem.excClassObj "UnlikePlaces" q_UnlikePlaces C_UnlikePlaces N_UnlikePlaces bs_UnlikePlaces [.ref C_LetterError, .type "ValueError", .type "Exception", .type "BaseException", .type "object"] true sn_UnlikePlaces sub_UnlikePlaces ab_UnlikePlaces col_UnlikePlaces dd_UnlikePlaces m0_UnlikePlaces m1_UnlikePlaces m2_UnlikePlaces m3_UnlikePlaces m5_UnlikePlaces "ValueError.__new__"))
    (sa_UnlikePlaces : PySem.W.findIn K (.ref C_UnlikePlaces) "__setattr__" = some (some (.builtin "object.__setattr__"))) (ga_UnlikePlaces : PySem.W.findIn K (.ref C_UnlikePlaces) "__getattribute__" = some (some (.builtin "BaseException.__getattribute__"))) (gg_UnlikePlaces : PySem.W.findIn K (.ref C_UnlikePlaces) "__getattr__" = some none) (kC_UnlikePlaces : PySem.W.keepIn K (.ref C_UnlikePlaces) = true) (eC_UnlikePlaces : PySem.W.subIn K (.ref C_UnlikePlaces) (.type "BaseException") = some true) (hC_UnlikePlaces : PySem.W.hasDictIn K C_UnlikePlaces = true) (ca_UnlikePlaces : PySem.W.findIn K (.ref C_UnlikePlaces) "__class__" = some (some (.builtin "object.__class__"))) (cm_UnlikePlaces : PySem.W.mroIn K C_UnlikePlaces (.type "object") = some true)
    (ze_UnlikePlaces : PySem.W.excIn K C_UnlikePlaces PySem.HandSPX.veTail "ValueError.__new__" = true) :
    ∃ (A : ClsN) (fd : FuncData), (∀ (s : Shared) (u : Value), BindsTo s fd ⟨[u], []⟩ [("_law_script", u)]) ∧ ∀ base : Heap, K.In base → base.Ns mainGlobals mg → (∃ o, base.get? PySem.sysModules = some o) → FnG l.prog w K mg base 14 fa fd ["_law_script"] (spG K mg 1 f_law) := by
  letI A : ClsN := clsA mg
  have L : ∀ base : Heap, (∃ o, base.get? PySem.sysModules = some o) → LE w K mg base := fun base sb => ⟨⟨by decide +kernel, by decide +kernel, by
    have eL := adr_of (mg := mg) (PySem.W.mg_of X G aC_LetterError)
    intro q hq
    simp only [clsL, List.mem_cons, List.not_mem_nil, or_false] at hq
    rcases hq with rfl | rfl | rfl | rfl | rfl | rfl | rfl | rfl | rfl | rfl | rfl | rfl | rfl | rfl | rfl | rfl | rfl | rfl | rfl | rfl
    · have X0 : PySem.XE.XCls K C_LetterError := ⟨⟨⟨"LetterError", q_LetterError, N_LetterError, bs_LetterError, [.type "ValueError", .type "Exception", .type "BaseException", .type "object"], sn_LetterError, sub_LetterError, ab_LetterError, col_LetterError, dd_LetterError, m0_LetterError, m1_LetterError, m2_LetterError, m3_LetterError, m5_LetterError⟩, xL_LetterError, rfl⟩, sa_LetterError, ga_LetterError, gg_LetterError, kC_LetterError, eC_LetterError, hC_LetterError, ca_LetterError, cg_x, ct_x, cm_LetterError⟩
      exact one_of (mg := mg) (PySem.W.mg_of X G aC_LetterError) ⟨X0, ⟨⟨"LetterError", q_LetterError, N_LetterError, bs_LetterError, [.type "ValueError", .type "Exception", .type "BaseException", .type "object"], sn_LetterError, sub_LetterError, ab_LetterError, col_LetterError, dd_LetterError, m0_LetterError, m1_LetterError, m2_LetterError, m3_LetterError, m5_LetterError⟩, xL_LetterError, rfl, (by rw [if_pos rfl])⟩, (fun z => absurd z (by decide +kernel)), (fun z => absurd z (by decide +kernel)), (fun z => absurd z (by decide +kernel)), (fun _ => ze_LetterError)⟩
    · have X0 : PySem.XE.XCls K C_InvalidFraction := ⟨⟨⟨"InvalidFraction", q_InvalidFraction, N_InvalidFraction, bs_InvalidFraction, [.ref C_LetterError, .type "ValueError", .type "Exception", .type "BaseException", .type "object"], sn_InvalidFraction, sub_InvalidFraction, ab_InvalidFraction, col_InvalidFraction, dd_InvalidFraction, m0_InvalidFraction, m1_InvalidFraction, m2_InvalidFraction, m3_InvalidFraction, m5_InvalidFraction⟩, xL_InvalidFraction, rfl⟩, sa_InvalidFraction, ga_InvalidFraction, gg_InvalidFraction, kC_InvalidFraction, eC_InvalidFraction, hC_InvalidFraction, ca_InvalidFraction, cg_x, ct_x, cm_InvalidFraction⟩
      exact one_of (mg := mg) (PySem.W.mg_of X G aC_InvalidFraction) ⟨X0, ⟨⟨"InvalidFraction", q_InvalidFraction, N_InvalidFraction, bs_InvalidFraction, [.ref C_LetterError, .type "ValueError", .type "Exception", .type "BaseException", .type "object"], sn_InvalidFraction, sub_InvalidFraction, ab_InvalidFraction, col_InvalidFraction, dd_InvalidFraction, m0_InvalidFraction, m1_InvalidFraction, m2_InvalidFraction, m3_InvalidFraction, m5_InvalidFraction⟩, xL_InvalidFraction, rfl, (by rw [if_neg (by decide +kernel), eL])⟩, (fun _ => ⟨_, fI_InvalidFraction, ⟨X0, nb_InvalidFraction, a1_InvalidFraction, t1_InvalidFraction, ⟨_, _, _, _, _, _, _, _, _, _, _, _, _, _, l1_InvalidFraction, c1_InvalidFraction⟩⟩⟩), (fun z => absurd z (by decide +kernel)), (fun z => absurd z (by decide +kernel)), (fun z => absurd z (by decide +kernel))⟩
    · have X0 : PySem.XE.XCls K C_InvalidRow := ⟨⟨⟨"InvalidRow", q_InvalidRow, N_InvalidRow, bs_InvalidRow, [.ref C_LetterError, .type "ValueError", .type "Exception", .type "BaseException", .type "object"], sn_InvalidRow, sub_InvalidRow, ab_InvalidRow, col_InvalidRow, dd_InvalidRow, m0_InvalidRow, m1_InvalidRow, m2_InvalidRow, m3_InvalidRow, m5_InvalidRow⟩, xL_InvalidRow, rfl⟩, sa_InvalidRow, ga_InvalidRow, gg_InvalidRow, kC_InvalidRow, eC_InvalidRow, hC_InvalidRow, ca_InvalidRow, cg_x, ct_x, cm_InvalidRow⟩
      exact one_of (mg := mg) (PySem.W.mg_of X G aC_InvalidRow) ⟨X0, ⟨⟨"InvalidRow", q_InvalidRow, N_InvalidRow, bs_InvalidRow, [.ref C_LetterError, .type "ValueError", .type "Exception", .type "BaseException", .type "object"], sn_InvalidRow, sub_InvalidRow, ab_InvalidRow, col_InvalidRow, dd_InvalidRow, m0_InvalidRow, m1_InvalidRow, m2_InvalidRow, m3_InvalidRow, m5_InvalidRow⟩, xL_InvalidRow, rfl, (by rw [if_neg (by decide +kernel), eL])⟩, (fun _ => ⟨_, fI_InvalidRow, ⟨X0, nb_InvalidRow, a1_InvalidRow, t1_InvalidRow, ⟨_, _, _, _, _, _, _, _, _, _, _, _, _, _, l1_InvalidRow, c1_InvalidRow⟩⟩⟩), (fun z => absurd z (by decide +kernel)), (fun z => absurd z (by decide +kernel)), (fun z => absurd z (by decide +kernel))⟩
    · have X0 : PySem.XE.XCls K C_InvalidNumber := ⟨⟨⟨"InvalidNumber", q_InvalidNumber, N_InvalidNumber, bs_InvalidNumber, [.ref C_LetterError, .type "ValueError", .type "Exception", .type "BaseException", .type "object"], sn_InvalidNumber, sub_InvalidNumber, ab_InvalidNumber, col_InvalidNumber, dd_InvalidNumber, m0_InvalidNumber, m1_InvalidNumber, m2_InvalidNumber, m3_InvalidNumber, m5_InvalidNumber⟩, xL_InvalidNumber, rfl⟩, sa_InvalidNumber, ga_InvalidNumber, gg_InvalidNumber, kC_InvalidNumber, eC_InvalidNumber, hC_InvalidNumber, ca_InvalidNumber, cg_x, ct_x, cm_InvalidNumber⟩
      exact one_of (mg := mg) (PySem.W.mg_of X G aC_InvalidNumber) ⟨X0, ⟨⟨"InvalidNumber", q_InvalidNumber, N_InvalidNumber, bs_InvalidNumber, [.ref C_LetterError, .type "ValueError", .type "Exception", .type "BaseException", .type "object"], sn_InvalidNumber, sub_InvalidNumber, ab_InvalidNumber, col_InvalidNumber, dd_InvalidNumber, m0_InvalidNumber, m1_InvalidNumber, m2_InvalidNumber, m3_InvalidNumber, m5_InvalidNumber⟩, xL_InvalidNumber, rfl, (by rw [if_neg (by decide +kernel), eL])⟩, (fun _ => ⟨_, fI_InvalidNumber, ⟨X0, nb_InvalidNumber, a1_InvalidNumber, t1_InvalidNumber, ⟨_, _, _, _, _, _, _, _, _, _, _, _, _, _, l1_InvalidNumber, c1_InvalidNumber⟩⟩⟩), (fun z => absurd z (by decide +kernel)), (fun z => absurd z (by decide +kernel)), (fun z => absurd z (by decide +kernel))⟩
    · have X0 : PySem.XE.XCls K C_InvalidForm := ⟨⟨⟨"InvalidForm", q_InvalidForm, N_InvalidForm, bs_InvalidForm, [.ref C_LetterError, .type "ValueError", .type "Exception", .type "BaseException", .type "object"], sn_InvalidForm, sub_InvalidForm, ab_InvalidForm, col_InvalidForm, dd_InvalidForm, m0_InvalidForm, m1_InvalidForm, m2_InvalidForm, m3_InvalidForm, m5_InvalidForm⟩, xL_InvalidForm, rfl⟩, sa_InvalidForm, ga_InvalidForm, gg_InvalidForm, kC_InvalidForm, eC_InvalidForm, hC_InvalidForm, ca_InvalidForm, cg_x, ct_x, cm_InvalidForm⟩
      exact one_of (mg := mg) (PySem.W.mg_of X G aC_InvalidForm) ⟨X0, ⟨⟨"InvalidForm", q_InvalidForm, N_InvalidForm, bs_InvalidForm, [.ref C_LetterError, .type "ValueError", .type "Exception", .type "BaseException", .type "object"], sn_InvalidForm, sub_InvalidForm, ab_InvalidForm, col_InvalidForm, dd_InvalidForm, m0_InvalidForm, m1_InvalidForm, m2_InvalidForm, m3_InvalidForm, m5_InvalidForm⟩, xL_InvalidForm, rfl, (by rw [if_neg (by decide +kernel), eL])⟩, (fun _ => ⟨_, fI_InvalidForm, ⟨X0, nb_InvalidForm, a1_InvalidForm, t1_InvalidForm, ⟨_, _, _, _, _, _, _, _, _, _, _, _, _, _, l1_InvalidForm, c1_InvalidForm⟩⟩⟩), (fun z => absurd z (by decide +kernel)), (fun z => absurd z (by decide +kernel)), (fun z => absurd z (by decide +kernel))⟩
    · have X0 : PySem.XE.XCls K C_InvalidIndex := ⟨⟨⟨"InvalidIndex", q_InvalidIndex, N_InvalidIndex, bs_InvalidIndex, [.ref C_LetterError, .type "ValueError", .type "Exception", .type "BaseException", .type "object"], sn_InvalidIndex, sub_InvalidIndex, ab_InvalidIndex, col_InvalidIndex, dd_InvalidIndex, m0_InvalidIndex, m1_InvalidIndex, m2_InvalidIndex, m3_InvalidIndex, m5_InvalidIndex⟩, xL_InvalidIndex, rfl⟩, sa_InvalidIndex, ga_InvalidIndex, gg_InvalidIndex, kC_InvalidIndex, eC_InvalidIndex, hC_InvalidIndex, ca_InvalidIndex, cg_x, ct_x, cm_InvalidIndex⟩
      exact one_of (mg := mg) (PySem.W.mg_of X G aC_InvalidIndex) ⟨X0, ⟨⟨"InvalidIndex", q_InvalidIndex, N_InvalidIndex, bs_InvalidIndex, [.ref C_LetterError, .type "ValueError", .type "Exception", .type "BaseException", .type "object"], sn_InvalidIndex, sub_InvalidIndex, ab_InvalidIndex, col_InvalidIndex, dd_InvalidIndex, m0_InvalidIndex, m1_InvalidIndex, m2_InvalidIndex, m3_InvalidIndex, m5_InvalidIndex⟩, xL_InvalidIndex, rfl, (by rw [if_neg (by decide +kernel), eL])⟩, (fun _ => ⟨_, fI_InvalidIndex, ⟨X0, nb_InvalidIndex, a1_InvalidIndex, t1_InvalidIndex, ⟨_, _, _, _, _, _, _, _, _, _, _, _, _, _, l1_InvalidIndex, c1_InvalidIndex⟩⟩⟩), (fun z => absurd z (by decide +kernel)), (fun z => absurd z (by decide +kernel)), (fun z => absurd z (by decide +kernel))⟩
    · have X0 : PySem.XE.XCls K C_InvalidCount := ⟨⟨⟨"InvalidCount", q_InvalidCount, N_InvalidCount, bs_InvalidCount, [.ref C_LetterError, .type "ValueError", .type "Exception", .type "BaseException", .type "object"], sn_InvalidCount, sub_InvalidCount, ab_InvalidCount, col_InvalidCount, dd_InvalidCount, m0_InvalidCount, m1_InvalidCount, m2_InvalidCount, m3_InvalidCount, m5_InvalidCount⟩, xL_InvalidCount, rfl⟩, sa_InvalidCount, ga_InvalidCount, gg_InvalidCount, kC_InvalidCount, eC_InvalidCount, hC_InvalidCount, ca_InvalidCount, cg_x, ct_x, cm_InvalidCount⟩
      exact one_of (mg := mg) (PySem.W.mg_of X G aC_InvalidCount) ⟨X0, ⟨⟨"InvalidCount", q_InvalidCount, N_InvalidCount, bs_InvalidCount, [.ref C_LetterError, .type "ValueError", .type "Exception", .type "BaseException", .type "object"], sn_InvalidCount, sub_InvalidCount, ab_InvalidCount, col_InvalidCount, dd_InvalidCount, m0_InvalidCount, m1_InvalidCount, m2_InvalidCount, m3_InvalidCount, m5_InvalidCount⟩, xL_InvalidCount, rfl, (by rw [if_neg (by decide +kernel), eL])⟩, (fun _ => ⟨_, fI_InvalidCount, ⟨X0, nb_InvalidCount, a1_InvalidCount, t1_InvalidCount, ⟨_, _, _, _, _, _, _, _, _, _, _, _, _, _, l1_InvalidCount, c1_InvalidCount⟩⟩⟩), (fun z => absurd z (by decide +kernel)), (fun z => absurd z (by decide +kernel)), (fun z => absurd z (by decide +kernel))⟩
    · have X0 : PySem.XE.XCls K C_InvalidRelation := ⟨⟨⟨"InvalidRelation", q_InvalidRelation, N_InvalidRelation, bs_InvalidRelation, [.ref C_LetterError, .type "ValueError", .type "Exception", .type "BaseException", .type "object"], sn_InvalidRelation, sub_InvalidRelation, ab_InvalidRelation, col_InvalidRelation, dd_InvalidRelation, m0_InvalidRelation, m1_InvalidRelation, m2_InvalidRelation, m3_InvalidRelation, m5_InvalidRelation⟩, xL_InvalidRelation, rfl⟩, sa_InvalidRelation, ga_InvalidRelation, gg_InvalidRelation, kC_InvalidRelation, eC_InvalidRelation, hC_InvalidRelation, ca_InvalidRelation, cg_x, ct_x, cm_InvalidRelation⟩
      exact one_of (mg := mg) (PySem.W.mg_of X G aC_InvalidRelation) ⟨X0, ⟨⟨"InvalidRelation", q_InvalidRelation, N_InvalidRelation, bs_InvalidRelation, [.ref C_LetterError, .type "ValueError", .type "Exception", .type "BaseException", .type "object"], sn_InvalidRelation, sub_InvalidRelation, ab_InvalidRelation, col_InvalidRelation, dd_InvalidRelation, m0_InvalidRelation, m1_InvalidRelation, m2_InvalidRelation, m3_InvalidRelation, m5_InvalidRelation⟩, xL_InvalidRelation, rfl, (by rw [if_neg (by decide +kernel), eL])⟩, (fun _ => ⟨_, fI_InvalidRelation, ⟨X0, nb_InvalidRelation, a1_InvalidRelation, t1_InvalidRelation, ⟨_, _, _, _, _, _, _, _, _, _, _, _, _, _, l1_InvalidRelation, c1_InvalidRelation⟩⟩⟩), (fun z => absurd z (by decide +kernel)), (fun z => absurd z (by decide +kernel)), (fun z => absurd z (by decide +kernel))⟩
    · have X0 : PySem.XE.XCls K C_InvalidLetter := ⟨⟨⟨"InvalidLetter", q_InvalidLetter, N_InvalidLetter, bs_InvalidLetter, [.ref C_LetterError, .type "ValueError", .type "Exception", .type "BaseException", .type "object"], sn_InvalidLetter, sub_InvalidLetter, ab_InvalidLetter, col_InvalidLetter, dd_InvalidLetter, m0_InvalidLetter, m1_InvalidLetter, m2_InvalidLetter, m3_InvalidLetter, m5_InvalidLetter⟩, xL_InvalidLetter, rfl⟩, sa_InvalidLetter, ga_InvalidLetter, gg_InvalidLetter, kC_InvalidLetter, eC_InvalidLetter, hC_InvalidLetter, ca_InvalidLetter, cg_x, ct_x, cm_InvalidLetter⟩
      exact one_of (mg := mg) (PySem.W.mg_of X G aC_InvalidLetter) ⟨X0, ⟨⟨"InvalidLetter", q_InvalidLetter, N_InvalidLetter, bs_InvalidLetter, [.ref C_LetterError, .type "ValueError", .type "Exception", .type "BaseException", .type "object"], sn_InvalidLetter, sub_InvalidLetter, ab_InvalidLetter, col_InvalidLetter, dd_InvalidLetter, m0_InvalidLetter, m1_InvalidLetter, m2_InvalidLetter, m3_InvalidLetter, m5_InvalidLetter⟩, xL_InvalidLetter, rfl, (by rw [if_neg (by decide +kernel), eL])⟩, (fun _ => ⟨_, fI_InvalidLetter, ⟨X0, nb_InvalidLetter, a1_InvalidLetter, t1_InvalidLetter, ⟨_, _, _, _, _, _, _, _, _, _, _, _, _, _, l1_InvalidLetter, c1_InvalidLetter⟩⟩⟩), (fun z => absurd z (by decide +kernel)), (fun z => absurd z (by decide +kernel)), (fun z => absurd z (by decide +kernel))⟩
    · have X0 : PySem.XE.XCls K C_InvalidPoly := ⟨⟨⟨"InvalidPoly", q_InvalidPoly, N_InvalidPoly, bs_InvalidPoly, [.ref C_LetterError, .type "ValueError", .type "Exception", .type "BaseException", .type "object"], sn_InvalidPoly, sub_InvalidPoly, ab_InvalidPoly, col_InvalidPoly, dd_InvalidPoly, m0_InvalidPoly, m1_InvalidPoly, m2_InvalidPoly, m3_InvalidPoly, m5_InvalidPoly⟩, xL_InvalidPoly, rfl⟩, sa_InvalidPoly, ga_InvalidPoly, gg_InvalidPoly, kC_InvalidPoly, eC_InvalidPoly, hC_InvalidPoly, ca_InvalidPoly, cg_x, ct_x, cm_InvalidPoly⟩
      exact one_of (mg := mg) (PySem.W.mg_of X G aC_InvalidPoly) ⟨X0, ⟨⟨"InvalidPoly", q_InvalidPoly, N_InvalidPoly, bs_InvalidPoly, [.ref C_LetterError, .type "ValueError", .type "Exception", .type "BaseException", .type "object"], sn_InvalidPoly, sub_InvalidPoly, ab_InvalidPoly, col_InvalidPoly, dd_InvalidPoly, m0_InvalidPoly, m1_InvalidPoly, m2_InvalidPoly, m3_InvalidPoly, m5_InvalidPoly⟩, xL_InvalidPoly, rfl, (by rw [if_neg (by decide +kernel), eL])⟩, (fun _ => ⟨_, fI_InvalidPoly, ⟨X0, nb_InvalidPoly, a1_InvalidPoly, t1_InvalidPoly, ⟨_, _, _, _, _, _, _, _, _, _, _, _, _, _, l1_InvalidPoly, c1_InvalidPoly⟩⟩⟩), (fun z => absurd z (by decide +kernel)), (fun z => absurd z (by decide +kernel)), (fun z => absurd z (by decide +kernel))⟩
    · have X0 : PySem.XE.XCls K C_InvalidPlace := ⟨⟨⟨"InvalidPlace", q_InvalidPlace, N_InvalidPlace, bs_InvalidPlace, [.ref C_LetterError, .type "ValueError", .type "Exception", .type "BaseException", .type "object"], sn_InvalidPlace, sub_InvalidPlace, ab_InvalidPlace, col_InvalidPlace, dd_InvalidPlace, m0_InvalidPlace, m1_InvalidPlace, m2_InvalidPlace, m3_InvalidPlace, m5_InvalidPlace⟩, xL_InvalidPlace, rfl⟩, sa_InvalidPlace, ga_InvalidPlace, gg_InvalidPlace, kC_InvalidPlace, eC_InvalidPlace, hC_InvalidPlace, ca_InvalidPlace, cg_x, ct_x, cm_InvalidPlace⟩
      exact one_of (mg := mg) (PySem.W.mg_of X G aC_InvalidPlace) ⟨X0, ⟨⟨"InvalidPlace", q_InvalidPlace, N_InvalidPlace, bs_InvalidPlace, [.ref C_LetterError, .type "ValueError", .type "Exception", .type "BaseException", .type "object"], sn_InvalidPlace, sub_InvalidPlace, ab_InvalidPlace, col_InvalidPlace, dd_InvalidPlace, m0_InvalidPlace, m1_InvalidPlace, m2_InvalidPlace, m3_InvalidPlace, m5_InvalidPlace⟩, xL_InvalidPlace, rfl, (by rw [if_neg (by decide +kernel), eL])⟩, (fun _ => ⟨_, fI_InvalidPlace, ⟨X0, nb_InvalidPlace, a1_InvalidPlace, t1_InvalidPlace, ⟨_, _, _, _, _, _, _, _, _, _, _, _, _, _, l1_InvalidPlace, c1_InvalidPlace⟩⟩⟩), (fun z => absurd z (by decide +kernel)), (fun z => absurd z (by decide +kernel)), (fun z => absurd z (by decide +kernel))⟩
    · have X0 : PySem.XE.XCls K C_InvalidSaying := ⟨⟨⟨"InvalidSaying", q_InvalidSaying, N_InvalidSaying, bs_InvalidSaying, [.ref C_LetterError, .type "ValueError", .type "Exception", .type "BaseException", .type "object"], sn_InvalidSaying, sub_InvalidSaying, ab_InvalidSaying, col_InvalidSaying, dd_InvalidSaying, m0_InvalidSaying, m1_InvalidSaying, m2_InvalidSaying, m3_InvalidSaying, m5_InvalidSaying⟩, xL_InvalidSaying, rfl⟩, sa_InvalidSaying, ga_InvalidSaying, gg_InvalidSaying, kC_InvalidSaying, eC_InvalidSaying, hC_InvalidSaying, ca_InvalidSaying, cg_x, ct_x, cm_InvalidSaying⟩
      exact one_of (mg := mg) (PySem.W.mg_of X G aC_InvalidSaying) ⟨X0, ⟨⟨"InvalidSaying", q_InvalidSaying, N_InvalidSaying, bs_InvalidSaying, [.ref C_LetterError, .type "ValueError", .type "Exception", .type "BaseException", .type "object"], sn_InvalidSaying, sub_InvalidSaying, ab_InvalidSaying, col_InvalidSaying, dd_InvalidSaying, m0_InvalidSaying, m1_InvalidSaying, m2_InvalidSaying, m3_InvalidSaying, m5_InvalidSaying⟩, xL_InvalidSaying, rfl, (by rw [if_neg (by decide +kernel), eL])⟩, (fun _ => ⟨_, fI_InvalidSaying, ⟨X0, nb_InvalidSaying, a1_InvalidSaying, t1_InvalidSaying, ⟨_, _, _, _, _, _, _, _, _, _, _, _, _, _, l1_InvalidSaying, c1_InvalidSaying⟩⟩⟩), (fun z => absurd z (by decide +kernel)), (fun z => absurd z (by decide +kernel)), (fun z => absurd z (by decide +kernel))⟩
    · have X0 : PySem.XE.XCls K C_InvalidCell := ⟨⟨⟨"InvalidCell", q_InvalidCell, N_InvalidCell, bs_InvalidCell, [.ref C_LetterError, .type "ValueError", .type "Exception", .type "BaseException", .type "object"], sn_InvalidCell, sub_InvalidCell, ab_InvalidCell, col_InvalidCell, dd_InvalidCell, m0_InvalidCell, m1_InvalidCell, m2_InvalidCell, m3_InvalidCell, m5_InvalidCell⟩, xL_InvalidCell, rfl⟩, sa_InvalidCell, ga_InvalidCell, gg_InvalidCell, kC_InvalidCell, eC_InvalidCell, hC_InvalidCell, ca_InvalidCell, cg_x, ct_x, cm_InvalidCell⟩
      exact one_of (mg := mg) (PySem.W.mg_of X G aC_InvalidCell) ⟨X0, ⟨⟨"InvalidCell", q_InvalidCell, N_InvalidCell, bs_InvalidCell, [.ref C_LetterError, .type "ValueError", .type "Exception", .type "BaseException", .type "object"], sn_InvalidCell, sub_InvalidCell, ab_InvalidCell, col_InvalidCell, dd_InvalidCell, m0_InvalidCell, m1_InvalidCell, m2_InvalidCell, m3_InvalidCell, m5_InvalidCell⟩, xL_InvalidCell, rfl, (by rw [if_neg (by decide +kernel), eL])⟩, (fun _ => ⟨_, fI_InvalidCell, ⟨X0, nb_InvalidCell, a1_InvalidCell, t1_InvalidCell, ⟨_, _, _, _, _, _, _, _, _, _, _, _, _, _, l1_InvalidCell, c1_InvalidCell⟩⟩⟩), (fun z => absurd z (by decide +kernel)), (fun z => absurd z (by decide +kernel)), (fun z => absurd z (by decide +kernel))⟩
    · have X0 : PySem.XE.XCls K C_InvalidPoint := ⟨⟨⟨"InvalidPoint", q_InvalidPoint, N_InvalidPoint, bs_InvalidPoint, [.ref C_LetterError, .type "ValueError", .type "Exception", .type "BaseException", .type "object"], sn_InvalidPoint, sub_InvalidPoint, ab_InvalidPoint, col_InvalidPoint, dd_InvalidPoint, m0_InvalidPoint, m1_InvalidPoint, m2_InvalidPoint, m3_InvalidPoint, m5_InvalidPoint⟩, xL_InvalidPoint, rfl⟩, sa_InvalidPoint, ga_InvalidPoint, gg_InvalidPoint, kC_InvalidPoint, eC_InvalidPoint, hC_InvalidPoint, ca_InvalidPoint, cg_x, ct_x, cm_InvalidPoint⟩
      exact one_of (mg := mg) (PySem.W.mg_of X G aC_InvalidPoint) ⟨X0, ⟨⟨"InvalidPoint", q_InvalidPoint, N_InvalidPoint, bs_InvalidPoint, [.ref C_LetterError, .type "ValueError", .type "Exception", .type "BaseException", .type "object"], sn_InvalidPoint, sub_InvalidPoint, ab_InvalidPoint, col_InvalidPoint, dd_InvalidPoint, m0_InvalidPoint, m1_InvalidPoint, m2_InvalidPoint, m3_InvalidPoint, m5_InvalidPoint⟩, xL_InvalidPoint, rfl, (by rw [if_neg (by decide +kernel), eL])⟩, (fun _ => ⟨_, fI_InvalidPoint, ⟨X0, nb_InvalidPoint, a1_InvalidPoint, t1_InvalidPoint, ⟨_, _, _, _, _, _, _, _, _, _, _, _, _, _, l1_InvalidPoint, c1_InvalidPoint⟩⟩⟩), (fun z => absurd z (by decide +kernel)), (fun z => absurd z (by decide +kernel)), (fun z => absurd z (by decide +kernel))⟩
    · have X0 : PySem.XE.XCls K C_TooMany := ⟨⟨⟨"TooMany", q_TooMany, N_TooMany, bs_TooMany, [.ref C_LetterError, .type "ValueError", .type "Exception", .type "BaseException", .type "object"], sn_TooMany, sub_TooMany, ab_TooMany, col_TooMany, dd_TooMany, m0_TooMany, m1_TooMany, m2_TooMany, m3_TooMany, m5_TooMany⟩, xL_TooMany, rfl⟩, sa_TooMany, ga_TooMany, gg_TooMany, kC_TooMany, eC_TooMany, hC_TooMany, ca_TooMany, cg_x, ct_x, cm_TooMany⟩
      exact one_of (mg := mg) (PySem.W.mg_of X G aC_TooMany) ⟨X0, ⟨⟨"TooMany", q_TooMany, N_TooMany, bs_TooMany, [.ref C_LetterError, .type "ValueError", .type "Exception", .type "BaseException", .type "object"], sn_TooMany, sub_TooMany, ab_TooMany, col_TooMany, dd_TooMany, m0_TooMany, m1_TooMany, m2_TooMany, m3_TooMany, m5_TooMany⟩, xL_TooMany, rfl, (by rw [if_neg (by decide +kernel), eL])⟩, (fun _ => ⟨_, fI_TooMany, ⟨X0, nb_TooMany, a1_TooMany, t1_TooMany, ⟨_, _, _, _, _, _, _, _, _, _, _, _, _, _, l1_TooMany, c1_TooMany⟩⟩⟩), (fun z => absurd z (by decide +kernel)), (fun z => absurd z (by decide +kernel)), (fun z => absurd z (by decide +kernel))⟩
    · have X0 : PySem.XE.XCls K C_InvalidRows := ⟨⟨⟨"InvalidRows", q_InvalidRows, N_InvalidRows, bs_InvalidRows, [.ref C_LetterError, .type "ValueError", .type "Exception", .type "BaseException", .type "object"], sn_InvalidRows, sub_InvalidRows, ab_InvalidRows, col_InvalidRows, dd_InvalidRows, m0_InvalidRows, m1_InvalidRows, m2_InvalidRows, m3_InvalidRows, m5_InvalidRows⟩, xL_InvalidRows, rfl⟩, sa_InvalidRows, ga_InvalidRows, gg_InvalidRows, kC_InvalidRows, eC_InvalidRows, hC_InvalidRows, ca_InvalidRows, cg_x, ct_x, cm_InvalidRows⟩
      exact one_of (mg := mg) (PySem.W.mg_of X G aC_InvalidRows) ⟨X0, ⟨⟨"InvalidRows", q_InvalidRows, N_InvalidRows, bs_InvalidRows, [.ref C_LetterError, .type "ValueError", .type "Exception", .type "BaseException", .type "object"], sn_InvalidRows, sub_InvalidRows, ab_InvalidRows, col_InvalidRows, dd_InvalidRows, m0_InvalidRows, m1_InvalidRows, m2_InvalidRows, m3_InvalidRows, m5_InvalidRows⟩, xL_InvalidRows, rfl, (by rw [if_neg (by decide +kernel), eL])⟩, (fun z => absurd z (by decide +kernel)), (fun _ => ⟨_, fI_InvalidRows, ⟨X0, nb_InvalidRows, a1_InvalidRows, t1_InvalidRows, ⟨_, _, _, _, _, _, _, _, _, _, _, _, _, _, l1_InvalidRows, c1_InvalidRows⟩⟩⟩), (fun z => absurd z (by decide +kernel)), (fun z => absurd z (by decide +kernel))⟩
    · have X0 : PySem.XE.XCls K C_InvalidPolys := ⟨⟨⟨"InvalidPolys", q_InvalidPolys, N_InvalidPolys, bs_InvalidPolys, [.ref C_LetterError, .type "ValueError", .type "Exception", .type "BaseException", .type "object"], sn_InvalidPolys, sub_InvalidPolys, ab_InvalidPolys, col_InvalidPolys, dd_InvalidPolys, m0_InvalidPolys, m1_InvalidPolys, m2_InvalidPolys, m3_InvalidPolys, m5_InvalidPolys⟩, xL_InvalidPolys, rfl⟩, sa_InvalidPolys, ga_InvalidPolys, gg_InvalidPolys, kC_InvalidPolys, eC_InvalidPolys, hC_InvalidPolys, ca_InvalidPolys, cg_x, ct_x, cm_InvalidPolys⟩
      exact one_of (mg := mg) (PySem.W.mg_of X G aC_InvalidPolys) ⟨X0, ⟨⟨"InvalidPolys", q_InvalidPolys, N_InvalidPolys, bs_InvalidPolys, [.ref C_LetterError, .type "ValueError", .type "Exception", .type "BaseException", .type "object"], sn_InvalidPolys, sub_InvalidPolys, ab_InvalidPolys, col_InvalidPolys, dd_InvalidPolys, m0_InvalidPolys, m1_InvalidPolys, m2_InvalidPolys, m3_InvalidPolys, m5_InvalidPolys⟩, xL_InvalidPolys, rfl, (by rw [if_neg (by decide +kernel), eL])⟩, (fun z => absurd z (by decide +kernel)), (fun _ => ⟨_, fI_InvalidPolys, ⟨X0, nb_InvalidPolys, a1_InvalidPolys, t1_InvalidPolys, ⟨_, _, _, _, _, _, _, _, _, _, _, _, _, _, l1_InvalidPolys, c1_InvalidPolys⟩⟩⟩), (fun z => absurd z (by decide +kernel)), (fun z => absurd z (by decide +kernel))⟩
    · have X0 : PySem.XE.XCls K C_InvalidLines := ⟨⟨⟨"InvalidLines", q_InvalidLines, N_InvalidLines, bs_InvalidLines, [.ref C_LetterError, .type "ValueError", .type "Exception", .type "BaseException", .type "object"], sn_InvalidLines, sub_InvalidLines, ab_InvalidLines, col_InvalidLines, dd_InvalidLines, m0_InvalidLines, m1_InvalidLines, m2_InvalidLines, m3_InvalidLines, m5_InvalidLines⟩, xL_InvalidLines, rfl⟩, sa_InvalidLines, ga_InvalidLines, gg_InvalidLines, kC_InvalidLines, eC_InvalidLines, hC_InvalidLines, ca_InvalidLines, cg_x, ct_x, cm_InvalidLines⟩
      exact one_of (mg := mg) (PySem.W.mg_of X G aC_InvalidLines) ⟨X0, ⟨⟨"InvalidLines", q_InvalidLines, N_InvalidLines, bs_InvalidLines, [.ref C_LetterError, .type "ValueError", .type "Exception", .type "BaseException", .type "object"], sn_InvalidLines, sub_InvalidLines, ab_InvalidLines, col_InvalidLines, dd_InvalidLines, m0_InvalidLines, m1_InvalidLines, m2_InvalidLines, m3_InvalidLines, m5_InvalidLines⟩, xL_InvalidLines, rfl, (by rw [if_neg (by decide +kernel), eL])⟩, (fun z => absurd z (by decide +kernel)), (fun _ => ⟨_, fI_InvalidLines, ⟨X0, nb_InvalidLines, a1_InvalidLines, t1_InvalidLines, ⟨_, _, _, _, _, _, _, _, _, _, _, _, _, _, l1_InvalidLines, c1_InvalidLines⟩⟩⟩), (fun z => absurd z (by decide +kernel)), (fun z => absurd z (by decide +kernel))⟩
    · have X0 : PySem.XE.XCls K C_BadText := ⟨⟨⟨"BadText", q_BadText, N_BadText, bs_BadText, [.ref C_LetterError, .type "ValueError", .type "Exception", .type "BaseException", .type "object"], sn_BadText, sub_BadText, ab_BadText, col_BadText, dd_BadText, m0_BadText, m1_BadText, m2_BadText, m3_BadText, m5_BadText⟩, xL_BadText, rfl⟩, sa_BadText, ga_BadText, gg_BadText, kC_BadText, eC_BadText, hC_BadText, ca_BadText, cg_x, ct_x, cm_BadText⟩
      exact one_of (mg := mg) (PySem.W.mg_of X G aC_BadText) ⟨X0, ⟨⟨"BadText", q_BadText, N_BadText, bs_BadText, [.ref C_LetterError, .type "ValueError", .type "Exception", .type "BaseException", .type "object"], sn_BadText, sub_BadText, ab_BadText, col_BadText, dd_BadText, m0_BadText, m1_BadText, m2_BadText, m3_BadText, m5_BadText⟩, xL_BadText, rfl, (by rw [if_neg (by decide +kernel), eL])⟩, (fun z => absurd z (by decide +kernel)), (fun z => absurd z (by decide +kernel)), (fun _ => ⟨_, fI_BadText, ⟨X0, nb_BadText, a1_BadText, t1_BadText, ⟨_, _, _, _, _, _, _, _, _, _, _, _, _, _, l1_BadText, c1_BadText⟩⟩⟩), (fun z => absurd z (by decide +kernel))⟩
    · have X0 : PySem.XE.XCls K C_UnlikePlaces := ⟨⟨⟨"UnlikePlaces", q_UnlikePlaces, N_UnlikePlaces, bs_UnlikePlaces, [.ref C_LetterError, .type "ValueError", .type "Exception", .type "BaseException", .type "object"], sn_UnlikePlaces, sub_UnlikePlaces, ab_UnlikePlaces, col_UnlikePlaces, dd_UnlikePlaces, m0_UnlikePlaces, m1_UnlikePlaces, m2_UnlikePlaces, m3_UnlikePlaces, m5_UnlikePlaces⟩, xL_UnlikePlaces, rfl⟩, sa_UnlikePlaces, ga_UnlikePlaces, gg_UnlikePlaces, kC_UnlikePlaces, eC_UnlikePlaces, hC_UnlikePlaces, ca_UnlikePlaces, cg_x, ct_x, cm_UnlikePlaces⟩
      exact one_of (mg := mg) (PySem.W.mg_of X G aC_UnlikePlaces) ⟨X0, ⟨⟨"UnlikePlaces", q_UnlikePlaces, N_UnlikePlaces, bs_UnlikePlaces, [.ref C_LetterError, .type "ValueError", .type "Exception", .type "BaseException", .type "object"], sn_UnlikePlaces, sub_UnlikePlaces, ab_UnlikePlaces, col_UnlikePlaces, dd_UnlikePlaces, m0_UnlikePlaces, m1_UnlikePlaces, m2_UnlikePlaces, m3_UnlikePlaces, m5_UnlikePlaces⟩, xL_UnlikePlaces, rfl, (by rw [if_neg (by decide +kernel), eL])⟩, (fun z => absurd z (by decide +kernel)), (fun z => absurd z (by decide +kernel)), (fun z => absurd z (by decide +kernel)), (fun _ => ze_UnlikePlaces)⟩⟩, sb, sysK, ⟨_, _, PySem.W.mg_of X G a0, fun_mk (st := st_law_well) l0 c0 k0⟩, ⟨_, _, PySem.W.mg_of X G a1, fun_mk (st := st_law_draw) l1 c1 k1⟩, ⟨_, _, PySem.W.mg_of X G a2, fun_mk (st := st_law_pick) l2 c2 k2⟩, ⟨_, _, PySem.W.mg_of X G a3, fun_mk (st := st_law_common) l3 c3 k3⟩, ⟨_, _, PySem.W.mg_of X G a4, fun_mk (st := st_law_lean) l4 c4 k4⟩, ⟨_, _, PySem.W.mg_of X G a5, fun_mk (st := st_law_small) l5 c5 k5⟩, ⟨_, _, PySem.W.mg_of X G a6, fun_mk (st := st_law_part) l6 c6 k6⟩, ⟨_, _, PySem.W.mg_of X G a7, fun_mk (st := st_law_odd) l7 c7 k7⟩, ⟨_, _, PySem.W.mg_of X G a8, fun_mk (st := st_law_bent) l8 c8 k8⟩, ⟨_, _, PySem.W.mg_of X G a9, fun_mk (st := st_law_spoilt) l9 c9 k9⟩, ⟨_, _, PySem.W.mg_of X G a10, fun_mk (st := st_law_low) l10 c10 k10⟩, ⟨_, _, PySem.W.mg_of X G a11, fun_mk (st := st_law_by_place) l11 c11 k11⟩, ⟨_, _, PySem.W.mg_of X G a12, fun_mk (st := st_law_low_name) l12 c12 k12⟩, ⟨_, _, PySem.W.mg_of X G a13, fun_mk (st := st_law_by_name) l13 c13 k13⟩, ⟨_, _, PySem.W.mg_of X G a14, fun_mk (st := st_law_truths) l14 c14 k14⟩, ⟨_, _, PySem.W.mg_of X G a15, fun_mk (st := st_law_is_made) l15 c15 k15⟩, ⟨_, _, PySem.W.mg_of X G a16, fun_mk (st := st_law_right) l16 c16 k16⟩, ⟨_, _, PySem.W.mg_of X G a17, fun_mk (st := st_law) l17 c17 k17⟩, PySem.W.mg_none_of X G z_ArithmeticError, PySem.W.mg_none_of X G z_AttributeError, PySem.W.mg_none_of X G z_Exception, PySem.W.mg_none_of X G z_LookupError, PySem.W.mg_none_of X G z_RuntimeError, PySem.W.mg_none_of X G z_TypeError, PySem.W.mg_none_of X G z_ValueError, PySem.W.mg_none_of X G z_abs, PySem.W.mg_none_of X G z_all, PySem.W.mg_none_of X G z_divmod, PySem.W.mg_none_of X G z_int, PySem.W.mg_none_of X G z_isinstance, PySem.W.mg_none_of X G z_len, PySem.W.mg_none_of X G z_list, PySem.W.mg_none_of X G z_max, PySem.W.mg_none_of X G z_min, PySem.W.mg_none_of X G z_range, PySem.W.mg_none_of X G z_repr, PySem.W.mg_none_of X G z_tuple⟩
  have e := hfa.symm.trans (PySem.W.mg_of X G a17)
  cases e
  refine ⟨A, PySem.W.fnOf "law" "law" (defArgs st_law) (defBody st_law) (defScope st_law) .none kV17 dc17 pm17 an17 cd17 ct17, fun s v => .of_eq rfl, fun base _ _ sb => ?_⟩
  obtain ⟨f, fd, h⟩ := ok_law (P := l.prog) (w := w) (base := base) (L base sb)
  have e1 := h.m.symm.trans hfa
  cases e1
  obtain ⟨_, _, _, _, _, _, _, _, _, e2, lk, _⟩ := h.F.ex
  rw [l17] at lk
  have e3 := Option.some.inj lk
  have e4 : PySem.Data.func _ = PySem.Data.func _ := congrArg PySem.Obj.data e3
  have e5 := PySem.Data.func.inj e4
  rw [e5]
  first | exact h.G | (rw [← e2]; exact h.G)
end LW
namespace LW
end LW
open PySem PySem.W PyProof.Rows
set_option maxHeartbeats 0 in
theorem PySem.Challenge.cw_twoletters_k01_errors_each_of_its_own_holds : PySem.Challenge.rw_twoletters_k01_errors_each_of_its_own.Holds := by
  letI : TL.TabN := TL.noTab
  w_on; o_law; k_head; (case hw => w_witness2)
  k_fill
  refine TL.walk_GX (l := PySem.Challenge.rw_twoletters_k01_errors_each_of_its_own) (n := 63) (k := 14) (x := "_law_script") (g := fun (A : TL.ClsN) => @LW.f_law A) (by first | decide +kernel | rfl) rfl (by decide) rfl ⟨rfl, by decide, by decide⟩ (fun w h Y => PySem.W.kIn_of Y) ?F (fun A => @LW.law_told TL.noTab A)
  case F =>
    letI : TL.TabN := TL.noTab
    intro w mg fa h KX G hmg
    refine' LW.all_mk KX G hmg ?a0 ?l0 ?c0 ?k0 ?a1 ?l1 ?c1 ?k1 ?a2 ?l2 ?c2 ?k2 ?a3 ?l3 ?c3 ?k3 ?a4 ?l4 ?c4 ?k4 ?a5 ?l5 ?c5 ?k5 ?a6 ?l6 ?c6 ?k6 ?a7 ?l7 ?c7 ?k7 ?a8 ?l8 ?c8 ?k8 ?a9 ?l9 ?c9 ?k9 ?a10 ?l10 ?c10 ?k10 ?a11 ?l11 ?c11 ?k11 ?a12 ?l12 ?c12 ?k12 ?a13 ?l13 ?c13 ?k13 ?a14 ?l14 ?c14 ?k14 ?a15 ?l15 ?c15 ?k15 ?a16 ?l16 ?c16 ?k16 ?a17 ?l17 ?c17 ?k17 ?z_ArithmeticError ?z_AttributeError ?z_Exception ?z_LookupError ?z_RuntimeError ?z_TypeError ?z_ValueError ?z_abs ?z_all ?z_divmod ?z_int ?z_isinstance ?z_len ?z_list ?z_max ?z_min ?z_range ?z_repr ?z_tuple ?cg_x ?ct_x ?sysK ?aC_LetterError ?xL_LetterError ?sa_LetterError ?ga_LetterError ?gg_LetterError ?kC_LetterError ?eC_LetterError ?hC_LetterError ?ca_LetterError ?cm_LetterError ?ze_LetterError ?aC_InvalidFraction ?xL_InvalidFraction ?sa_InvalidFraction ?ga_InvalidFraction ?gg_InvalidFraction ?kC_InvalidFraction ?eC_InvalidFraction ?hC_InvalidFraction ?ca_InvalidFraction ?cm_InvalidFraction ?nb_InvalidFraction ?a1_InvalidFraction ?t1_InvalidFraction ?l1_InvalidFraction ?c1_InvalidFraction ?aC_InvalidRow ?xL_InvalidRow ?sa_InvalidRow ?ga_InvalidRow ?gg_InvalidRow ?kC_InvalidRow ?eC_InvalidRow ?hC_InvalidRow ?ca_InvalidRow ?cm_InvalidRow ?nb_InvalidRow ?a1_InvalidRow ?t1_InvalidRow ?l1_InvalidRow ?c1_InvalidRow ?aC_InvalidNumber ?xL_InvalidNumber ?sa_InvalidNumber ?ga_InvalidNumber ?gg_InvalidNumber ?kC_InvalidNumber ?eC_InvalidNumber ?hC_InvalidNumber ?ca_InvalidNumber ?cm_InvalidNumber ?nb_InvalidNumber ?a1_InvalidNumber ?t1_InvalidNumber ?l1_InvalidNumber ?c1_InvalidNumber ?aC_InvalidForm ?xL_InvalidForm ?sa_InvalidForm ?ga_InvalidForm ?gg_InvalidForm ?kC_InvalidForm ?eC_InvalidForm ?hC_InvalidForm ?ca_InvalidForm ?cm_InvalidForm ?nb_InvalidForm ?a1_InvalidForm ?t1_InvalidForm ?l1_InvalidForm ?c1_InvalidForm ?aC_InvalidIndex ?xL_InvalidIndex ?sa_InvalidIndex ?ga_InvalidIndex ?gg_InvalidIndex ?kC_InvalidIndex ?eC_InvalidIndex ?hC_InvalidIndex ?ca_InvalidIndex ?cm_InvalidIndex ?nb_InvalidIndex ?a1_InvalidIndex ?t1_InvalidIndex ?l1_InvalidIndex ?c1_InvalidIndex ?aC_InvalidCount ?xL_InvalidCount ?sa_InvalidCount ?ga_InvalidCount ?gg_InvalidCount ?kC_InvalidCount ?eC_InvalidCount ?hC_InvalidCount ?ca_InvalidCount ?cm_InvalidCount ?nb_InvalidCount ?a1_InvalidCount ?t1_InvalidCount ?l1_InvalidCount ?c1_InvalidCount ?aC_InvalidRelation ?xL_InvalidRelation ?sa_InvalidRelation ?ga_InvalidRelation ?gg_InvalidRelation ?kC_InvalidRelation ?eC_InvalidRelation ?hC_InvalidRelation ?ca_InvalidRelation ?cm_InvalidRelation ?nb_InvalidRelation ?a1_InvalidRelation ?t1_InvalidRelation ?l1_InvalidRelation ?c1_InvalidRelation ?aC_InvalidLetter ?xL_InvalidLetter ?sa_InvalidLetter ?ga_InvalidLetter ?gg_InvalidLetter ?kC_InvalidLetter ?eC_InvalidLetter ?hC_InvalidLetter ?ca_InvalidLetter ?cm_InvalidLetter ?nb_InvalidLetter ?a1_InvalidLetter ?t1_InvalidLetter ?l1_InvalidLetter ?c1_InvalidLetter ?aC_InvalidPoly ?xL_InvalidPoly ?sa_InvalidPoly ?ga_InvalidPoly ?gg_InvalidPoly ?kC_InvalidPoly ?eC_InvalidPoly ?hC_InvalidPoly ?ca_InvalidPoly ?cm_InvalidPoly ?nb_InvalidPoly ?a1_InvalidPoly ?t1_InvalidPoly ?l1_InvalidPoly ?c1_InvalidPoly ?aC_InvalidPlace ?xL_InvalidPlace ?sa_InvalidPlace ?ga_InvalidPlace ?gg_InvalidPlace ?kC_InvalidPlace ?eC_InvalidPlace ?hC_InvalidPlace ?ca_InvalidPlace ?cm_InvalidPlace ?nb_InvalidPlace ?a1_InvalidPlace ?t1_InvalidPlace ?l1_InvalidPlace ?c1_InvalidPlace ?aC_InvalidSaying ?xL_InvalidSaying ?sa_InvalidSaying ?ga_InvalidSaying ?gg_InvalidSaying ?kC_InvalidSaying ?eC_InvalidSaying ?hC_InvalidSaying ?ca_InvalidSaying ?cm_InvalidSaying ?nb_InvalidSaying ?a1_InvalidSaying ?t1_InvalidSaying ?l1_InvalidSaying ?c1_InvalidSaying ?aC_InvalidCell ?xL_InvalidCell ?sa_InvalidCell ?ga_InvalidCell ?gg_InvalidCell ?kC_InvalidCell ?eC_InvalidCell ?hC_InvalidCell ?ca_InvalidCell ?cm_InvalidCell ?nb_InvalidCell ?a1_InvalidCell ?t1_InvalidCell ?l1_InvalidCell ?c1_InvalidCell ?aC_InvalidPoint ?xL_InvalidPoint ?sa_InvalidPoint ?ga_InvalidPoint ?gg_InvalidPoint ?kC_InvalidPoint ?eC_InvalidPoint ?hC_InvalidPoint ?ca_InvalidPoint ?cm_InvalidPoint ?nb_InvalidPoint ?a1_InvalidPoint ?t1_InvalidPoint ?l1_InvalidPoint ?c1_InvalidPoint ?aC_TooMany ?xL_TooMany ?sa_TooMany ?ga_TooMany ?gg_TooMany ?kC_TooMany ?eC_TooMany ?hC_TooMany ?ca_TooMany ?cm_TooMany ?nb_TooMany ?a1_TooMany ?t1_TooMany ?l1_TooMany ?c1_TooMany ?aC_InvalidRows ?xL_InvalidRows ?sa_InvalidRows ?ga_InvalidRows ?gg_InvalidRows ?kC_InvalidRows ?eC_InvalidRows ?hC_InvalidRows ?ca_InvalidRows ?cm_InvalidRows ?nb_InvalidRows ?a1_InvalidRows ?t1_InvalidRows ?l1_InvalidRows ?c1_InvalidRows ?aC_InvalidPolys ?xL_InvalidPolys ?sa_InvalidPolys ?ga_InvalidPolys ?gg_InvalidPolys ?kC_InvalidPolys ?eC_InvalidPolys ?hC_InvalidPolys ?ca_InvalidPolys ?cm_InvalidPolys ?nb_InvalidPolys ?a1_InvalidPolys ?t1_InvalidPolys ?l1_InvalidPolys ?c1_InvalidPolys ?aC_InvalidLines ?xL_InvalidLines ?sa_InvalidLines ?ga_InvalidLines ?gg_InvalidLines ?kC_InvalidLines ?eC_InvalidLines ?hC_InvalidLines ?ca_InvalidLines ?cm_InvalidLines ?nb_InvalidLines ?a1_InvalidLines ?t1_InvalidLines ?l1_InvalidLines ?c1_InvalidLines ?aC_BadText ?xL_BadText ?sa_BadText ?ga_BadText ?gg_BadText ?kC_BadText ?eC_BadText ?hC_BadText ?ca_BadText ?cm_BadText ?nb_BadText ?a1_BadText ?t1_BadText ?l1_BadText ?c1_BadText ?aC_UnlikePlaces ?xL_UnlikePlaces ?sa_UnlikePlaces ?ga_UnlikePlaces ?gg_UnlikePlaces ?kC_UnlikePlaces ?eC_UnlikePlaces ?hC_UnlikePlaces ?ca_UnlikePlaces ?cm_UnlikePlaces ?ze_UnlikePlaces
    (case a0 => k_is); (case l0 => k_is); (case c0 => k_is); (case k0 => k_is); (case a1 => k_is); (case l1 => k_is); (case c1 => k_is); (case k1 => k_is); (case a2 => k_is); (case l2 => k_is); (case c2 => k_is); (case k2 => k_is); (case a3 => k_is); (case l3 => k_is); (case c3 => k_is); (case k3 => k_is); (case a4 => k_is); (case l4 => k_is); (case c4 => k_is); (case k4 => k_is); (case a5 => k_is); (case l5 => k_is); (case c5 => k_is); (case k5 => k_is); (case a6 => k_is); (case l6 => k_is); (case c6 => k_is); (case k6 => k_is); (case a7 => k_is); (case l7 => k_is); (case c7 => k_is); (case k7 => k_is); (case a8 => k_is); (case l8 => k_is); (case c8 => k_is); (case k8 => k_is); (case a9 => k_is); (case l9 => k_is); (case c9 => k_is); (case k9 => k_is); (case a10 => k_is); (case l10 => k_is); (case c10 => k_is); (case k10 => k_is); (case a11 => k_is); (case l11 => k_is); (case c11 => k_is); (case k11 => k_is); (case a12 => k_is); (case l12 => k_is); (case c12 => k_is); (case k12 => k_is); (case a13 => k_is); (case l13 => k_is); (case c13 => k_is); (case k13 => k_is); (case a14 => k_is); (case l14 => k_is); (case c14 => k_is); (case k14 => k_is); (case a15 => k_is); (case l15 => k_is); (case c15 => k_is); (case k15 => k_is); (case a16 => k_is); (case l16 => k_is); (case c16 => k_is); (case k16 => k_is); (case a17 => k_is); (case l17 => k_is); (case c17 => k_is); (case k17 => k_is); (case z_ArithmeticError => k_is); (case z_AttributeError => k_is); (case z_Exception => k_is); (case z_LookupError => k_is); (case z_RuntimeError => k_is); (case z_TypeError => k_is); (case z_ValueError => k_is); (case z_abs => k_is); (case z_all => k_is); (case z_divmod => k_is); (case z_int => k_is); (case z_isinstance => k_is); (case z_len => k_is); (case z_list => k_is); (case z_max => k_is); (case z_min => k_is); (case z_range => k_is); (case z_repr => k_is); (case z_tuple => k_is); (case cg_x => k_is); (case ct_x => k_is); (case sysK => (first | kernel_rfl | decide +kernel)); (case aC_LetterError => k_is); (case xL_LetterError => k_is); (case sa_LetterError => k_is); (case ga_LetterError => k_is); (case gg_LetterError => k_is); (case kC_LetterError => k_is); (case eC_LetterError => k_is); (case hC_LetterError => k_is); (case ca_LetterError => k_is); (case cm_LetterError => k_is); (case ze_LetterError => (first | kernel_rfl | decide +kernel)); (case aC_InvalidFraction => k_is); (case xL_InvalidFraction => k_is); (case sa_InvalidFraction => k_is); (case ga_InvalidFraction => k_is); (case gg_InvalidFraction => k_is); (case kC_InvalidFraction => k_is); (case eC_InvalidFraction => k_is); (case hC_InvalidFraction => k_is); (case ca_InvalidFraction => k_is); (case cm_InvalidFraction => k_is); (case nb_InvalidFraction => k_is); (case a1_InvalidFraction => k_is); (case t1_InvalidFraction => k_is); (case l1_InvalidFraction => k_is); (case c1_InvalidFraction => k_is); (case aC_InvalidRow => k_is); (case xL_InvalidRow => k_is); (case sa_InvalidRow => k_is); (case ga_InvalidRow => k_is); (case gg_InvalidRow => k_is); (case kC_InvalidRow => k_is); (case eC_InvalidRow => k_is); (case hC_InvalidRow => k_is); (case ca_InvalidRow => k_is); (case cm_InvalidRow => k_is); (case nb_InvalidRow => k_is); (case a1_InvalidRow => k_is); (case t1_InvalidRow => k_is); (case l1_InvalidRow => k_is); (case c1_InvalidRow => k_is); (case aC_InvalidNumber => k_is); (case xL_InvalidNumber => k_is); (case sa_InvalidNumber => k_is); (case ga_InvalidNumber => k_is); (case gg_InvalidNumber => k_is); (case kC_InvalidNumber => k_is); (case eC_InvalidNumber => k_is); (case hC_InvalidNumber => k_is); (case ca_InvalidNumber => k_is); (case cm_InvalidNumber => k_is); (case nb_InvalidNumber => k_is); (case a1_InvalidNumber => k_is); (case t1_InvalidNumber => k_is); (case l1_InvalidNumber => k_is); (case c1_InvalidNumber => k_is); (case aC_InvalidForm => k_is); (case xL_InvalidForm => k_is); (case sa_InvalidForm => k_is); (case ga_InvalidForm => k_is); (case gg_InvalidForm => k_is); (case kC_InvalidForm => k_is); (case eC_InvalidForm => k_is); (case hC_InvalidForm => k_is); (case ca_InvalidForm => k_is); (case cm_InvalidForm => k_is); (case nb_InvalidForm => k_is); (case a1_InvalidForm => k_is); (case t1_InvalidForm => k_is); (case l1_InvalidForm => k_is); (case c1_InvalidForm => k_is); (case aC_InvalidIndex => k_is); (case xL_InvalidIndex => k_is); (case sa_InvalidIndex => k_is); (case ga_InvalidIndex => k_is); (case gg_InvalidIndex => k_is); (case kC_InvalidIndex => k_is); (case eC_InvalidIndex => k_is); (case hC_InvalidIndex => k_is); (case ca_InvalidIndex => k_is); (case cm_InvalidIndex => k_is); (case nb_InvalidIndex => k_is); (case a1_InvalidIndex => k_is); (case t1_InvalidIndex => k_is); (case l1_InvalidIndex => k_is); (case c1_InvalidIndex => k_is); (case aC_InvalidCount => k_is); (case xL_InvalidCount => k_is); (case sa_InvalidCount => k_is); (case ga_InvalidCount => k_is); (case gg_InvalidCount => k_is); (case kC_InvalidCount => k_is); (case eC_InvalidCount => k_is); (case hC_InvalidCount => k_is); (case ca_InvalidCount => k_is); (case cm_InvalidCount => k_is); (case nb_InvalidCount => k_is); (case a1_InvalidCount => k_is); (case t1_InvalidCount => k_is); (case l1_InvalidCount => k_is); (case c1_InvalidCount => k_is); (case aC_InvalidRelation => k_is); (case xL_InvalidRelation => k_is); (case sa_InvalidRelation => k_is); (case ga_InvalidRelation => k_is); (case gg_InvalidRelation => k_is); (case kC_InvalidRelation => k_is); (case eC_InvalidRelation => k_is); (case hC_InvalidRelation => k_is); (case ca_InvalidRelation => k_is); (case cm_InvalidRelation => k_is); (case nb_InvalidRelation => k_is); (case a1_InvalidRelation => k_is); (case t1_InvalidRelation => k_is); (case l1_InvalidRelation => k_is); (case c1_InvalidRelation => k_is); (case aC_InvalidLetter => k_is); (case xL_InvalidLetter => k_is); (case sa_InvalidLetter => k_is); (case ga_InvalidLetter => k_is); (case gg_InvalidLetter => k_is); (case kC_InvalidLetter => k_is); (case eC_InvalidLetter => k_is); (case hC_InvalidLetter => k_is); (case ca_InvalidLetter => k_is); (case cm_InvalidLetter => k_is); (case nb_InvalidLetter => k_is); (case a1_InvalidLetter => k_is); (case t1_InvalidLetter => k_is); (case l1_InvalidLetter => k_is); (case c1_InvalidLetter => k_is); (case aC_InvalidPoly => k_is); (case xL_InvalidPoly => k_is); (case sa_InvalidPoly => k_is); (case ga_InvalidPoly => k_is); (case gg_InvalidPoly => k_is); (case kC_InvalidPoly => k_is); (case eC_InvalidPoly => k_is); (case hC_InvalidPoly => k_is); (case ca_InvalidPoly => k_is); (case cm_InvalidPoly => k_is); (case nb_InvalidPoly => k_is); (case a1_InvalidPoly => k_is); (case t1_InvalidPoly => k_is); (case l1_InvalidPoly => k_is); (case c1_InvalidPoly => k_is); (case aC_InvalidPlace => k_is); (case xL_InvalidPlace => k_is); (case sa_InvalidPlace => k_is); (case ga_InvalidPlace => k_is); (case gg_InvalidPlace => k_is); (case kC_InvalidPlace => k_is); (case eC_InvalidPlace => k_is); (case hC_InvalidPlace => k_is); (case ca_InvalidPlace => k_is); (case cm_InvalidPlace => k_is); (case nb_InvalidPlace => k_is); (case a1_InvalidPlace => k_is); (case t1_InvalidPlace => k_is); (case l1_InvalidPlace => k_is); (case c1_InvalidPlace => k_is); (case aC_InvalidSaying => k_is); (case xL_InvalidSaying => k_is); (case sa_InvalidSaying => k_is); (case ga_InvalidSaying => k_is); (case gg_InvalidSaying => k_is); (case kC_InvalidSaying => k_is); (case eC_InvalidSaying => k_is); (case hC_InvalidSaying => k_is); (case ca_InvalidSaying => k_is); (case cm_InvalidSaying => k_is); (case nb_InvalidSaying => k_is); (case a1_InvalidSaying => k_is); (case t1_InvalidSaying => k_is); (case l1_InvalidSaying => k_is); (case c1_InvalidSaying => k_is); (case aC_InvalidCell => k_is); (case xL_InvalidCell => k_is); (case sa_InvalidCell => k_is); (case ga_InvalidCell => k_is); (case gg_InvalidCell => k_is); (case kC_InvalidCell => k_is); (case eC_InvalidCell => k_is); (case hC_InvalidCell => k_is); (case ca_InvalidCell => k_is); (case cm_InvalidCell => k_is); (case nb_InvalidCell => k_is); (case a1_InvalidCell => k_is); (case t1_InvalidCell => k_is); (case l1_InvalidCell => k_is); (case c1_InvalidCell => k_is); (case aC_InvalidPoint => k_is); (case xL_InvalidPoint => k_is); (case sa_InvalidPoint => k_is); (case ga_InvalidPoint => k_is); (case gg_InvalidPoint => k_is); (case kC_InvalidPoint => k_is); (case eC_InvalidPoint => k_is); (case hC_InvalidPoint => k_is); (case ca_InvalidPoint => k_is); (case cm_InvalidPoint => k_is); (case nb_InvalidPoint => k_is); (case a1_InvalidPoint => k_is); (case t1_InvalidPoint => k_is); (case l1_InvalidPoint => k_is); (case c1_InvalidPoint => k_is); (case aC_TooMany => k_is); (case xL_TooMany => k_is); (case sa_TooMany => k_is); (case ga_TooMany => k_is); (case gg_TooMany => k_is); (case kC_TooMany => k_is); (case eC_TooMany => k_is); (case hC_TooMany => k_is); (case ca_TooMany => k_is); (case cm_TooMany => k_is); (case nb_TooMany => k_is); (case a1_TooMany => k_is); (case t1_TooMany => k_is); (case l1_TooMany => k_is); (case c1_TooMany => k_is); (case aC_InvalidRows => k_is); (case xL_InvalidRows => k_is); (case sa_InvalidRows => k_is); (case ga_InvalidRows => k_is); (case gg_InvalidRows => k_is); (case kC_InvalidRows => k_is); (case eC_InvalidRows => k_is); (case hC_InvalidRows => k_is); (case ca_InvalidRows => k_is); (case cm_InvalidRows => k_is); (case nb_InvalidRows => k_is); (case a1_InvalidRows => k_is); (case t1_InvalidRows => k_is); (case l1_InvalidRows => k_is); (case c1_InvalidRows => k_is); (case aC_InvalidPolys => k_is); (case xL_InvalidPolys => k_is); (case sa_InvalidPolys => k_is); (case ga_InvalidPolys => k_is); (case gg_InvalidPolys => k_is); (case kC_InvalidPolys => k_is); (case eC_InvalidPolys => k_is); (case hC_InvalidPolys => k_is); (case ca_InvalidPolys => k_is); (case cm_InvalidPolys => k_is); (case nb_InvalidPolys => k_is); (case a1_InvalidPolys => k_is); (case t1_InvalidPolys => k_is); (case l1_InvalidPolys => k_is); (case c1_InvalidPolys => k_is); (case aC_InvalidLines => k_is); (case xL_InvalidLines => k_is); (case sa_InvalidLines => k_is); (case ga_InvalidLines => k_is); (case gg_InvalidLines => k_is); (case kC_InvalidLines => k_is); (case eC_InvalidLines => k_is); (case hC_InvalidLines => k_is); (case ca_InvalidLines => k_is); (case cm_InvalidLines => k_is); (case nb_InvalidLines => k_is); (case a1_InvalidLines => k_is); (case t1_InvalidLines => k_is); (case l1_InvalidLines => k_is); (case c1_InvalidLines => k_is); (case aC_BadText => k_is); (case xL_BadText => k_is); (case sa_BadText => k_is); (case ga_BadText => k_is); (case gg_BadText => k_is); (case kC_BadText => k_is); (case eC_BadText => k_is); (case hC_BadText => k_is); (case ca_BadText => k_is); (case cm_BadText => k_is); (case nb_BadText => k_is); (case a1_BadText => k_is); (case t1_BadText => k_is); (case l1_BadText => k_is); (case c1_BadText => k_is); (case aC_UnlikePlaces => k_is); (case xL_UnlikePlaces => k_is); (case sa_UnlikePlaces => k_is); (case ga_UnlikePlaces => k_is); (case gg_UnlikePlaces => k_is); (case kC_UnlikePlaces => k_is); (case eC_UnlikePlaces => k_is); (case hC_UnlikePlaces => k_is); (case ca_UnlikePlaces => k_is); (case cm_UnlikePlaces => k_is); (case ze_UnlikePlaces => (first | kernel_rfl | decide +kernel))
