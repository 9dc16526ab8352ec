import PyProof.Rows.All
import Wide.All
import OpenK.AllK
import Wide.FinOn
import HandS.ForMost
import HandS.Evl
import HandS.Exc
import HandS.WordsExc
import HandS.CallSlots
import HandS.Wide
import HandS.HeadHook1
import HandS.IsInst
import HandS.Defaults
import HandS.ExcCtx
import HandS.Deep
import HandS.Conv
import HandS.Strs
import KE.KExcSuper
import HandS.ExcInit
import HandS.ExcField
import HandS.TryMany
import HandS.HotCalls
import HandS.TryOnly
import HandS.Words
import KE.KStateDown
import Lean
import HandS.Ends
import HandS.More
import HandS.Head0
import HandS.Head1
import HandS.Head2
import HandS.HeadEnd
import HandS.HeadHook2
import PySem.Challenge.RW_everyhint_k11_ratios
set_option Elab.async false
set_option linter.all false
set_option maxRecDepth 100000
set_option maxHeartbeats 4000000
namespace AM
open PySem L2 Evl
/-! ### data as trees; .ref n is the n-th cell of the store -/
inductive D where
  | non | bl (b : Bool) | int (i : Int) | str (x : Str)
  | lst (l : List D) | tup (l : List D)
  | dic (l : List (D × D))
  | obj (c : Str) (fs : List (Str × D))
  | fn (x : Str)
  | ty (n : String)
  | ref (n : Nat)
  | scr (ns : List Int)
inductive C where
  | lst (l : List D) | dic (l : List (D × D)) | obj (c : Str) (fs : List (Str × D)) | pool (n : Nat) (ns : List Int) | dead
abbrev S := List C
def kD : Key → D
  | .inl i => .int i
  | .inr x => .str x
/-! ### what trees mention: cells below k -/
mutual
def D.lt (k : Nat) : D → Prop
  | .lst l => ltL k l
  | .tup l => ltL k l
  | .dic l => ltP k l
  | .obj _ fs => ltF k fs
  | .ref n => n < k
  | _ => True
def ltL (k : Nat) : List D → Prop
  | [] => True
  | x :: xs => D.lt k x ∧ ltL k xs
def ltP (k : Nat) : List (D × D) → Prop
  | [] => True
  | (x, y) :: xs => D.lt k x ∧ D.lt k y ∧ ltP k xs
def ltF (k : Nat) : List (Str × D) → Prop
  | [] => True
  | (_, y) :: xs => D.lt k y ∧ ltF k xs
end
def C.lt (k : Nat) : C → Prop
  | .lst l => ltL k l
  | .dic l => ltP k l
  | .obj _ fs => ltF k fs
  | _ => True
def ltS (k : Nat) (st : S) : Prop := ∀ c ∈ st, C.lt k c
/-- what is frozen, and where the cells lie -/
structure Gh where
  g : Hp
  as : List Addr
structure Gh.le (G G2 : Gh) : Prop where
  g : Ex G.g G2.g
  a : G.as <+: G2.as
theorem Gh.le.refl (G : Gh) : G.le G := ⟨Ex.refl _, List.prefix_refl _⟩
theorem Gh.le.trans {G G2 G3 : Gh} (a : G.le G2) (b : G2.le G3) : G.le G3 := ⟨a.g.trans b.g, a.a.trans b.a⟩
mutual
inductive Rep (K : PySem.W.Frag) (G : Gh) : D → V → Prop
  | non : Rep K G .non .non
  | bl (b : Bool) : Rep K G (.bl b) (.bl b)
  | int (i : Int) : Rep K G (.int i) (.int i)
  | str (x : Str) : Rep K G (.str x) (.str x)
  | lst {p : Addr} {vs : List V} {ds : List D} : G.g p = some (.lst vs) → Reps K G ds vs → Rep K G (.lst ds) (.ref p)
  | tup {p : Addr} {vs : List V} {ds : List D} : G.g p = some (.tup vs) → Reps K G ds vs → Rep K G (.tup ds) (.ref p)
  | dicK {p : Addr} {kvs : List (Key × V)} {ds : List (D × D)} : G.g p = some (.dK kvs) → RepK K G ds kvs → Rep K G (.dic ds) (.ref p)
  | dicT {p : Addr} {kvs : List (List Key × V)} {ds : List (D × D)} : G.g p = some (.dT kvs) → RepT K G ds kvs → Rep K G (.dic ds) (.ref p)
  | obj {c : Str} {p dx : Addr} {fs : List (Str × D)} {vs : List (Str × V)} : G.g p = some (.ins (He.ga K c) dx vs) → RepF K G fs vs → Rep K G (.obj c fs) (.ref p)
  | fn (x : Str) : Rep K G (.fn x) (.ref (He.ga K x))
  | ty (n : String) : Rep K G (.ty n) (.ty n)
  | ref {n : Nat} {p : Addr} : G.as[n]? = some p → Rep K G (.ref n) (.ref p)
  | scr {ns : List Int} {p : Addr} : SqL K G.g p (ns.map V.int) → ns.length ≤ 63 → Rep K G (.scr ns) (.ref p)
inductive Reps (K : PySem.W.Frag) (G : Gh) : List D → List V → Prop
  | nil : Reps K G [] []
  | cons {d : D} {v : V} {ds : List D} {vs : List V} : Rep K G d v → Reps K G ds vs → Reps K G (d :: ds) (v :: vs)
inductive RepF (K : PySem.W.Frag) (G : Gh) : List (Str × D) → List (Str × V) → Prop
  | nil : RepF K G [] []
  | cons {f : Str} {d : D} {v : V} {ds : List (Str × D)} {vs : List (Str × V)} : Rep K G d v → RepF K G ds vs → RepF K G ((f, d) :: ds) ((f, v) :: vs)
inductive RepK (K : PySem.W.Frag) (G : Gh) : List (D × D) → List (Key × V) → Prop
  | nil : RepK K G [] []
  | cons {k : Key} {d : D} {v : V} {ds : List (D × D)} {vs : List (Key × V)} : Rep K G d v → RepK K G ds vs → RepK K G ((kD k, d) :: ds) ((k, v) :: vs)
inductive RepT (K : PySem.W.Frag) (G : Gh) : List (D × D) → List (List Key × V) → Prop
  | nil : RepT K G [] []
  | cons {k : List Key} {d : D} {v : V} {ds : List (D × D)} {vs : List (List Key × V)} : Rep K G d v → RepT K G ds vs → RepT K G ((.tup (k.map kD), d) :: ds) ((k, v) :: vs)
end
theorem pre_get {α : Type} {l r : List α} {n : Nat} {x : α} (h : l <+: r) (e : l[n]? = some x) : r[n]? = some x := by
  obtain ⟨t, rfl⟩ := h
  rw [List.getElem?_append_left (List.getElem?_eq_some_iff.mp e).1]
  exact e
theorem kD_lt (k : Nat) : ∀ x : Key, (kD x).lt k
  | .inl _ => by unfold kD D.lt; trivial
  | .inr _ => by unfold kD D.lt; trivial
theorem kDs_lt (k : Nat) : ∀ l : List Key, ltL k (l.map kD)
  | [] => by unfold List.map ltL; trivial
  | x :: xs => by rw [List.map_cons]; unfold ltL; exact ⟨kD_lt k x, kDs_lt k xs⟩
section
variable {K : PySem.W.Frag} {G G2 : Gh}
mutual
theorem Rep.mono (e : G.le G2) : ∀ {d : D} {v : V}, Rep K G d v → Rep K G2 d v
  | _, _, .non => .non
  | _, _, .bl b => .bl b
  | _, _, .int i => .int i
  | _, _, .str x => .str x
  | _, _, .lst h r => .lst (e.g _ _ h) (Reps.mono e r)
  | _, _, .tup h r => .tup (e.g _ _ h) (Reps.mono e r)
  | _, _, .dicK h r => .dicK (e.g _ _ h) (RepK.mono e r)
  | _, _, .dicT h r => .dicT (e.g _ _ h) (RepT.mono e r)
  | _, _, .obj h r => .obj (e.g _ _ h) (RepF.mono e r)
  | _, _, .fn x => .fn x
  | _, _, .ty x => .ty x
  | _, _, .ref h => .ref (pre_get e.a h)
  | _, _, .scr h l => .scr (ex_l e.g h) l
theorem Reps.mono (e : G.le G2) : ∀ {ds : List D} {vs : List V}, Reps K G ds vs → Reps K G2 ds vs
  | _, _, .nil => .nil
  | _, _, .cons h r => .cons (Rep.mono e h) (Reps.mono e r)
theorem RepF.mono (e : G.le G2) : ∀ {ds : List (Str × D)} {vs : List (Str × V)}, RepF K G ds vs → RepF K G2 ds vs
  | _, _, .nil => .nil
  | _, _, .cons h r => .cons (Rep.mono e h) (RepF.mono e r)
theorem RepK.mono (e : G.le G2) : ∀ {ds : List (D × D)} {vs : List (Key × V)}, RepK K G ds vs → RepK K G2 ds vs
  | _, _, .nil => .nil
  | _, _, .cons h r => .cons (Rep.mono e h) (RepK.mono e r)
theorem RepT.mono (e : G.le G2) : ∀ {ds : List (D × D)} {vs : List (List Key × V)}, RepT K G ds vs → RepT K G2 ds vs
  | _, _, .nil => .nil
  | _, _, .cons h r => .cons (Rep.mono e h) (RepT.mono e r)
end
/-! what is represented mentions cells that there are -/
mutual
theorem Rep.lt : ∀ {d : D} {v : V}, Rep K G d v → d.lt G.as.length
  | _, _, .non => by unfold D.lt; trivial
  | _, _, .bl b => by unfold D.lt; trivial
  | _, _, .int i => by unfold D.lt; trivial
  | _, _, .str x => by unfold D.lt; trivial
  | _, _, .lst h r => by unfold D.lt; exact r.lt
  | _, _, .tup h r => by unfold D.lt; exact r.lt
  | _, _, .dicK h r => by unfold D.lt; exact r.lt
  | _, _, .dicT h r => by unfold D.lt; exact r.lt
  | _, _, .obj h r => by unfold D.lt; exact r.lt
  | _, _, .fn x => by unfold D.lt; trivial
  | _, _, .ty x => by unfold D.lt; trivial
  | _, _, .ref h => by unfold D.lt; exact (List.getElem?_eq_some_iff.mp h).1
  | _, _, .scr h l => by unfold D.lt; trivial
theorem Reps.lt : ∀ {ds : List D} {vs : List V}, Reps K G ds vs → ltL G.as.length ds
  | _, _, .nil => by unfold ltL; trivial
  | _, _, .cons h r => by unfold ltL; exact ⟨h.lt, r.lt⟩
theorem RepF.lt : ∀ {ds : List (Str × D)} {vs : List (Str × V)}, RepF K G ds vs → ltF G.as.length ds
  | _, _, .nil => by unfold ltF; trivial
  | _, _, .cons h r => by unfold ltF; exact ⟨h.lt, r.lt⟩
theorem RepK.lt : ∀ {ds : List (D × D)} {vs : List (Key × V)}, RepK K G ds vs → ltP G.as.length ds
  | _, _, .nil => by unfold ltP; trivial
  | _, _, .cons h r => by unfold ltP; exact ⟨kD_lt _ _, h.lt, r.lt⟩
theorem RepT.lt : ∀ {ds : List (D × D)} {vs : List (List Key × V)}, RepT K G ds vs → ltP G.as.length ds
  | _, _, .nil => by unfold ltP; trivial
  | _, _, .cons h r => by unfold ltP; exact ⟨by unfold D.lt; exact kDs_lt _ _, h.lt, r.lt⟩
end
/-! cells may be left away that are not mentioned -/
mutual
theorem Rep.cut {as : List Addr} (e : as <+: G.as) : ∀ {d : D} {v : V}, Rep K G d v → d.lt as.length → Rep K ⟨G.g, as⟩ d v
  | _, _, .non, _ => .non
  | _, _, .bl b, _ => .bl b
  | _, _, .int i, _ => .int i
  | _, _, .str x, _ => .str x
  | _, _, .lst h r, l => .lst h (Reps.cut e r (by unfold D.lt at l; exact l))
  | _, _, .tup h r, l => .tup h (Reps.cut e r (by unfold D.lt at l; exact l))
  | _, _, .dicK h r, l => .dicK h (RepK.cut e r (by unfold D.lt at l; exact l))
  | _, _, .dicT h r, l => .dicT h (RepT.cut e r (by unfold D.lt at l; exact l))
  | _, _, .obj h r, l => .obj h (RepF.cut e r (by unfold D.lt at l; exact l))
  | _, _, .fn x, _ => .fn x
  | _, _, .ty x, _ => .ty x
  | _, _, .ref h, l => .ref (by
    unfold D.lt at l
    obtain ⟨t, ht⟩ := e
    rw [← ht, List.getElem?_append_left l] at h
    exact h)
  | _, _, .scr h l, _ => .scr h l
theorem Reps.cut {as : List Addr} (e : as <+: G.as) : ∀ {ds : List D} {vs : List V}, Reps K G ds vs → ltL as.length ds → Reps K ⟨G.g, as⟩ ds vs
  | _, _, .nil, _ => .nil
  | _, _, .cons h r, l => by
    unfold ltL at l
    exact .cons (Rep.cut e h l.1) (Reps.cut e r l.2)
theorem RepF.cut {as : List Addr} (e : as <+: G.as) : ∀ {ds : List (Str × D)} {vs : List (Str × V)}, RepF K G ds vs → ltF as.length ds → RepF K ⟨G.g, as⟩ ds vs
  | _, _, .nil, _ => .nil
  | _, _, .cons h r, l => by
    unfold ltF at l
    exact .cons (Rep.cut e h l.1) (RepF.cut e r l.2)
theorem RepK.cut {as : List Addr} (e : as <+: G.as) : ∀ {ds : List (D × D)} {vs : List (Key × V)}, RepK K G ds vs → ltP as.length ds → RepK K ⟨G.g, as⟩ ds vs
  | _, _, .nil, _ => .nil
  | _, _, .cons h r, l => by
    unfold ltP at l
    exact .cons (Rep.cut e h l.2.1) (RepK.cut e r l.2.2)
theorem RepT.cut {as : List Addr} (e : as <+: G.as) : ∀ {ds : List (D × D)} {vs : List (List Key × V)}, RepT K G ds vs → ltP as.length ds → RepT K ⟨G.g, as⟩ ds vs
  | _, _, .nil, _ => .nil
  | _, _, .cons h r, l => by
    unfold ltP at l
    exact .cons (Rep.cut e h l.2.1) (RepT.cut e r l.2.2)
end
theorem Reps.length : ∀ {ds : List D} {vs : List V}, Reps K G ds vs → ds.length = vs.length
  | _, _, .nil => rfl
  | _, _, .cons _ r => congrArg Nat.succ r.length
theorem Reps.get : ∀ {ds : List D} {vs : List V} {i : Nat} {d : D}, Reps K G ds vs → ds[i]? = some d → ∃ v, vs[i]? = some v ∧ Rep K G d v
  | _, _, _, _, .nil, e => by simp at e
  | _, _, 0, _, .cons h _, e => by simp at e; subst e; exact ⟨_, rfl, h⟩
  | _, _, i + 1, d, .cons _ r, e => by
    obtain ⟨v, h1, h2⟩ := Reps.get (i := i) (d := d) r (by simpa using e)
    exact ⟨v, by simpa using h1, h2⟩
theorem Reps.append : ∀ {ds es : List D} {vs us : List V}, Reps K G ds vs → Reps K G es us → Reps K G (ds ++ es) (vs ++ us)
  | _, _, _, _, .nil, s => s
  | _, _, _, _, .cons h r, s => .cons h (Reps.append r s)
theorem Reps.one {d : D} {v : V} (h : Rep K G d v) : Reps K G [d] [v] := .cons h .nil
theorem Reps.set {d : D} {v : V} (h : Rep K G d v) : ∀ {ds : List D} {vs : List V} (i : Nat), Reps K G ds vs → Reps K G (ds.set i d) (vs.set i v)
  | _, _, _, .nil => .nil
  | _, _, 0, .cons _ r => .cons h r
  | _, _, i + 1, .cons q r => .cons q (Reps.set h i r)
theorem Reps.ints : ∀ (ns : List Int), Reps K G (ns.map D.int) (ns.map V.int)
  | [] => .nil
  | n :: ns => .cons (.int n) (Reps.ints ns)
end
/-! ### errors -/
structure Er where
  cls : Str
  fld : Option (Str × D)
def Er.lt (k : Nat) (e : Er) : Prop := match e.fld with
  | none => True
  | some (_, d) => d.lt k
def ErAt (K : PySem.W.Frag) (G : Gh) (e : Er) (c : Value) (dx : Option Addr) : Prop := c = .ref (He.ga K e.cls) ∧ match e.fld with
  | none => dx = none
  | some (f, x) => ∃ d v, dx = some d ∧ G.g d = some (.xd [(f, v)]) ∧ Rep K G x v
theorem ErAt.mono {K : PySem.W.Frag} {G G2 : Gh} {e : Er} {c : Value} {dx : Option Addr} (g : G.le G2) (h : ErAt K G e c dx) : ErAt K G2 e c dx := by
  obtain ⟨h1, h2⟩ := h
  refine ⟨h1, ?_⟩
  revert h2
  cases e.fld with
  | none => exact fun h => h
  | some p => exact fun ⟨d, v, e1, e2, e3⟩ => ⟨d, v, e1, g.g _ _ e2, e3.mono g⟩
theorem ErAt.cut {K : PySem.W.Frag} {G : Gh} {e : Er} {c : Value} {dx : Option Addr} {as : List Addr} (g : as <+: G.as) (h : ErAt K G e c dx) (l : e.lt as.length) : ErAt K ⟨G.g, as⟩ e c dx := by
  obtain ⟨h1, h2⟩ := h
  refine ⟨h1, ?_⟩
  revert h2
  unfold Er.lt at l
  revert l
  cases e.fld with
  | none => exact fun _ h => h
  | some p => exact fun l ⟨d, v, e1, e2, e3⟩ => ⟨d, v, e1, e2, e3.cut g l⟩
/-! ### slots -/
inductive A where
  | no | d (x : D) | exc (a : Addr) (c : Value) (dx : Option Addr) (e : Er)
def SlotOk (K : PySem.W.Frag) (G : Gh) : A → Option (Option V) → Prop
  | .no, _ => True
  | .d x, v => ∃ u, v = some (some u) ∧ Rep K G x u
  | .exc a c dx e, v => v = some (some (.ref a)) ∧ ErAt K G e c dx
structure Sl (K : PySem.W.Frag) (G : Gh) (env : List A) (σ : St) : Prop where
  len : env.length = σ.length
  slot : ∀ (i : Nat) (x : A), env[i]? = some x → SlotOk K G x (σ[i]?)
theorem SlotOk.mono {K : PySem.W.Frag} {G G2 : Gh} (g : G.le G2) {x : A} {v : Option (Option V)} (s : SlotOk K G x v) : SlotOk K G2 x v := by
  cases x with
  | no => trivial
  | d y => exact ⟨s.choose, s.choose_spec.1, s.choose_spec.2.mono g⟩
  | exc a c dx e => exact ⟨s.1, s.2.mono g⟩
theorem Sl.mono {K : PySem.W.Frag} {G G2 : Gh} (g : G.le G2) {env : List A} {σ : St} (s : Sl K G env σ) : Sl K G2 env σ := ⟨s.len, fun i x e => (s.slot i x e).mono g⟩
theorem get_set {α : Type} {l : List α} {i j : Nat} {x y : α} (h : (l.set i x)[j]? = some y) : (j = i ∧ y = x ∧ i < l.length) ∨ (j ≠ i ∧ l[j]? = some y) := by
  by_cases hj : j = i
  · subst hj
    by_cases hl : j < l.length
    · rw [List.getElem?_set_self hl] at h
      exact .inl ⟨rfl, (Option.some.inj h).symm, hl⟩
    · rw [List.getElem?_eq_none (by rw [List.length_set]; omega)] at h
      cases h
  · rw [List.getElem?_set_ne (Ne.symm hj)] at h
    exact .inr ⟨hj, h⟩
theorem Sl.put {K : PySem.W.Frag} {G : Gh} {env : List A} {σ : St} (s : Sl K G env σ) (i : Nat) {x : A} {v : Option V} (h : SlotOk K G x (some v)) : Sl K G (env.set i x) (σ.set i v) := by
  refine ⟨by rw [List.length_set, List.length_set]; exact s.len, fun j y e => ?_⟩
  rcases get_set e with ⟨rfl, rfl, hl⟩ | ⟨hj, e⟩
  · rw [List.getElem?_set_self (by rw [← s.len]; exact hl)]
    exact h
  · rw [List.getElem?_set_ne (Ne.symm hj)]
    exact s.slot j y e
theorem Sl.set {K : PySem.W.Frag} {G : Gh} {env : List A} {σ : St} {v : V} {d : D} (s : Sl K G env σ) (i : Nat) (r : Rep K G d v) : Sl K G (env.set i (.d d)) (σ.set i (some v)) := s.put i ⟨v, rfl, r⟩
theorem Sl.drop {K : PySem.W.Frag} {G : Gh} {env : List A} {σ : St} (s : Sl K G env σ) (i : Nat) (v : Option V) : Sl K G (env.set i .no) (σ.set i v) := s.put i trivial
/-! ### the store -/
def CellOk (K : PySem.W.Frag) (G : Gh) (H : Hp) : C → Addr → Prop
  | .lst l, p => ∃ vs, G.g p = none ∧ H p = some (.lst vs) ∧ Reps K G l vs
  | .dic l, p => G.g p = none ∧ ((∃ kvs, H p = some (.dK kvs) ∧ RepK K G l kvs) ∨ ∃ kvs, H p = some (.dT kvs) ∧ RepT K G l kvs)
  | .obj c fs, p => ∃ dx vs, G.g p = none ∧ H p = some (.ins (He.ga K c) dx vs) ∧ RepF K G fs vs
  | .pool n ns, p => G.g p = none ∧ ∃ (at_ lf : Int) (q : Addr), H p = some (.lst [.int at_, .int lf, .ref q]) ∧ 0 ≤ at_ ∧ at_ ≤ n ∧ 0 ≤ lf ∧ G.g q = some (.lst (ns.map V.int)) ∧ ns.length ≤ 63
  | .dead, p => H p ≠ none
structure SS (K : PySem.W.Frag) (G : Gh) (st : S) (H : Hp) : Prop where
  ex : Ex G.g H
  len : G.as.length = st.length
  nd : G.as.Nodup
  cell : ∀ (n : Nat) (c : C) (p : Addr), st[n]? = some c → G.as[n]? = some p → CellOk K G H c p
theorem CellOk.live {K : PySem.W.Frag} {G : Gh} {H : Hp} {c : C} {p : Addr} (h : CellOk K G H c p) : H p ≠ none := by
  cases c with
  | lst l => obtain ⟨vs, _, e, _⟩ := h; rw [e]; exact fun z => nomatch z
  | dic l =>
    rcases h.2 with ⟨kvs, e, _⟩ | ⟨kvs, e, _⟩ <;> (rw [e]; exact fun z => nomatch z)
  | obj c fs => obtain ⟨dx, vs, _, e, _⟩ := h; rw [e]; exact fun z => nomatch z
  | pool n ns => obtain ⟨_, a, l, q, e, _⟩ := h; rw [e]; exact fun z => nomatch z
  | dead => exact h
theorem CellOk.mono {K : PySem.W.Frag} {G G2 : Gh} {H H2 : Hp} {c : C} {p : Addr} (g : G.le G2) (hh : ∀ o, H p = some o → H2 p = some o) (hn : c ≠ .dead → G.g p = none → G2.g p = none) (h : CellOk K G H c p) : CellOk K G2 H2 c p := by
  cases c with
  | lst l => obtain ⟨vs, gp, e, r⟩ := h; exact ⟨vs, hn (fun z => nomatch z) gp, hh _ e, r.mono g⟩
  | dic l =>
    refine ⟨hn (fun z => nomatch z) h.1, ?_⟩
    rcases h.2 with ⟨kvs, e, r⟩ | ⟨kvs, e, r⟩
    · exact .inl ⟨kvs, hh _ e, r.mono g⟩
    · exact .inr ⟨kvs, hh _ e, r.mono g⟩
  | obj c fs => obtain ⟨dx, vs, gp, e, r⟩ := h; exact ⟨dx, vs, hn (fun z => nomatch z) gp, hh _ e, r.mono g⟩
  | pool n ns =>
    obtain ⟨gp, a, l, q, e, h1, h2, h3, h4, h5⟩ := h
    exact ⟨hn (fun z => nomatch z) gp, a, l, q, hh _ e, h1, h2, h3, g.g _ _ h4, h5⟩
  | dead =>
    cases e : H p with
    | none => exact absurd e h
    | some o => show H2 p ≠ none; rw [hh _ e]; exact fun z => nomatch z
section
variable {K : PySem.W.Frag} {G G2 : Gh} {H H2 : Hp} {st st2 : S}
theorem SS.live (s : SS K G st H) {p : Addr} (h : p ∈ G.as) : H p ≠ none := by
  obtain ⟨n, e⟩ := List.mem_iff_getElem?.mp h
  have hn : n < st.length := by rw [← s.len]; exact (List.getElem?_eq_some_iff.mp e).1
  exact (s.cell n st[n] p (List.getElem?_eq_getElem hn) e).live
theorem SS.fresh (s : SS K G st H) {p : Addr} (h : H p = none) : p ∉ G.as := fun z => s.live z h
theorem SS.wf (s : SS K G st H) : ltS st.length st := fun c hc => by
  obtain ⟨n, e⟩ := List.mem_iff_getElem?.mp hc
  have hn : n < G.as.length := by rw [s.len]; exact (List.getElem?_eq_some_iff.mp e).1
  have h := s.cell n c _ e (List.getElem?_eq_getElem hn)
  rw [← s.len]
  cases c with
  | lst l => obtain ⟨vs, _, _, r⟩ := h; exact r.lt
  | dic l =>
    rcases h.2 with ⟨kvs, _, r⟩ | ⟨kvs, _, r⟩
    · exact r.lt
    · exact r.lt
  | obj c fs => obtain ⟨dx, vs, _, _, r⟩ := h; exact r.lt
  | pool n ns => trivial
  | dead => trivial
end
/-! ### what may come between -/
structure Post (G : Gh) (H : Hp) (G2 : Gh) (H2 : Hp) : Prop where
  le : G.le G2
  h : ∀ x o, H x = some o → x ∉ G.as → H2 x = some o
  n : ∀ x, G.g x = none → H x ≠ none → x ∉ G.as → G2.g x = none
  o : ∀ x, x ∈ G2.as → x ∈ G.as ∨ H x = none
  m : ∀ x, H x ≠ none → H2 x ≠ none
theorem Post.refl {G : Gh} {H : Hp} : Post G H G H := ⟨Gh.le.refl G, fun _ _ h _ => h, fun _ h _ _ => h, fun _ h => .inl h, fun _ h => h⟩
theorem Post.trans {G G2 G3 : Gh} {H H2 H3 : Hp} (p : Post G H G2 H2) (q : Post G2 H2 G3 H3) : Post G H G3 H3 := by
  have no : ∀ {x : Addr}, H x ≠ none → x ∉ G.as → x ∉ G2.as := fun {x} h1 h2 z => by
    rcases p.o x z with z | z
    · exact h2 z
    · exact h1 z
  have ne : ∀ {x : Addr} {o : HO}, H x = some o → H x ≠ none := fun e => by rw [e]; exact fun z => nomatch z
  exact ⟨p.le.trans q.le, fun x o e k => q.h x o (p.h x o e k) (no (ne e) k), fun x e k l => q.n x (p.n x e k l) (p.m x k) (no k l), fun x z => by
    rcases q.o x z with z | z
    · exact p.o x z
    · refine .inr ?_
      cases hh : H x with
      | none => rfl
      | some o => exact absurd z (p.m x (ne hh)), fun x k => q.m x (p.m x k)⟩
/-! ### readings by data -/
abbrev QX := Er → S → Prop
abbrev AE := List A → S → (D → S → Prop) → QX → Prop
abbrev AT := List A → S → (Bool → S → Prop) → QX → Prop
inductive Rs where
  | d (x : D) | own (l : List D)
structure AK where
  nx : List A → S → Prop
  rt : Rs → S → Prop
  bk : List A → S → Prop
  ct : List A → S → Prop
  er : Er → List A → S → Prop
abbrev AS := List A → S → AK → Prop
def ThenE (K : PySem.W.Frag) (G : Gh) (H : Hp) (q : D → S → Prop) (Q : VK) : Prop := ∀ v d st2 G2 H2, Post G H G2 H2 → SS K G2 st2 H2 → Rep K G2 d v → q d st2 → Q v H2
def ThenT (K : PySem.W.Frag) (G : Gh) (H : Hp) (q : Bool → S → Prop) (Q : Bool → Hp → Prop) : Prop := ∀ b st2 G2 H2, Post G H G2 H2 → SS K G2 st2 H2 → q b st2 → Q b H2
def ThenX (K : PySem.W.Frag) (W : WX) (G : Gh) (H : Hp) (σ : St) (er : QX) : Prop := ∀ e c dx st2 G2 H2, Post G H G2 H2 → SS K G2 st2 H2 → ErAt K G2 e c dx → er e st2 → W c dx σ H2
def RefE (K : PySem.W.Frag) (W : WX) (te : TE) (ae : AE) : Prop := ∀ G env st σ H (Q : VK) (q : D → S → Prop) (er : QX), SS K G st H → Sl K G env σ → ae env st q er → ThenE K G H q Q → ThenX K W G H σ er → te σ H Q
def RefT (K : PySem.W.Frag) (W : WX) (tt : TT) (at_ : AT) : Prop := ∀ G env st σ H (Q : Bool → Hp → Prop) (q : Bool → S → Prop) (er : QX), SS K G st H → Sl K G env σ → at_ env st q er → ThenT K G H q Q → ThenX K W G H σ er → tt σ H Q
theorem ThenE.on {K : PySem.W.Frag} {G G2 : Gh} {H H2 : Hp} {q : D → S → Prop} {Q : VK} (t : ThenE K G H q Q) (p : Post G H G2 H2) : ThenE K G2 H2 q Q := fun v d st3 G3 H3 p2 => t v d st3 G3 H3 (p.trans p2)
theorem ThenT.on {K : PySem.W.Frag} {G G2 : Gh} {H H2 : Hp} {q : Bool → S → Prop} {Q : Bool → Hp → Prop} (t : ThenT K G H q Q) (p : Post G H G2 H2) : ThenT K G2 H2 q Q := fun v st3 G3 H3 p2 => t v st3 G3 H3 (p.trans p2)
theorem ThenX.on {K : PySem.W.Frag} {W : WX} {G G2 : Gh} {H H2 : Hp} {σ : St} {er : QX} (t : ThenX K W G H σ er) (p : Post G H G2 H2) : ThenX K W G2 H2 σ er := fun e c dx st3 G3 H3 p2 => t e c dx st3 G3 H3 (p.trans p2)
theorem ThenX.none {K : PySem.W.Frag} {W : WX} {G : Gh} {H : Hp} {σ : St} : ThenX K W G H σ (fun _ _ => False) := fun _ _ _ _ _ _ _ _ _ z => z.elim
/-! ### what is walked: while what it reads stands, turn i yields the i-th item (new tuples may come) -/
/-- cells that must stand as they are -/
abbrev Gd := List (Nat × C)
def gdOk (gd : Gd) (st : S) : Prop := ∀ x ∈ gd, st[x.1]? = some x.2
structure Walks (K : PySem.W.Frag) (G0 : Gh) (J : It) (ds : List D) (gd : Gd) : Prop where
  stop : ∀ i G st H, G0.le G → SS K G st H → gdOk gd st → ds.length ≤ i → J.stop i H
  go : ∀ i G st H, G0.le G → SS K G st H → gdOk gd st → i < ds.length → J.go i H
  yld : ∀ i G st H d x H', G0.le G → SS K G st H → gdOk gd st → ds[i]? = some d → J.yld i H x H' → (H' = H ∧ Rep K G d x) ∨ ∃ p xs es, H p = none ∧ H' = upd H p (.tup xs) ∧ x = .ref p ∧ d = .tup es ∧ Reps K G es xs
abbrev AI := List A → S → (List D → Gd → S → Prop) → QX → Prop
def RefI (K : PySem.W.Frag) (W : WX) (wi : TI) (ai : AI) : Prop := ∀ G env st σ H (R : It → Hp → Prop) (q : List D → Gd → S → Prop) (er : QX), SS K G st H → Sl K G env σ → ai env st q er →
  (∀ J ds gd st2 G2 H2, Post G H G2 H2 → SS K G2 st2 H2 → Walks K G2 J ds gd → q ds gd st2 → R J H2) → ThenX K W G H σ er → wi σ H R
/-! ### results, statements -/
def ResOk (K : PySem.W.Frag) (H : Hp) (G2 : Gh) (H2 : Hp) : Rs → V → Prop
  | .d x, v => Rep K G2 x v
  | .own l, v => ∃ p vs, v = .ref p ∧ H2 p = some (.lst vs) ∧ G2.g p = none ∧ p ∉ G2.as ∧ H p = none ∧ Reps K G2 l vs
theorem ResOk.on {K : PySem.W.Frag} {G G2 G3 : Gh} {H H2 H3 : Hp} {r : Rs} {v : V} (p : Post G H G2 H2) (h : ResOk K H2 G3 H3 r v) : ResOk K H G3 H3 r v := by
  cases r with
  | d x => exact h
  | own l =>
    obtain ⟨a, vs, e1, e2, e3, e4, e5, e6⟩ := h
    refine ⟨a, vs, e1, e2, e3, e4, ?_, e6⟩
    cases hh : H a with
    | none => rfl
    | some o => exact absurd e5 (p.m a (by rw [hh]; exact fun z => nomatch z))
structure ThenS (K : PySem.W.Frag) (W : WX) (G : Gh) (H : Hp) (k : AK) (D : Ends) : Prop where
  nx : ∀ env' σ' st2 G2 H2, Post G H G2 H2 → SS K G2 st2 H2 → Sl K G2 env' σ' → k.nx env' st2 → D.nx σ' H2
  rt : ∀ v r st2 G2 H2, Post G H G2 H2 → SS K G2 st2 H2 → ResOk K H G2 H2 r v → k.rt r st2 → D.rt v H2
  bk : ∀ env' σ' st2 G2 H2, Post G H G2 H2 → SS K G2 st2 H2 → Sl K G2 env' σ' → k.bk env' st2 → D.bk σ' H2
  ct : ∀ env' σ' st2 G2 H2, Post G H G2 H2 → SS K G2 st2 H2 → Sl K G2 env' σ' → k.ct env' st2 → D.ct σ' H2
  er : ∀ e c dx env' σ' st2 G2 H2, Post G H G2 H2 → SS K G2 st2 H2 → Sl K G2 env' σ' → ErAt K G2 e c dx → k.er e env' st2 → W c dx σ' H2
def RefS (K : PySem.W.Frag) (W : WX) (ts : TS) (as : AS) : Prop := ∀ G env st σ H (D : Ends) (k : AK), SS K G st H → Sl K G env σ → as env st k → ThenS K W G H k D → ts D σ H
theorem ThenS.on {K : PySem.W.Frag} {W : WX} {G G2 : Gh} {H H2 : Hp} {k : AK} {D : Ends} (t : ThenS K W G H k D) (p : Post G H G2 H2) : ThenS K W G2 H2 k D :=
  ⟨fun env' σ' st3 G3 H3 p2 => t.nx env' σ' st3 G3 H3 (p.trans p2), fun v d st3 G3 H3 p2 s2 r2 => t.rt v d st3 G3 H3 (p.trans p2) s2 (r2.on p), fun env' σ' st3 G3 H3 p2 => t.bk env' σ' st3 G3 H3 (p.trans p2), fun env' σ' st3 G3 H3 p2 => t.ct env' σ' st3 G3 H3 (p.trans p2), fun e c dx env' σ' st3 G3 H3 p2 => t.er e c dx env' σ' st3 G3 H3 (p.trans p2)⟩
/-- errors of an expression within a statement -/
theorem ThenS.x {K : PySem.W.Frag} {W : WX} {G : Gh} {H : Hp} {k : AK} {D : Ends} {env : List A} {σ : St} (t : ThenS K W G H k D) (s : Sl K G env σ) : ThenX K W G H σ (fun e st => k.er e env st) :=
  fun e c dx st2 G2 H2 p s2 ea h => t.er e c dx env σ st2 G2 H2 p s2 (s.mono p.le) ea h
/-! ### judgements -/
def AX (X : Cx) (W : WX) (e : Expr) (ae : AE) : Prop := ∃ te, PE X e te ∧ RefE X.K W te ae
def AXT (X : Cx) (W : WX) (e : Expr) (a : AT) : Prop := ∃ tt, PT X e tt ∧ RefT X.K W tt a
def AXW (X : Cx) (W : WX) (e : Expr) (a : AT) : Prop := ∃ tt, PW X e tt ∧ RefT X.K W tt a
def AXI (X : Cx) (W : WX) (tg e : Expr) (a : AI) : Prop := ∃ wi, PI X tg e wi ∧ RefI X.K W wi a
def AXS (X : Cx) (W : WX) (st : Stmt) (a : AS) : Prop := ∃ ts, PS X st ts ∧ RefS X.K W ts a
def AXB (X : Cx) (W : WX) (st : List Stmt) (a : AS) : Prop := ∃ ts, PSs X st ts ∧ RefS X.K W ts a
end AM
set_option Elab.async false
set_option linter.all false
set_option maxRecDepth 100000
set_option maxHeartbeats 4000000
namespace AM
open PySem L2 Evl
/-! ### the store changes -/
theorem mem_ne {l : List Addr} {p q : Addr} (h : p ∉ l) (m : q ∈ l) : q ≠ p := fun z => h (z ▸ m)
theorem live_ne {H : Hp} {p q : Addr} (h : H p = none) (k : H q ≠ none) : q ≠ p := fun z => k (z ▸ h)
theorem mem_ne' {l : List Addr} {p q : Addr} (m : p ∈ l) (h : q ∉ l) : q ≠ p := fun z => h (z ▸ m)
section
variable {K : PySem.W.Frag} {G G2 : Gh} {H H2 : Hp} {st : S}
theorem le_new {p : Addr} {o : HO} (gp : G.g p = none) : G.le ⟨upd G.g p o, G.as⟩ := ⟨Ex.new gp, List.prefix_refl _⟩
theorem ne_some {x : Addr} {o : HO} (e : H x = some o) : H x ≠ none := by rw [e]; exact fun z => nomatch z
/-- what is new and frozen -/
theorem SS.new (s : SS K G st H) {p : Addr} {o : HO} (hp : H p = none) : SS K ⟨upd G.g p o, G.as⟩ st (upd H p o) ∧ Post G H ⟨upd G.g p o, G.as⟩ (upd H p o) := by
  have gp : G.g p = none := fresh_back s.ex hp
  have le : G.le ⟨upd G.g p o, G.as⟩ := le_new gp
  refine ⟨⟨fun a u e => ?_, s.len, s.nd, fun n c q e1 e2 => (s.cell n c q e1 e2).mono le (fun u e => ?_) (fun _ e => ?_)⟩, le, fun x u e _ => Ex.new hp x u e, fun x e k _ => ?_, fun x z => .inl z, fun x k => ?_⟩
  · have e : (upd G.g p o) a = some u := e
    by_cases h : a = p
    · subst h; rw [upd_same] at e ⊢; exact e
    · rw [upd_ne h] at e ⊢; exact s.ex a u e
  · rw [upd_ne (mem_ne (s.fresh hp) (List.mem_of_getElem? e2))]; exact e
  · show (upd G.g p o) q = none
    rw [upd_ne (mem_ne (s.fresh hp) (List.mem_of_getElem? e2))]; exact e
  · show (upd G.g p o) x = none
    rw [upd_ne (live_ne hp k)]; exact e
  · by_cases h : x = p
    · subst h; exact absurd hp k
    · rw [upd_ne h]; exact k
/-- what is new and nobody's yet -/
theorem SS.room (s : SS K G st H) {p : Addr} {o : HO} (hp : H p = none) : SS K G st (upd H p o) ∧ Post G H G (upd H p o) ∧ p ∉ G.as ∧ G.g p = none := by
  have gp : G.g p = none := fresh_back s.ex hp
  refine ⟨⟨fun a u e => Ex.new hp a u (s.ex a u e), s.len, s.nd, fun n c q e1 e2 => (s.cell n c q e1 e2).mono (Gh.le.refl G) (fun u e => Ex.new hp q u e) (fun _ e => e)⟩, ⟨Gh.le.refl G, fun x u e _ => Ex.new hp x u e, fun x e _ _ => e, fun x z => .inl z, fun x k => ?_⟩, s.fresh hp, gp⟩
  by_cases h : x = p
  · subst h; exact absurd hp k
  · rw [upd_ne h]; exact k
/-- what is nobody's is frozen -/
theorem SS.freeze (s : SS K G st H) {p : Addr} {o : HO} (hp : H p = some o) (gp : G.g p = none) (np : p ∉ G.as) : SS K ⟨upd G.g p o, G.as⟩ st H ∧ G.le ⟨upd G.g p o, G.as⟩ := by
  have le : G.le ⟨upd G.g p o, G.as⟩ := le_new gp
  refine ⟨⟨fun a u e => ?_, s.len, s.nd, fun n c q e1 e2 => (s.cell n c q e1 e2).mono le (fun u e => e) (fun _ e => ?_)⟩, le⟩
  · have e : (upd G.g p o) a = some u := e
    by_cases h : a = p
    · subst h; rw [upd_same] at e; rw [hp]; exact e
    · rw [upd_ne h] at e; exact s.ex a u e
  · show (upd G.g p o) q = none
    rw [upd_ne (mem_ne np (List.mem_of_getElem? e2))]; exact e
/-- .. of something that came on the way -/
theorem Post.freeze {G0 : Gh} {H0 : Hp} (po : Post G0 H0 G H) {p : Addr} {o : HO} (gp : G.g p = none) (hn : H0 p = none) : Post G0 H0 ⟨upd G.g p o, G.as⟩ H :=
  ⟨po.le.trans (le_new gp), po.h, fun x e k l => by
    show (upd G.g p o) x = none
    rw [upd_ne (live_ne hn k)]; exact po.n x e k l, po.o, po.m⟩
/-- what is nobody's becomes a cell -/
theorem le_cell {p : Addr} : G.le ⟨G.g, G.as ++ [p]⟩ := ⟨Ex.refl _, List.prefix_append _ _⟩
theorem SS.cellOf (s : SS K G st H) {p : Addr} {c : C} (np : p ∉ G.as) (hc : CellOk K ⟨G.g, G.as ++ [p]⟩ H c p) : SS K ⟨G.g, G.as ++ [p]⟩ (st ++ [c]) H := by
  refine ⟨s.ex, by rw [List.length_append, List.length_append, s.len]; rfl, ?_, fun n c' q e1 e2 => ?_⟩
  · show (G.as ++ [p]).Nodup
    rw [List.nodup_append]
    exact ⟨s.nd, by simp, fun a ha b hb => by
      have : b = p := by simpa using hb
      subst this
      exact fun z => np (z ▸ ha)⟩
  · have e2 : (G.as ++ [p])[n]? = some q := e2
    by_cases hn : n < st.length
    · rw [List.getElem?_append_left hn] at e1
      rw [List.getElem?_append_left (by rw [s.len]; exact hn)] at e2
      exact (s.cell n c' q e1 e2).mono le_cell (fun u e => e) (fun _ e => e)
    · have hl : n = st.length := by
        have := (List.getElem?_eq_some_iff.mp e1).1
        rw [List.length_append] at this
        simp at this
        omega
      subst hl
      rw [List.getElem?_append_right (Nat.le_refl _), Nat.sub_self] at e1
      rw [← s.len, List.getElem?_append_right (Nat.le_refl _), Nat.sub_self] at e2
      cases e1; cases e2
      exact hc
theorem Post.cellOf {G0 : Gh} {H0 : Hp} (po : Post G0 H0 G H) {p : Addr} (hn : H0 p = none) : Post G0 H0 ⟨G.g, G.as ++ [p]⟩ H :=
  ⟨po.le.trans le_cell, po.h, po.n, fun x z => by
    rcases List.mem_append.mp z with z | z
    · exact po.o x z
    · have : x = p := by simpa using z
      subst this
      exact .inr hn, po.m⟩
/-- a cell changes -/
theorem SS.setCell (s : SS K G st H) {n : Nat} {p : Addr} {c' : C} {o : HO} (hp : G.as[n]? = some p) (gp : G.g p = none) (hc : CellOk K G (upd H p o) c' p) : SS K G (st.set n c') (upd H p o) ∧ Post G H G (upd H p o) := by
  have hl : H p ≠ none := s.live (List.mem_of_getElem? hp)
  refine ⟨⟨fun a u e => ?_, by rw [List.length_set]; exact s.len, s.nd, fun m c q e1 e2 => ?_⟩, Gh.le.refl G, fun x u e k => ?_, fun x e _ _ => e, fun x z => .inl z, fun x k => ?_⟩
  · rw [upd_ne (fun z => by rw [z, gp] at e; cases e)]; exact s.ex a u e
  · rcases get_set e1 with ⟨rfl, rfl, _⟩ | ⟨hm, e1⟩
    · rw [hp] at e2; cases e2; exact hc
    · refine (s.cell m c q e1 e2).mono (Gh.le.refl G) (fun u e => ?_) (fun _ e => e)
      rw [upd_ne]
      · exact e
      · intro z
        subst z
        exact hm ((List.getElem?_inj (List.getElem?_eq_some_iff.mp e2).1 s.nd).mp (e2.trans hp.symm))
  · rw [upd_ne (mem_ne' (List.mem_of_getElem? hp) k)]; exact e
  · by_cases h : x = p
    · subst h; rw [upd_same]; exact fun z => nomatch z
    · rw [upd_ne h]; exact k
/-- a cell is frozen -/
theorem SS.freezeCell (s : SS K G st H) {n : Nat} {p : Addr} {o : HO} (hp : G.as[n]? = some p) (gp : G.g p = none) (hh : H p = some o) : SS K ⟨upd G.g p o, G.as⟩ (st.set n .dead) H ∧ Post G H ⟨upd G.g p o, G.as⟩ H := by
  have le : G.le ⟨upd G.g p o, G.as⟩ := le_new gp
  refine ⟨⟨fun a u e => ?_, by rw [List.length_set]; exact s.len, s.nd, fun m c q e1 e2 => ?_⟩, le, fun x u e _ => e, fun x e k l => ?_, fun x z => .inl z, fun x k => k⟩
  · have e : (upd G.g p o) a = some u := e
    by_cases h : a = p
    · subst h; rw [upd_same] at e; rw [hh]; exact e
    · rw [upd_ne h] at e; exact s.ex a u e
  · rcases get_set e1 with ⟨rfl, rfl, _⟩ | ⟨hm, e1⟩
    · have e2 : G.as[m]? = some q := e2
      rw [hp] at e2; cases e2; exact ne_some hh
    · refine (s.cell m c q e1 e2).mono le (fun u e => e) (fun _ e => ?_)
      show (upd G.g p o) q = none
      rw [upd_ne]
      · exact e
      · intro z
        subst z
        have e2 : G.as[m]? = some q := e2
        exact hm ((List.getElem?_inj (List.getElem?_eq_some_iff.mp e2).1 s.nd).mp (e2.trans hp.symm))
  · show (upd G.g p o) x = none
    rw [upd_ne (mem_ne' (List.mem_of_getElem? hp) l)]; exact e
/-- cells behind k are left away -/
theorem SS.cut (s : SS K G st H) {as : List Addr} (e : as <+: G.as) (l : ltS as.length (st.take as.length)) : SS K ⟨G.g, as⟩ (st.take as.length) H := by
  have hle : as.length ≤ st.length := by rw [← s.len]; exact e.length_le
  refine ⟨s.ex, by rw [List.length_take]; exact (Nat.min_eq_left hle).symm, s.nd.sublist e.sublist, fun n c p e1 e2 => ?_⟩
  have e2 : as[n]? = some p := e2
  have hn := (List.getElem?_eq_some_iff.mp e2).1
  have lc : C.lt as.length c := l c (List.mem_of_getElem? e1)
  rw [List.getElem?_take_of_lt hn] at e1
  have h := s.cell n c p e1 (pre_get e e2)
  cases c with
  | lst l => obtain ⟨vs, gp, e, r⟩ := h; exact ⟨vs, gp, e, r.cut ‹_› lc⟩
  | dic l =>
    refine ⟨h.1, ?_⟩
    rcases h.2 with ⟨kvs, q, r⟩ | ⟨kvs, q, r⟩
    · exact .inl ⟨kvs, q, r.cut ‹_› lc⟩
    · exact .inr ⟨kvs, q, r.cut ‹_› lc⟩
  | obj c fs => obtain ⟨dx, vs, gp, e, r⟩ := h; exact ⟨dx, vs, gp, e, r.cut ‹_› lc⟩
  | pool n ns => exact h
  | dead => exact h
theorem Post.cut {G0 : Gh} {H0 : Hp} (po : Post G0 H0 G H) : Post G0 H0 ⟨G.g, G0.as⟩ H := ⟨⟨po.le.g, List.prefix_refl _⟩, po.h, po.n, fun _ z => .inl z, po.m⟩
end
/-! ### a value as it is seen now: a cell's content -/
def vw (st : S) : D → D
  | .ref n => match st[n]? with
    | some (.lst l) => .lst l
    | some (.dic l) => .dic l
    | some (.obj c fs) => .obj c fs
    | _ => .ref n
  | d => d
inductive Rv (K : PySem.W.Frag) (G : Gh) (H : Hp) : D → V → Prop
  | non : Rv K G H .non .non
  | bl (b : Bool) : Rv K G H (.bl b) (.bl b)
  | int (i : Int) : Rv K G H (.int i) (.int i)
  | str (x : Str) : Rv K G H (.str x) (.str x)
  | lst {p : Addr} {vs : List V} {ds : List D} : H p = some (.lst vs) → Reps K G ds vs → Rv K G H (.lst ds) (.ref p)
  | tup {p : Addr} {vs : List V} {ds : List D} : H p = some (.tup vs) → Reps K G ds vs → Rep K G (.tup ds) (.ref p) → Rv K G H (.tup ds) (.ref p)
  | dicK {p : Addr} {kvs : List (Key × V)} {ds : List (D × D)} : H p = some (.dK kvs) → RepK K G ds kvs → Rv K G H (.dic ds) (.ref p)
  | dicT {p : Addr} {kvs : List (List Key × V)} {ds : List (D × D)} : H p = some (.dT kvs) → RepT K G ds kvs → Rv K G H (.dic ds) (.ref p)
  | obj {c : Str} {p dx : Addr} {fs : List (Str × D)} {vs : List (Str × V)} : H p = some (.ins (He.ga K c) dx vs) → RepF K G fs vs → Rv K G H (.obj c fs) (.ref p)
  | fn (x : Str) : Rv K G H (.fn x) (.ref (He.ga K x))
  | ty (n : String) : Rv K G H (.ty n) (.ty n)
  | ref {n : Nat} {v : V} : Rv K G H (.ref n) v
  | scr {ns : List Int} {p : Addr} : SqL K H p (ns.map V.int) → ns.length ≤ 63 → Rv K G H (.scr ns) (.ref p)
inductive Rvs (K : PySem.W.Frag) (G : Gh) (H : Hp) : List D → List V → Prop
  | nil : Rvs K G H [] []
  | cons {d : D} {v : V} {ds : List D} {vs : List V} : Rv K G H d v → Rvs K G H ds vs → Rvs K G H (d :: ds) (v :: vs)
theorem Rep.vw {K : PySem.W.Frag} {G : Gh} {H : Hp} {st : S} {d : D} {v : V} (r : Rep K G d v) (s : SS K G st H) : Rv K G H (vw st d) v := by
  cases r with
  | non => exact .non
  | bl b => exact .bl b
  | int i => exact .int i
  | str x => exact .str x
  | lst h r => exact .lst (s.ex _ _ h) r
  | tup h r => exact .tup (s.ex _ _ h) r (.tup h r)
  | dicK h r => exact .dicK (s.ex _ _ h) r
  | dicT h r => exact .dicT (s.ex _ _ h) r
  | obj h r => exact .obj (s.ex _ _ h) r
  | fn x => exact .fn x
  | ty x => exact .ty x
  | scr h l => exact .scr (ex_l s.ex h) l
  | ref e =>
    rename_i n p
    cases hc : st[n]? with
    | none =>
      have q : AM.vw st (.ref n) = .ref n := by unfold AM.vw; simp only [hc]
      rw [q]
      exact .ref
    | some c =>
      have h := s.cell n c p hc e
      unfold AM.vw
      simp only [hc]
      cases c with
      | lst l => obtain ⟨vs, _, h1, r⟩ := h; exact .lst h1 r
      | dic l =>
        rcases h.2 with ⟨kvs, h1, r⟩ | ⟨kvs, h1, r⟩
        · exact .dicK h1 r
        · exact .dicT h1 r
      | obj c fs => obtain ⟨dx, vs, _, h1, r⟩ := h; exact .obj h1 r
      | pool n ns => exact .ref
      | dead => exact .ref
theorem Reps.vw {K : PySem.W.Frag} {G : Gh} {H : Hp} {st : S} (s : SS K G st H) : ∀ {ds : List D} {vs : List V}, Reps K G ds vs → Rvs K G H (ds.map (vw st)) vs
  | _, _, .nil => .nil
  | _, _, .cons h r => .cons (h.vw s) (Reps.vw s r)
/-! ### operations on values as they are seen -/
def Then1 (K : PySem.W.Frag) (G : Gh) (st : S) (H : Hp) (q : D → Prop) (Q : VK) : Prop := ∀ v d G2 H2, Post G H G2 H2 → SS K G2 st H2 → Rep K G2 d v → q d → Q v H2
abbrev O1 := D → (D → Prop) → Prop
abbrev O2 := D → D → (D → Prop) → Prop
abbrev ON := List D → (D → Prop) → Prop
def RefO (K : PySem.W.Frag) (r : R2) (f : O2) : Prop := ∀ G st H x y dx dy (Q : VK) (q : D → Prop), SS K G st H → Rv K G H dx x → Rv K G H dy y → f dx dy q → Then1 K G st H q Q → r x y H Q
def RefU (K : PySem.W.Frag) (r : V → Hp → VK → Prop) (f : O1) : Prop := ∀ G st H x dx (Q : VK) (q : D → Prop), SS K G st H → Rv K G H dx x → f dx q → Then1 K G st H q Q → r x H Q
def RefN (K : PySem.W.Frag) (r : List V → Hp → VK → Prop) (f : ON) : Prop := ∀ G st H xs ds (Q : VK) (q : D → Prop), SS K G st H → Rvs K G H ds xs → f ds q → Then1 K G st H q Q → r xs H Q
section
variable {K : PySem.W.Frag} {G : Gh} {H : Hp} {st : S} {q : D → Prop} {Q : VK}
theorem Then1.here {v : V} {d : D} (t : Then1 K G st H q Q) (s : SS K G st H) (r : Rep K G d v) (h : q d) : Q v H := t v d G H Post.refl s r h
theorem Then1.newL {vs : List V} {ds : List D} (t : Then1 K G st H q Q) (s : SS K G st H) (r : Reps K G ds vs) (h : q (.lst ds)) {p : Addr} (hp : H p = none) : Q (.ref p) (upd H p (.lst vs)) := by
  obtain ⟨s2, p2⟩ := s.new (o := .lst vs) hp
  exact t (.ref p) (.lst ds) _ _ p2 s2 (.lst upd_same (r.mono p2.le)) h
theorem Then1.newT {vs : List V} {ds : List D} (t : Then1 K G st H q Q) (s : SS K G st H) (r : Reps K G ds vs) (h : q (.tup ds)) {p : Addr} (hp : H p = none) : Q (.ref p) (upd H p (.tup vs)) := by
  obtain ⟨s2, p2⟩ := s.new (o := .tup vs) hp
  exact t (.ref p) (.tup ds) _ _ p2 s2 (.tup upd_same (r.mono p2.le)) h
end
/-! ### expressions -/
def aC (d : D) : AE := fun _ st q _ => q d st
def aVar (i : Nat) : AE := fun env st q _ => match env[i]? with
  | some (.d x) => q x st
  | _ => False
def aOp (f : O2) (a b : AE) : AE := fun env st q er => a env st (fun x s1 => b env s1 (fun y s2 => f (vw s2 x) (vw s2 y) fun z => q z s2) er) er
def aUn (f : O1) (a : AE) : AE := fun env st q er => a env st (fun x s1 => f (vw s1 x) fun z => q z s1) er
def aIf (t : AT) (a b : AE) : AE := fun env st q er => t env st (fun c s1 => if c = true then a env s1 q er else b env s1 q er) er
def aTest (a : AE) : AT := fun env st q er => a env st (fun x s1 => ∃ b, x = .bl b ∧ q b s1) er
def truthD : D → Option Bool
  | .non => some false
  | .bl b => some b
  | .int i => some (i != 0)
  | .str s => if s.length ≤ 100000 then some ((s.length : Int) != 0) else none
  | .lst l => some (!l.isEmpty)
  | .tup l => some (!l.isEmpty)
  | _ => none
def aTruth (a : AE) : AT := fun env st q er => a env st (fun x s1 => ∃ b, truthD (vw s1 x) = some b ∧ q b s1) er
def aAnd (t u : AT) : AT := fun env st q er => t env st (fun c s1 => if c = true then u env s1 q er else q false s1) er
def aOr (t u : AT) : AT := fun env st q er => t env st (fun c s1 => if c = true then q true s1 else u env s1 q er) er
def aNot (t : AT) : AT := fun env st q er => t env st (fun c s1 => q (!c) s1) er
def aAndV (a b : AE) : AE := fun env st q er => a env st (fun x s1 => ∃ c, x = .bl c ∧ if c = true then b env s1 q er else q (.bl false) s1) er
def aOrV (a b : AE) : AE := fun env st q er => a env st (fun x s1 => ∃ c, x = .bl c ∧ if c = true then q (.bl true) s1 else b env s1 q er) er
def aNotV (a : AE) : AE := fun env st q er => a env st (fun x s1 => ∃ c, x = .bl c ∧ q (.bl (!c)) s1) er
/-- a op b op' c -/
def aChain (f f' : O2) (a b c : AE) : AE := fun env st q er => a env st (fun x s1 => b env s1 (fun y s2 => f (vw s2 x) (vw s2 y) fun z => ∃ k, z = .bl k ∧ if k = true then c env s2 (fun w s3 => f' (vw s3 y) (vw s3 w) fun z => q z s3) er else q (.bl false) s2) er) er
abbrev AEs := List A → S → (List D → S → Prop) → QX → Prop
def aNil : AEs := fun _ st q _ => q [] st
def aCons (a : AE) (r : AEs) : AEs := fun env st q er => a env st (fun x s1 => r env s1 (fun xs s2 => q (x :: xs) s2) er) er
def aLst (as : AEs) : AE := fun env st q er => as env st (fun xs s1 => xs.length ≤ 100000 ∧ q (.lst xs) s1) er
def aTup (as : AEs) : AE := fun env st q er => as env st (fun xs s1 => xs.length ≤ 100000 ∧ q (.tup xs) s1) er
def aB (f : ON) (as : AEs) : AE := fun env st q er => as env st (fun xs s1 => f (xs.map (vw s1)) fun z => q z s1) er
def ThenA (K : PySem.W.Frag) (G : Gh) (H : Hp) (q : List D → S → Prop) (Q : List V → Hp → Prop) : Prop := ∀ vs ds st2 G2 H2, Post G H G2 H2 → SS K G2 st2 H2 → Reps K G2 ds vs → q ds st2 → Q vs H2
def RefA (K : PySem.W.Frag) (W : WX) (ta : TA) (aa : AEs) : Prop := ∀ G env st σ H (Q : List V → Hp → Prop) (q : List D → S → Prop) (er : QX), SS K G st H → Sl K G env σ → aa env st q er → ThenA K G H q Q → ThenX K W G H σ er → ta σ H Q
def AXA (X : Cx) (W : WX) (es : List Expr) (aa : AEs) : Prop := ∃ ta, PA X es ta ∧ RefA X.K W ta aa
section
variable {K : PySem.W.Frag} {W : WX} {ta tb tc te : TE} {aa ab ac : AE} {t u : TT} {xt xu : AT}
theorem refE_c {d : D} {v : V} (h : ∀ G, Rep K G d v) : RefE K W (tC v) (aC d) := fun G env st σ H Q q er s l a tE _ => tE v d st G H Post.refl s (h G) a
theorem refE_var (i : Nat) : RefE K W (tVar i) (aVar i) := fun G env st σ H Q q er s l a tE _ => by
  unfold aVar at a
  split at a
  · rename_i x e
    obtain ⟨u, eu, r⟩ := l.slot i _ e
    exact ⟨u, eu, tE u x st G H Post.refl s r a⟩
  · exact a.elim
theorem refE_op {r : R2} {f : O2} (ro : RefO K r f) (ha : RefE K W ta aa) (hb : RefE K W tb ab) : RefE K W (tOp r ta tb) (aOp f aa ab) := fun G env st σ H Q q er s l h tE tX => by
  refine ha G env st σ H _ _ er s l h (fun v d st1 G1 H1 p1 s1 r1 h1 => ?_) tX
  refine hb G1 env st1 σ H1 _ _ er s1 (l.mono p1.le) h1 (fun u d2 st2 G2 H2 p2 s2 r2 h2 => ?_) (tX.on p1)
  exact ro G2 st2 H2 v u _ _ Q _ s2 ((r1.mono p2.le).vw s2) (r2.vw s2) h2 fun w d3 G3 H3 p3 s3 r3 h3 => tE w d3 st2 G3 H3 ((p1.trans p2).trans p3) s3 r3 h3
theorem refE_chain {r r' : R2} {f f' : O2} (ro : RefO K r f) (ro' : RefO K r' f') (ha : RefE K W ta aa) (hb : RefE K W tb ab) (hc : RefE K W tc ac) : RefE K W (tChain r r' ta tb tc) (aChain f f' aa ab ac) := fun G env st σ H Q q er s l h tE tX => by
  refine ha G env st σ H _ _ er s l h (fun v d st1 G1 H1 p1 s1 r1 h1 => ?_) tX
  refine hb G1 env st1 σ H1 _ _ er s1 (l.mono p1.le) h1 (fun u d2 st2 G2 H2 p2 s2 r2 h2 => ?_) (tX.on p1)
  refine ro G2 st2 H2 v u _ _ _ _ s2 ((r1.mono p2.le).vw s2) (r2.vw s2) h2 fun w d3 G3 H3 p3 s3 r3 h3 => ?_
  obtain ⟨k, e, h3⟩ := h3
  subst e
  cases r3
  refine ⟨k, rfl, ?_⟩
  have p13 := (p1.trans p2).trans p3
  cases k with
  | false => exact tE _ _ st2 G3 H3 p13 s3 (.bl false) h3
  | true =>
    refine hc G3 env st2 σ H3 _ _ er s3 (l.mono p13.le) h3 (fun w d4 st4 G4 H4 p4 s4 r4 h4 => ?_) (tX.on p13)
    exact ro' G4 st4 H4 u w _ _ Q _ s4 (((r2.mono p3.le).mono p4.le).vw s4) (r4.vw s4) h4 fun w d5 G5 H5 p5 s5 r5 h5 => tE w d5 st4 G5 H5 ((p13.trans p4).trans p5) s5 r5 h5
theorem refE_un {r : V → Hp → VK → Prop} {f : O1} (ro : RefU K r f) (ha : RefE K W ta aa) : RefE K W (tUn r ta) (aUn f aa) := fun G env st σ H Q q er s l h tE tX => by
  refine ha G env st σ H _ _ er s l h (fun v d st1 G1 H1 p1 s1 r1 h1 => ?_) tX
  exact ro G1 st1 H1 v _ Q _ s1 (r1.vw s1) h1 fun w d3 G3 H3 p3 s3 r3 h3 => tE w d3 st1 G3 H3 (p1.trans p3) s3 r3 h3
theorem refT_test (ha : RefE K W ta aa) : RefT K W (tTest ta) (aTest aa) := fun G env st σ H Q q er s l h tT tX => by
  refine ha G env st σ H _ _ er s l h (fun v d st1 G1 H1 p1 s1 r1 ⟨b, e, h1⟩ => ?_) tX
  subst e
  cases r1
  exact ⟨b, rfl, tT b st1 G1 H1 p1 s1 h1⟩
theorem truth_ok {G : Gh} {H : Hp} {d : D} {v : V} {b : Bool} (r : Rv K G H d v) (h : truthD d = some b) : TruV K v H b := by
  cases r with
  | non => cases h; rfl
  | bl x => cases h; rfl
  | int i => cases h; rfl
  | str x =>
    have h' : (if x.length ≤ 100000 then some ((x.length : Int) != 0) else none) = some b := h
    by_cases hz : x.length ≤ 100000
    · rw [if_pos hz] at h'
      cases h'
      exact ⟨sz_of hz, rfl⟩
    · rw [if_neg hz] at h'
      cases h'
  | lst hs rs =>
    cases h
    refine .inl ⟨_, SqL.of hs, ?_⟩
    cases rs <;> rfl
  | tup hs rs _ =>
    cases h
    refine .inr (.inl ⟨_, SqT.of hs, ?_⟩)
    cases rs <;> rfl
  | _ => cases h
theorem refT_truth (ha : RefE K W ta aa) : RefT K W (fun σ H Q => ta σ H fun x H' => ∃ k, TruV K x H' k ∧ Q k H') (aTruth aa) := fun G env st σ H Q q er s l h tT tX => by
  refine ha G env st σ H _ _ er s l h (fun v d st1 G1 H1 p1 s1 r1 ⟨b, e, h1⟩ => ?_) tX
  exact ⟨b, truth_ok (r1.vw s1) e, tT b st1 G1 H1 p1 s1 h1⟩
theorem refT_and (ht : RefT K W t xt) (hu : RefT K W u xu) : RefT K W (tAnd t u) (aAnd xt xu) := fun G env st σ H Q q er s l h tT tX => by
  refine ht G env st σ H _ _ er s l h (fun b st1 G1 H1 p1 s1 h1 => ?_) tX
  cases b with
  | true => exact hu G1 env st1 σ H1 Q q er s1 (l.mono p1.le) h1 (tT.on p1) (tX.on p1)
  | false => exact tT false st1 G1 H1 p1 s1 h1
theorem refT_or (ht : RefT K W t xt) (hu : RefT K W u xu) : RefT K W (tOr t u) (aOr xt xu) := fun G env st σ H Q q er s l h tT tX => by
  refine ht G env st σ H _ _ er s l h (fun b st1 G1 H1 p1 s1 h1 => ?_) tX
  cases b with
  | false => exact hu G1 env st1 σ H1 Q q er s1 (l.mono p1.le) h1 (tT.on p1) (tX.on p1)
  | true => exact tT true st1 G1 H1 p1 s1 h1
theorem refT_not (ht : RefT K W t xt) : RefT K W (tNot t) (aNot xt) := fun G env st σ H Q q er s l h tT tX =>
  ht G env st σ H _ _ er s l h (fun b st1 G1 H1 p1 s1 h1 => tT (!b) st1 G1 H1 p1 s1 h1) tX
theorem refE_andV (ha : RefE K W ta aa) (hb : RefE K W tb ab) : RefE K W (tAndV ta tb) (aAndV aa ab) := fun G env st σ H Q q er s l h tE tX => by
  refine ha G env st σ H _ _ er s l h (fun v d st1 G1 H1 p1 s1 r1 ⟨b, e, h1⟩ => ?_) tX
  subst e
  cases r1
  refine ⟨b, rfl, ?_⟩
  cases b with
  | true => exact hb G1 env st1 σ H1 Q q er s1 (l.mono p1.le) h1 (tE.on p1) (tX.on p1)
  | false => exact tE _ _ st1 G1 H1 p1 s1 (.bl false) h1
theorem refE_orV (ha : RefE K W ta aa) (hb : RefE K W tb ab) : RefE K W (tOrV ta tb) (aOrV aa ab) := fun G env st σ H Q q er s l h tE tX => by
  refine ha G env st σ H _ _ er s l h (fun v d st1 G1 H1 p1 s1 r1 ⟨b, e, h1⟩ => ?_) tX
  subst e
  cases r1
  refine ⟨b, rfl, ?_⟩
  cases b with
  | false => exact hb G1 env st1 σ H1 Q q er s1 (l.mono p1.le) h1 (tE.on p1) (tX.on p1)
  | true => exact tE _ _ st1 G1 H1 p1 s1 (.bl true) h1
theorem refE_notV (ha : RefE K W ta aa) : RefE K W (tNotV ta) (aNotV aa) := fun G env st σ H Q q er s l h tE tX => by
  refine ha G env st σ H _ _ er s l h (fun v d st1 G1 H1 p1 s1 r1 ⟨b, e, h1⟩ => ?_) tX
  subst e
  cases r1
  exact ⟨b, rfl, tE _ _ st1 G1 H1 p1 s1 (.bl (!b)) h1⟩
theorem refE_if (ht : RefT K W t xt) (ha : RefE K W ta aa) (hb : RefE K W tb ab) : RefE K W (tIf t ta tb) (aIf xt aa ab) := fun G env st σ H Q q er s l h tE tX => by
  refine ht G env st σ H _ _ er s l h (fun b st1 G1 H1 p1 s1 h1 => ?_) tX
  cases b with
  | true => exact ha G1 env st1 σ H1 Q q er s1 (l.mono p1.le) h1 (tE.on p1) (tX.on p1)
  | false => exact hb G1 env st1 σ H1 Q q er s1 (l.mono p1.le) h1 (tE.on p1) (tX.on p1)
theorem refA_nil : RefA K W tNil aNil := fun G env st σ H Q q er s l h tA _ => tA [] [] st G H Post.refl s .nil h
theorem refA_cons {tr : TA} {ar : AEs} (ha : RefE K W ta aa) (hr : RefA K W tr ar) : RefA K W (tCons ta tr) (aCons aa ar) := fun G env st σ H Q q er s l h tA tX => by
  refine ha G env st σ H _ _ er s l h (fun v d st1 G1 H1 p1 s1 r1 h1 => ?_) tX
  exact hr G1 env st1 σ H1 _ _ er s1 (l.mono p1.le) h1 (fun vs ds st2 G2 H2 p2 s2 r2 h2 => tA _ _ st2 G2 H2 (p1.trans p2) s2 (.cons (r1.mono p2.le) r2) h2) (tX.on p1)
theorem refE_lst {tr : TA} {ar : AEs} (hr : RefA K W tr ar) : RefE K W (tLst tr) (aLst ar) := fun G env st σ H Q q er s l h tE tX =>
  hr G env st σ H _ _ er s l h (fun vs ds st1 G1 H1 p1 s1 r1 h1 => ⟨sz_of (by rw [← r1.length]; exact h1.1), fun p hp => by
    obtain ⟨s2, p2⟩ := s1.new (o := .lst vs) hp
    exact tE _ _ st1 _ _ (p1.trans p2) s2 (.lst upd_same (r1.mono p2.le)) h1.2⟩) tX
theorem refE_tup {tr : TA} {ar : AEs} (hr : RefA K W tr ar) : RefE K W (tTup tr) (aTup ar) := fun G env st σ H Q q er s l h tE tX =>
  hr G env st σ H _ _ er s l h (fun vs ds st1 G1 H1 p1 s1 r1 h1 => ⟨sz_of (by rw [← r1.length]; exact h1.1), fun p hp => by
    obtain ⟨s2, p2⟩ := s1.new (o := .tup vs) hp
    exact tE _ _ st1 _ _ (p1.trans p2) s2 (.tup upd_same (r1.mono p2.le)) h1.2⟩) tX
theorem refE_cb {r : List V → Hp → VK → Prop} {f : ON} {tr : TA} {ar : AEs} (rn : RefN K r f) (hr : RefA K W tr ar) : RefE K W (tCB r tr) (aB f ar) := fun G env st σ H Q q er s l h tE tX =>
  hr G env st σ H _ _ er s l h (fun vs ds st1 G1 H1 p1 s1 r1 h1 => rn G1 st1 H1 vs _ Q _ s1 (r1.vw s1) h1 fun w d3 G3 H3 p3 s3 r3 h3 => tE w d3 st1 G3 H3 (p1.trans p3) s3 r3 h3) tX
end
def CB (X : Cx) (f : Value) (b : ON) : Prop := ∃ r, CallR X f r ∧ RefN X.K r b
/-! ### the same over syntax -/
section
variable {X : Cx} {W : WX} {a b c e : Expr} {es : List Expr} {aa ab ac : AE} {xt xu : AT} {ar : AEs} {pos p : Pos} {x : Str}
theorem ax_var (i : Nat) {x : Str} {pos : Pos} (hN : X.N[i]? = some x := by rfl) (hv : Vis X.env.scope x := by first | exact Or.inl rfl | exact Or.inr (Or.inl rfl) | exact Or.inr (Or.inr rfl)) (hd : (x == ("__debug__" : Str)) = false := by decide) (hcd : (x == ("__classdict__" : Str)) = false := by decide) : AX X W (.Name x pos) (aVar i) :=
  ⟨_, pe_var hN hv hd hcd, refE_var i⟩
theorem ax_int {i : Int} {j : Nat} : AX X W (.Constant (.int i) j pos) (aC (.int i)) := ⟨_, pe_int, refE_c fun _ => .int i⟩
theorem ax_bl {i : Bool} {j : Nat} : AX X W (.Constant (.bool i) j pos) (aC (.bl i)) := ⟨_, pe_bl, refE_c fun _ => .bl i⟩
theorem ax_non {j : Nat} : AX X W (.Constant .none j pos) (aC .non) := ⟨_, pe_non, refE_c fun _ => .non⟩
theorem ax_str {i : Str} {j : Nat} : AX X W (.Constant (.str i) j pos) (aC (.str i)) := ⟨_, pe_str, refE_c fun _ => .str i⟩
theorem ax_op {op : Operator} {r : R2} {f : O2} (h : OpR X (binaryOp op) r ∧ RefO X.K r f) (ha : AX X W a aa) (hb : AX X W b ab) : AX X W (.BinOp a op b pos) (aOp f aa ab) := by
  obtain ⟨ta, pa, ra⟩ := ha
  obtain ⟨tb, pb, rb⟩ := hb
  exact ⟨_, pe_op h.1 pa pb, refE_op h.2 ra rb⟩
theorem ax_un {op : UnaryOp} {r : V → Hp → VK → Prop} {f : O1} (h : UnR X (unaryOp op) r ∧ RefU X.K r f) (ha : AX X W a aa) : AX X W (.UnaryOp op a pos) (aUn f aa) := by
  obtain ⟨ta, pa, ra⟩ := ha
  exact ⟨_, pe_un h.1 pa, refE_un h.2 ra⟩
theorem ax_cmp {op : CmpOp} {r : R2} {f : O2} (h : OpR X (compareOp op) r ∧ RefO X.K r f) (ha : AX X W a aa) (hb : AX X W b ab) (hm : behindInMarks op b = false := by first | exact nobehind _ (by decide) (by decide) | rfl) : AX X W (.Compare a [op] [b] pos) (aOp f aa ab) := by
  obtain ⟨ta, pa, ra⟩ := ha
  obtain ⟨tb, pb, rb⟩ := hb
  exact ⟨_, pe_cmpR h.1 pa pb hm, refE_op h.2 ra rb⟩
theorem axt_cmp {op : CmpOp} {r : R2} {f : O2} (h : OpR X (compareOp op) r ∧ RefO X.K r f) (ha : AX X W a aa) (hb : AX X W b ab) (hm : behindInMarks op b = false := by first | exact nobehind _ (by decide) (by decide) | rfl) : AXT X W (.Compare a [op] [b] pos) (aTest (aOp f aa ab)) := by
  obtain ⟨ta, pa, ra⟩ := ha
  obtain ⟨tb, pb, rb⟩ := hb
  exact ⟨_, pt_cmpR h.1 pa pb hm, refT_test (refE_op h.2 ra rb)⟩
/-- an expression as a test, by its truth -/
theorem axt_val (ha : AX X W a aa) (he : ∀ whole, isTrue a X.env whole = (do let v ← whole; standAt a.pos; holding [v] (truthy v)) := by intro _; rfl) : AXT X W a (aTruth aa) := by
  obtain ⟨ta, pa, ra⟩ := ha
  exact ⟨_, pt_truth pa he, refT_truth ra⟩
theorem axw_and1 (ha : AXT X W a xt) : AXW X W (.BoolOp .And [a] pos) xt := by
  obtain ⟨ta, pa, ra⟩ := ha
  exact ⟨_, pw_and1 pa, ra⟩
theorem axw_or1 (ha : AXT X W a xt) : AXW X W (.BoolOp .Or [a] pos) xt := by
  obtain ⟨ta, pa, ra⟩ := ha
  exact ⟨_, pw_or1 pa, ra⟩
theorem axw_and {rest : List Expr} (ha : AXT X W a xt) (hb : AXW X W (.BoolOp .And (b :: rest) pos) xu) : AXW X W (.BoolOp .And (a :: b :: rest) pos) (aAnd xt xu) := by
  obtain ⟨ta, pa, ra⟩ := ha
  obtain ⟨tb, pb, rb⟩ := hb
  exact ⟨_, pw_and pa pb, refT_and ra rb⟩
theorem axw_or {rest : List Expr} (ha : AXT X W a xt) (hb : AXW X W (.BoolOp .Or (b :: rest) pos) xu) : AXW X W (.BoolOp .Or (a :: b :: rest) pos) (aOr xt xu) := by
  obtain ⟨ta, pa, ra⟩ := ha
  obtain ⟨tb, pb, rb⟩ := hb
  exact ⟨_, pw_or pa pb, refT_or ra rb⟩
theorem axt_w (ha : AXW X W a xt) : AXT X W a xt := by
  obtain ⟨ta, pa, ra⟩ := ha
  exact ⟨_, pa.pt, ra⟩
theorem axt_not (ha : AXT X W a xt) : AXT X W (.UnaryOp .Not a pos) (aNot xt) := by
  obtain ⟨ta, pa, ra⟩ := ha
  exact ⟨_, pt_not pa, refT_not ra⟩
theorem ax_one {op : BoolOp} (ha : AX X W a aa) : AX X W (.BoolOp op [a] pos) aa := by
  obtain ⟨ta, pa, ra⟩ := ha
  exact ⟨_, pe_one pa, ra⟩
theorem ax_and {rest : List Expr} (ha : AX X W a aa) (hb : AX X W (.BoolOp .And (b :: rest) pos) ab) : AX X W (.BoolOp .And (a :: b :: rest) pos) (aAndV aa ab) := by
  obtain ⟨ta, pa, ra⟩ := ha
  obtain ⟨tb, pb, rb⟩ := hb
  exact ⟨_, pe_and pa pb, refE_andV ra rb⟩
theorem ax_or {rest : List Expr} (ha : AX X W a aa) (hb : AX X W (.BoolOp .Or (b :: rest) pos) ab) : AX X W (.BoolOp .Or (a :: b :: rest) pos) (aOrV aa ab) := by
  obtain ⟨ta, pa, ra⟩ := ha
  obtain ⟨tb, pb, rb⟩ := hb
  exact ⟨_, pe_or pa pb, refE_orV ra rb⟩
theorem ax_not (ha : AX X W a aa) : AX X W (.UnaryOp .Not a pos) (aNotV aa) := by
  obtain ⟨ta, pa, ra⟩ := ha
  exact ⟨_, pe_not pa, refE_notV ra⟩
theorem ax_chain {op op' : CmpOp} {r r' : R2} {f f' : O2} (h : OpR X (compareOp op) r ∧ RefO X.K r f) (h' : OpR X (compareOp op') r' ∧ RefO X.K r' f') (ha : AX X W a aa) (hb : AX X W b ab) (hc : AX X W c ac) (hm : lastMarks [op, op'] [b, c] = false := by with_unfolding_all rfl) : AX X W (.Compare a [op, op'] [b, c] pos) (aChain f f' aa ab ac) := by
  obtain ⟨ta, pa, ra⟩ := ha
  obtain ⟨tb, pb, rb⟩ := hb
  obtain ⟨tc, pc, rc⟩ := hc
  exact ⟨_, pe_chain h.1 h'.1 pa pb pc hm, refE_chain h.2 h'.2 ra rb rc⟩
theorem axt_chain {op op' : CmpOp} {r r' : R2} {f f' : O2} (h : OpR X (compareOp op) r ∧ RefO X.K r f) (h' : OpR X (compareOp op') r' ∧ RefO X.K r' f') (ha : AX X W a aa) (hb : AX X W b ab) (hc : AX X W c ac) (hm : lastMarks [op, op'] [b, c] = false := by with_unfolding_all rfl) : AXT X W (.Compare a [op, op'] [b, c] pos) (aTest (aChain f f' aa ab ac)) := by
  obtain ⟨ta, pa, ra⟩ := ha
  obtain ⟨tb, pb, rb⟩ := hb
  obtain ⟨tc, pc, rc⟩ := hc
  exact ⟨_, pt_chain h.1 h'.1 pa pb pc hm, refT_test (refE_chain h.2 h'.2 ra rb rc)⟩
theorem ax_if (hc : AXT X W c xt) (ha : AX X W a aa) (hb : AX X W b ab) : AX X W (.IfExp c a b pos) (aIf xt aa ab) := by
  obtain ⟨tc, pc, rc⟩ := hc
  obtain ⟨ta, pa, ra⟩ := ha
  obtain ⟨tb, pb, rb⟩ := hb
  exact ⟨_, pe_ifExp pc pa pb, refE_if rc ra rb⟩
theorem axa_nil : AXA X W [] aNil := ⟨_, pa_nil, refA_nil⟩
theorem axa_cons (ha : AX X W e aa) (hr : AXA X W es ar) (hs : starEach (e :: es) X.env = (false, eval e X.env) :: starEach es X.env := by rfl) : AXA X W (e :: es) (aCons aa ar) := by
  obtain ⟨ta, pa, ra⟩ := ha
  obtain ⟨tb, pb, rb⟩ := hr
  exact ⟨_, pa_cons pa pb hs, refA_cons ra rb⟩
theorem ax_lst (hr : AXA X W es ar) : AX X W (.List es pos) (aLst ar) := by
  obtain ⟨tb, pb, rb⟩ := hr
  exact ⟨_, pe_lst pb, refE_lst rb⟩
theorem ax_tup {k : Nat} (hr : AXA X W es ar) : AX X W (.Tuple es k pos) (aTup ar) := by
  obtain ⟨tb, pb, rb⟩ := hr
  exact ⟨_, pe_tup pb, refE_tup rb⟩
theorem ax_ix {r : R2} {f : O2} (h : IxR X r ∧ RefO X.K r f) (ha : AX X W a aa) (hb : AX X W b ab) (hs : PlainIx b := by exact fun _ _ => rfl) : AX X W (.Subscript a b pos) (aOp f aa ab) := by
  obtain ⟨ta, pa, ra⟩ := ha
  obtain ⟨tb, pb, rb⟩ := hb
  exact ⟨_, pe_ix h.1 pa pb hs, refE_op h.2 ra rb⟩
theorem ax_callB {f : ON} {id : String} (h : CB X (.builtin id) f) (hm : X.mg x = none) (hv : bootBuiltins x = some (.builtin id)) (ha : AXA X W (e :: es) ar) (hg : Gl X x := by rfl) (hn : x ≠ "__name__" := by decide) (hdb : (x == ("__debug__" : Str)) = false := by decide)
    (he : starEach (e :: es) X.env = (false, eval e X.env) :: starEach es X.env := by rfl) (hpl : (backTo pos (starEach es X.env)).any (·.1) = false := by rfl) : AX X W (.Call (.Name x p) (e :: es) [] pos) (aB f ar) := by
  obtain ⟨ta, pa, ra⟩ := ha
  obtain ⟨r, h1, h2⟩ := h
  exact ⟨_, pe_callB h1 hg hm hv pa hn hdb he hpl, refE_cb h2 ra⟩
theorem ax_callTy {f : ON} {T : String} (h : CB X (.type T) f) (hm : X.mg x = none) (hv : bootBuiltins x = some (.type T)) (ha : AXA X W (e :: es) ar) (hg : Gl X x := by rfl) (hn : x ≠ "__name__" := by decide) (hdb : (x == ("__debug__" : Str)) = false := by decide)
    (he : starEach (e :: es) X.env = (false, eval e X.env) :: starEach es X.env := by rfl) (hpl : (backTo pos (starEach es X.env)).any (·.1) = false := by rfl) : AX X W (.Call (.Name x p) (e :: es) [] pos) (aB f ar) := by
  obtain ⟨ta, pa, ra⟩ := ha
  obtain ⟨r, h1, h2⟩ := h
  exact ⟨_, pe_callTy h1 hg hm hv pa hn hdb he hpl, refE_cb h2 ra⟩
end
end AM
set_option Elab.async false
set_option linter.all false
set_option maxRecDepth 100000
set_option maxHeartbeats 4000000
namespace AM
open PySem L2 Evl
/-! ### targets -/
abbrev AG := D → List A → S → (List A → Prop) → Prop
abbrev AGs := List D → List A → S → (List A → Prop) → Prop
def ThenG (K : PySem.W.Frag) (G : Gh) (H : Hp) (q : List A → Prop) (Q : St → Hp → Prop) : Prop := ∀ env' σ', Sl K G env' σ' → q env' → Q σ' H
def RefG (K : PySem.W.Frag) (g : TG) (ag : AG) : Prop := ∀ G env st σ H d v (Q : St → Hp → Prop) (q : List A → Prop), SS K G st H → Sl K G env σ → Rep K G d v → ag d env st q → ThenG K G H q Q → g v σ H Q
def RefGs (K : PySem.W.Frag) (g : TGs) (ag : AGs) : Prop := ∀ G env st σ H ds vs (Q : St → Hp → Prop) (q : List A → Prop), SS K G st H → Sl K G env σ → Reps K G ds vs → ag ds env st q → ThenG K G H q Q → g vs σ H Q
def agName (i : Nat) : AG := fun d env _ q => q (env.set i (.d d))
def agNil : AGs := fun ds env _ q => ds = [] ∧ q env
def agCons (g : AG) (r : AGs) : AGs := fun ds env st q => match ds with
  | d :: ds => g d env st fun env' => r ds env' st q
  | [] => False
def agTup (n : Nat) (g : AGs) : AG := fun d env st q => match d with
  | .tup ds => ds.length = n ∧ g ds env st q
  | _ => False
section
variable {K : PySem.W.Frag} {g : TG} {ag : AG} {gs : TGs} {ags : AGs}
theorem refG_name (i : Nat) : RefG K (gName i) (agName i) := fun G env st σ H d v Q q s l r h t => t _ _ (l.set i r) h
theorem refGs_nil : RefGs K gNil agNil := fun G env st σ H ds vs Q q s l r h t => by
  obtain ⟨e, h⟩ := h
  subst e
  cases r
  exact ⟨rfl, t env σ l h⟩
theorem refGs_cons (h1 : RefG K g ag) (h2 : RefGs K gs ags) : RefGs K (gCons g gs) (agCons ag ags) := fun G env st σ H ds vs Q q s l r h t => by
  cases r with
  | nil => exact h.elim
  | cons r1 r2 =>
    refine ⟨_, _, rfl, ?_⟩
    exact h1 G env st σ H _ _ _ _ s l r1 h fun env' σ' l2 h2' => h2 G env' st σ' H _ _ Q q s l2 r2 h2' t
theorem refG_tup {n : Nat} (h : RefGs K gs ags) : RefG K (gTup K n gs) (agTup n ags) := fun G env st σ H d v Q q s l r h1 t => by
  cases r with
  | tup hs rs => exact ⟨_, _, rfl, SqT.of (s.ex _ _ hs), by rw [← rs.length]; exact h1.1, h G env st σ H _ _ Q q s l rs h1.2 t⟩
  | _ => exact h1.elim
end
def AXG (X : Cx) (e : Expr) (ag : AG) : Prop := ∃ g, PG X e g ∧ RefG X.K g ag
def AXGs (X : Cx) (es : List Expr) (ag : AGs) : Prop := ∃ g, PGs X es g ∧ RefGs X.K g ag
/-! ### statements -/
def sNext : AS := fun env st k => k.nx env st
def sSeq (a b : AS) : AS := fun env st k => a env st { k with nx := fun env' st' => b env' st' k }
def sBreak : AS := fun env st k => k.bk env st
def sCont : AS := fun env st k => k.ct env st
def sDrop (a : AE) : AS := fun env st k => a env st (fun _ s1 => k.nx env s1) (fun e s1 => k.er e env s1)
def sRet (a : AE) : AS := fun env st k => a env st (fun d s1 => k.rt (.d d) s1) (fun e s1 => k.er e env s1)
def sRetN : AS := fun env st k => k.rt (.d .non) st
def sIf (t : AT) (a b : AS) : AS := fun env st k => t env st (fun c s1 => if c = true then a env s1 k else b env s1 k) (fun e s1 => k.er e env s1)
def sAsg (a : AE) (g : AG) : AS := fun env st k => a env st (fun d s1 => g d env s1 fun env' => k.nx env' s1) (fun e s1 => k.er e env s1)
def sPar (i j : Nat) (as : AEs) : AS := fun env st k => as env st (fun ds s1 => match ds with
  | [x, y] => k.nx ((env.set i (.d x)).set j (.d y)) s1
  | _ => False) (fun e s1 => k.er e env s1)
def sAug (i : Nat) (f : O2) (a : AE) : AS := fun env st k => ∃ x, env[i]? = some (.d x) ∧ a env st (fun y s1 => f (vw s1 x) (vw s1 y) fun z => k.nx (env.set i (.d z)) s1) (fun e s1 => k.er e env s1)
def sNever : AS := fun _ _ _ => False
def sForL (gd : Gd) (g : AG) (b : AS) : List D → AS
  | [] => fun env st k => gdOk gd st ∧ k.nx env st
  | x :: xs => fun env st k => gdOk gd st ∧ g x env st fun e1 => b e1 st { k with nx := fun e2 s2 => sForL gd g b xs e2 s2 k, ct := fun e2 s2 => sForL gd g b xs e2 s2 k, bk := k.nx }
def sFor (it : AI) (g : AG) (b : AS) : AS := fun env st k => it env st (fun ds gd s1 => sForL gd g b ds env s1 k) (fun e s1 => k.er e env s1)
def sWhN (t : AT) (b : AS) : Nat → AS
  | 0 => fun _ _ _ => False
  | n + 1 => fun env st k => t env st (fun c s1 => if c = true then b env s1 { k with nx := fun e2 s2 => sWhN t b n e2 s2 k, ct := fun e2 s2 => sWhN t b n e2 s2 k, bk := k.nx } else k.nx env s1) (fun e s1 => k.er e env s1)
def sWhile (t : AT) (b : AS) : AS := fun env st k => ∃ n, sWhN t b n env st k
section
variable {K : PySem.W.Frag} {W : WX} {te : TE} {ae : AE} {ts tu : TS} {as bs : AS} {tt : TT} {xt : AT}
theorem refS_next : RefS K W tNext sNext := fun G env st σ H D k s l h t => t.nx env σ st G H Post.refl s l h
theorem refS_break : RefS K W tBreak sBreak := fun G env st σ H D k s l h t => t.bk env σ st G H Post.refl s l h
theorem refS_cont : RefS K W tCont sCont := fun G env st σ H D k s l h t => t.ct env σ st G H Post.refl s l h
theorem refS_never : RefS K W tNever sNever := fun G env st σ H D k s l h t => h.elim
theorem refS_seq (h1 : RefS K W ts as) (h2 : RefS K W tu bs) : RefS K W (tSeq ts tu) (sSeq as bs) := fun G env st σ H D k s l h t =>
  h1 G env st σ H _ _ s l h ⟨fun env' σ' st2 G2 H2 p2 s2 l2 q => h2 G2 env' st2 σ' H2 D k s2 l2 q (t.on p2), t.rt, t.bk, t.ct, t.er⟩
theorem refS_drop (he : RefE K W te ae) : RefS K W (tDrop te) (sDrop ae) := fun G env st σ H D k s l h t =>
  he G env st σ H _ _ _ s l h (fun v d st2 G2 H2 p2 s2 r2 q => t.nx env σ st2 G2 H2 p2 s2 (l.mono p2.le) q) (t.x l)
theorem refS_ret (he : RefE K W te ae) : RefS K W (tRet te) (sRet ae) := fun G env st σ H D k s l h t =>
  he G env st σ H _ _ _ s l h (fun v d st2 G2 H2 p2 s2 r2 q => t.rt v (.d d) st2 G2 H2 p2 s2 r2 q) (t.x l)
theorem refS_retN : RefS K W tRetN sRetN := fun G env st σ H D k s l h t => t.rt .non (.d .non) st G H Post.refl s Rep.non h
theorem refS_if (hc : RefT K W tt xt) (h1 : RefS K W ts as) (h2 : RefS K W tu bs) : RefS K W (tIfS tt ts tu) (sIf xt as bs) := fun G env st σ H D k s l h t =>
  hc G env st σ H _ _ _ s l h (fun b st2 G2 H2 p2 s2 q => by
    cases b with
    | true => exact h1 G2 env st2 σ H2 D k s2 (l.mono p2.le) q (t.on p2)
    | false => exact h2 G2 env st2 σ H2 D k s2 (l.mono p2.le) q (t.on p2)) (t.x l)
theorem refS_asg {g : TG} {ag : AG} (he : RefE K W te ae) (hg : RefG K g ag) : RefS K W (tAsg te g) (sAsg ae ag) := fun G env st σ H D k s l h t =>
  he G env st σ H _ _ _ s l h (fun v d st2 G2 H2 p2 s2 r2 q => hg G2 env st2 σ H2 d v _ _ s2 (l.mono p2.le) r2 q fun env3 σ3 l3 h3 => t.nx env3 σ3 st2 G2 H2 p2 s2 l3 h3) (t.x l)
theorem refS_par {i j : Nat} {ta : TA} {aa : AEs} (ha : RefA K W ta aa) : RefS K W (tPar i j ta) (sPar i j aa) := fun G env st σ H D k s l h t =>
  ha G env st σ H _ _ _ s l h (fun vs ds st2 G2 H2 p2 s2 r2 q => by
    match ds, r2, q with
    | [x, y], .cons r1 (.cons r3 .nil), q => exact ⟨_, _, rfl, t.nx _ _ st2 G2 H2 p2 s2 (((l.mono p2.le).set i r1).set j r3) q⟩) (t.x l)
theorem refS_aug {i : Nat} {ti : TIp} {f : O2} (he : RefE K W te ae) (ho : RefO K ti f) : RefS K W (tAug i te ti) (sAug i f ae) := fun G env st σ H D k s l h t => by
  obtain ⟨x, ex, h⟩ := h
  obtain ⟨u, eu, ru⟩ := l.slot i _ ex
  refine ⟨u, eu, he G env st σ H _ _ _ s l h (fun v d st2 G2 H2 p2 s2 r2 q => ?_) (t.x l)⟩
  exact ho G2 st2 H2 u v _ _ _ _ s2 ((ru.mono p2.le).vw s2) (r2.vw s2) q fun w d3 G3 H3 p3 s3 r3 h3 => t.nx _ _ st2 G3 H3 (p2.trans p3) s3 ((l.mono (p2.trans p3).le).set i r3) h3
def ForN (K : PySem.W.Frag) (gd : Gd) (ag : AG) (as : AS) (ds : List D) (k : AK) (G2 : Gh) (H2 : Hp) (i : Nat) : St → Hp → Prop := fun σ4 H4 => i ≤ ds.length ∧ ∃ G5 env5 st5, Post G2 H2 G5 H4 ∧ SS K G5 st5 H4 ∧ Sl K G5 env5 σ4 ∧ sForL gd ag as (ds.drop i) env5 st5 k
theorem sForL_gd {gd : Gd} {ag : AG} {as : AS} : ∀ {ds : List D} {env : List A} {st : S} {k : AK}, sForL gd ag as ds env st k → gdOk gd st
  | [], _, _, _, h => h.1
  | _ :: _, _, _, _, h => h.1
theorem refS_for {wi : TI} {ai : AI} {g : TG} {ag : AG} (hi : RefI K W wi ai) (hg : RefG K g ag) (hb : RefS K W ts as) : RefS K W (tFor wi g ts) (sFor ai ag as) := fun G env st σ H D k s l h t => by
  refine hi G env st σ H _ _ _ s l h (fun J ds gd st2 G2 H2 p2 s2 wk q => ?_) (t.x l)
  refine ⟨fun i m σ' H' => m = ds.length - i ∧ ForN K gd ag as ds k G2 H2 i σ' H', ⟨ds.length, by omega, Nat.zero_le _, G2, env, st2, Post.refl, s2, l.mono p2.le, q⟩, ?_⟩
  rintro i m σ' H' ⟨rfl, hle, G3, env3, st3, p3, s3, l3, f3⟩
  have gk := sForL_gd f3
  by_cases hlt : i < ds.length
  · refine .inr ⟨wk.go i G3 st3 H' p3.le s3 gk hlt, ForN K gd ag as ds k G2 H2 (i + 1), fun σ4 H4 h4 => ⟨ds.length - (i + 1), by omega, rfl, h4⟩, fun x H5 y => ?_⟩
    rw [List.drop_eq_getElem_cons hlt] at f3
    have hd : ds[i]? = some ds[i] := by simp [hlt]
    have turn : ∀ G6, Post G3 H' G6 H5 → SS K G6 st3 H5 → Rep K G6 ds[i] x → g x σ' H5 fun σ2 H2' => ts { D with nx := ForN K gd ag as ds k G2 H2 (i + 1), ct := ForN K gd ag as ds k G2 H2 (i + 1), bk := D.nx } σ2 H2' := fun G6 p6 s6 rr => by
      refine hg G6 env3 st3 σ' _ ds[i] x _ _ s6 (l3.mono p6.le) rr f3.2 fun env7 σ7 l7 h7 => ?_
      have p36 := p3.trans p6
      exact hb G6 env7 st3 σ7 H5 _ _ s6 l7 h7 ⟨fun env8 σ8 st8 G8 H8 p8 s8 l8 h8 => ⟨hlt, G8, env8, st8, p36.trans p8, s8, l8, h8⟩, (t.on (p2.trans p36)).rt,
        fun env8 σ8 st8 G8 H8 p8 s8 l8 => t.nx env8 σ8 st8 G8 H8 ((p2.trans p36).trans p8) s8 l8, fun env8 σ8 st8 G8 H8 p8 s8 l8 h8 => ⟨hlt, G8, env8, st8, p36.trans p8, s8, l8, h8⟩, (t.on (p2.trans p36)).er⟩
    rcases wk.yld i G3 st3 H' _ x H5 p3.le s3 gk hd y with ⟨e5, rr⟩ | ⟨p, xs, es, hp, e5, ex, ed, rs⟩
    · subst e5
      exact turn G3 Post.refl s3 rr
    · obtain ⟨s6, p6⟩ := s3.new (o := .tup xs) hp
      rw [← e5] at s6 p6
      refine turn _ p6 s6 ?_
      rw [ed, ex]
      exact .tup upd_same (rs.mono p6.le)
  · have e : i = ds.length := by omega
    subst e
    rw [List.drop_length] at f3
    exact .inl ⟨wk.stop _ G3 st3 H' p3.le s3 gk (Nat.le_refl _), t.nx env3 σ' st3 G3 H' (p2.trans p3) s3 l3 f3.2⟩
theorem refS_while (hc : RefT K W tt xt) (hb : RefS K W ts as) : RefS K W (tWhile tt ts) (sWhile xt as) := fun G env st σ H D k s l h t => by
  obtain ⟨n, h⟩ := h
  refine ⟨fun m σ' H' => ∃ G3 env3 st3, Post G H G3 H' ∧ SS K G3 st3 H' ∧ Sl K G3 env3 σ' ∧ sWhN xt as m env3 st3 k, ⟨n, G, env, st, Post.refl, s, l, h⟩, ?_⟩
  rintro m σ' H' ⟨G3, env3, st3, p3, s3, l3, f3⟩
  cases m with
  | zero => exact f3.elim
  | succ m =>
    refine hc G3 env3 st3 σ' H' _ _ _ s3 l3 f3 (fun b st4 G4 H4 p4 s4 h4 => ?_) ((t.on p3).x l3)
    have p34 := p3.trans p4
    cases b with
    | false => exact t.nx env3 σ' st4 G4 H4 p34 s4 (l3.mono p4.le) h4
    | true =>
      refine ⟨fun σ5 H5 => ∃ G5 env5 st5, Post G H G5 H5 ∧ SS K G5 st5 H5 ∧ Sl K G5 env5 σ5 ∧ sWhN xt as m env5 st5 k, fun σ5 H5 h5 => ⟨m, Nat.lt_succ_self m, h5⟩, ?_⟩
      exact hb G4 env3 st4 σ' H4 _ _ s4 (l3.mono p4.le) h4 ⟨fun env8 σ8 st8 G8 H8 p8 s8 l8 h8 => ⟨G8, env8, st8, p34.trans p8, s8, l8, h8⟩, (t.on p34).rt,
        fun env8 σ8 st8 G8 H8 p8 s8 l8 => t.nx env8 σ8 st8 G8 H8 (p34.trans p8) s8 l8, fun env8 σ8 st8 G8 H8 p8 s8 l8 h8 => ⟨G8, env8, st8, p34.trans p8, s8, l8, h8⟩, (t.on p34).er⟩
end
end AM
set_option Elab.async false
set_option linter.all false
set_option maxRecDepth 100000
set_option maxHeartbeats 4000000
namespace AM
open PySem L2 Evl
/-! ### the block's own slots -/
def wA : List Nat → List A → List A
  | [], env => env
  | v :: vs, env => (wA vs env).set v .no
theorem wA_length (env : List A) : ∀ vs, (wA vs env).length = env.length
  | [] => rfl
  | v :: vs => by unfold wA; rw [List.length_set, wA_length env vs]
theorem wA_get {env : List A} {j : Nat} {x : A} : ∀ {vs}, (wA vs env)[j]? = some x → (x = .no) ∨ (j ∉ vs ∧ env[j]? = some x)
  | [], h => .inr ⟨by simp, h⟩
  | v :: vs, h => by
    unfold wA at h
    rcases get_set h with ⟨rfl, rfl, _⟩ | ⟨hj, h⟩
    · exact .inl rfl
    · rcases wA_get h with h | ⟨h1, h2⟩
      · exact .inl h
      · exact .inr ⟨by simp only [List.mem_cons, not_or]; exact ⟨hj, h1⟩, h2⟩
theorem wipe_out' {σ : St} {j : Nat} : ∀ {vs}, j ∉ vs → (wipe σ vs)[j]? = σ[j]?
  | [], _ => rfl
  | v :: vs, n => by
    simp only [List.mem_cons, not_or] at n
    unfold wipe
    rw [List.getElem?_set_ne (Ne.symm n.1)]
    exact wipe_out' n.2
theorem wipe_in {σ : St} {j : Nat} : ∀ {vs}, j ∈ vs → j < σ.length → (wipe σ vs)[j]? = some none
  | v :: vs, n, hl => by
    unfold wipe
    by_cases hj : j = v
    · subst hj
      rw [List.getElem?_set_self (by rw [wipe_length]; exact hl)]
    · rw [List.getElem?_set_ne (Ne.symm hj)]
      exact wipe_in (by simpa [hj] using n) hl
theorem wipe_ext {σ τ : St} {vs : List Nat} (hl : σ.length = τ.length) (h : ∀ j, j ∉ vs → σ[j]? = τ[j]?) : wipe σ vs = wipe τ vs := by
  apply List.ext_getElem?
  intro j
  by_cases hj : j ∈ vs
  · by_cases hs : j < σ.length
    · rw [wipe_in hj hs, wipe_in hj (by omega)]
    · rw [List.getElem?_eq_none (by rw [wipe_length]; omega), List.getElem?_eq_none (by rw [wipe_length]; omega)]
  · rw [wipe_out' hj, wipe_out' hj]
    exact h j hj
theorem wipe_wipe {σ : St} {vs : List Nat} : wipe (wipe σ vs) vs = wipe σ vs := wipe_ext (wipe_length _ _) fun j hj => wipe_out' hj
theorem wipe_set {σ : St} {vs : List Nat} {i : Nat} {v : Option V} (h : i ∈ vs) : wipe (σ.set i v) vs = wipe σ vs := wipe_ext (by rw [List.length_set]) fun j hj => by
  rw [List.getElem?_set_ne]
  intro e
  exact hj (e ▸ h)
theorem Sl.wipe {K : PySem.W.Frag} {G : Gh} {env : List A} {σ : St} (s : Sl K G env σ) (vs : List Nat) : Sl K G (wA vs env) (L2.wipe σ vs) := by
  refine ⟨by rw [wA_length, wipe_length]; exact s.len, fun j x h => ?_⟩
  rcases wA_get h with rfl | ⟨n, h⟩
  · trivial
  · rw [wipe_out' n]
    exact s.slot j x h
/-! ### targets that keep to the block's names -/
def Stays (vs : List Nat) (g : TG) : Prop := ∀ v σ H Q Q' σ0, wipe σ vs = wipe σ0 vs → (∀ σ2 H2, wipe σ2 vs = wipe σ0 vs → Q σ2 H2 → Q' σ2 H2) → g v σ H Q → g v σ H Q'
def Stayss (vs : List Nat) (g : TGs) : Prop := ∀ v σ H Q Q' σ0, wipe σ vs = wipe σ0 vs → (∀ σ2 H2, wipe σ2 vs = wipe σ0 vs → Q σ2 H2 → Q' σ2 H2) → g v σ H Q → g v σ H Q'
theorem stays_name {vs : List Nat} {i : Nat} (h : i ∈ vs) : Stays vs (gName i) := fun v σ H Q Q' σ0 e k q => k _ _ ((wipe_set h).trans e) q
theorem stays_nil {vs : List Nat} : Stayss vs gNil := fun v σ H Q Q' σ0 e k q => ⟨q.1, k _ _ e q.2⟩
theorem stays_cons {vs : List Nat} {g : TG} {gs : TGs} (h1 : Stays vs g) (h2 : Stayss vs gs) : Stayss vs (gCons g gs) := fun v σ H Q Q' σ0 e k q => by
  obtain ⟨w, r, e1, q⟩ := q
  exact ⟨w, r, e1, h1 w σ H _ _ σ0 e (fun a b z q => h2 r a b Q Q' σ0 z k q) q⟩
theorem stays_tup {K : PySem.W.Frag} {vs : List Nat} {n : Nat} {gs : TGs} (h : Stayss vs gs) : Stays vs (gTup K n gs) := fun v σ H Q Q' σ0 e k q => by
  obtain ⟨a, xs, e1, h1, h2, q⟩ := q
  exact ⟨a, xs, e1, h1, h2, h xs σ H Q Q' σ0 e k q⟩
/-! ### a new list grows at P, beside the state -/
structure Bs (K : PySem.W.Frag) (P : Addr) (G : Gh) (H : Hp) (acc : List D) (G2 : Gh) (st2 : S) (H2 : Hp) : Prop where
  ss : SS K G2 st2 H2
  po : Post G H G2 H2
  new : H P = none
  na : P ∉ G2.as
  ng : G2.g P = none
  at_ : ∃ vs, H2 P = some (.lst vs) ∧ Reps K G2 acc vs
section
variable {K : PySem.W.Frag} {P : Addr} {G G2 G3 : Gh} {H H2 H3 : Hp} {st st2 st3 : S} {acc : List D}
theorem Bs.start (s : SS K G st H) (hP : H P = none) : Bs K P G H [] G st (upd H P (.lst [])) := by
  obtain ⟨s2, p2, na, ng⟩ := s.room (o := .lst []) hP
  exact ⟨s2, p2, hP, na, ng, [], upd_same, .nil⟩
theorem Bs.on (b : Bs K P G H acc G2 st2 H2) (p : Post G2 H2 G3 H3) (s3 : SS K G3 st3 H3) : Bs K P G H acc G3 st3 H3 := by
  obtain ⟨vs, e, r⟩ := b.at_
  refine ⟨s3, b.po.trans p, b.new, fun z => ?_, p.n P b.ng (ne_some e) b.na, vs, p.h P _ e b.na, r.mono p.le⟩
  rcases p.o P z with z | z
  · exact b.na z
  · rw [e] at z; cases z
theorem Bs.app (b : Bs K P G H acc G2 st2 H2) {d : D} {v : V} (r : Rep K G2 d v) (hl : acc.length < 100000) : ∃ vs, H2 P = some (.lst vs) ∧ vs.length < sizeLine ∧ Bs K P G H (acc ++ [d]) G2 st2 (upd H2 P (.lst (vs ++ [v]))) := by
  obtain ⟨vs, e, rs⟩ := b.at_
  refine ⟨vs, e, sz_lt (by rw [← rs.length]; exact hl), ⟨fun a o q => ?_, b.ss.len, b.ss.nd, fun n c p e1 e2 => (b.ss.cell n c p e1 e2).mono (Gh.le.refl _) (fun o q => ?_) (fun _ q => q)⟩, ⟨b.po.le, fun x o q k => ?_, b.po.n, b.po.o, fun x k => ?_⟩, b.new, b.na, b.ng, _, upd_same, rs.append (.one r)⟩
  · rw [upd_ne (fun z => by rw [z, b.ng] at q; cases q)]; exact b.ss.ex a o q
  · rw [upd_ne (mem_ne b.na (List.mem_of_getElem? e2))]; exact q
  · rw [upd_ne (live_ne b.new (ne_some q))]; exact b.po.h x o q k
  · by_cases h : x = P
    · subst h; rw [upd_same]; exact fun z => nomatch z
    · rw [upd_ne h]; exact b.po.m x k
theorem Bs.own (b : Bs K P G H acc G2 st2 H2) : ResOk K H G2 H2 (.own acc) (.ref P) := by
  obtain ⟨vs, e, rs⟩ := b.at_
  exact ⟨P, vs, rfl, e, b.ng, b.na, b.new, rs⟩
/-- a result that nobody holds is frozen -/
theorem own_frz {l : List D} {v : V} (s : SS K G2 st2 H2) (po : Post G H G2 H2) (h : ResOk K H G2 H2 (.own l) v) : ∃ G3, SS K G3 st2 H2 ∧ Post G H G3 H2 ∧ Rep K G3 (.lst l) v := by
  obtain ⟨p, vs, rfl, e, gp, np, hn, rs⟩ := h
  obtain ⟨s3, le⟩ := s.freeze e gp np
  exact ⟨_, s3, po.freeze gp hn, .lst upd_same (rs.mono le)⟩
/-- .. becomes a cell -/
theorem own_cell {l : List D} {v : V} (s : SS K G2 st2 H2) (po : Post G H G2 H2) (h : ResOk K H G2 H2 (.own l) v) : ∃ G3, SS K G3 (st2 ++ [.lst l]) H2 ∧ Post G H G3 H2 ∧ Rep K G3 (.ref st2.length) v := by
  obtain ⟨p, vs, rfl, e, gp, np, hn, rs⟩ := h
  refine ⟨_, s.cellOf (c := .lst l) np ⟨vs, gp, e, rs.mono le_cell⟩, po.cellOf hn, .ref ?_⟩
  rw [← s.len, List.getElem?_append_right (Nat.le_refl _), Nat.sub_self]
  rfl
end
/-! ### comprehensions -/
def aLcL (gd : Gd) (g : AG) (t : AT) (e : AE) (env : List A) (q : List D → S → Prop) : List D → List D → S → Prop
  | [], acc, st => gdOk gd st ∧ q acc st
  | x :: xs, acc, st => gdOk gd st ∧ g x env st fun e1 => t e1 st (fun b s2 => if b = true then e e1 s2 (fun y s3 => acc.length < 100000 ∧ aLcL gd g t e env q xs (acc ++ [y]) s3) (fun _ _ => False) else aLcL gd g t e env q xs acc s2) (fun _ _ => False)
def aLc2L (gd : Gd) (g : AG) (t : AT) (it1 : AI) (g1 : AG) (t1 : AT) (e : AE) (vs1 : List Nat) (env : List A) (q : List D → S → Prop) : List D → List D → S → Prop
  | [], acc, st => gdOk gd st ∧ q acc st
  | x :: xs, acc, st => gdOk gd st ∧ g x env st fun e1 => t e1 st (fun b s2 => if b = true then it1 e1 s2 (fun ds1 gd1 s3 => aLcL gd1 g1 t1 e (wA vs1 e1) (fun acc' s4 => aLc2L gd g t it1 g1 t1 e vs1 env q xs acc' s4) ds1 acc s3) (fun _ _ => False) else aLc2L gd g t it1 g1 t1 e vs1 env q xs acc s2) (fun _ _ => False)
/-- a fresh list -/
abbrev AFr := List A → S → (List D → S → Prop) → QX → Prop
def fLc (it : AI) (g : AG) (t : AT) (e : AE) (vs : List Nat) : AFr := fun env st q er => it env st (fun ds gd s1 => aLcL gd g t e (wA vs env) q ds [] s1) er
def fLc2 (it : AI) (g : AG) (t : AT) (it1 : AI) (g1 : AG) (t1 : AT) (e : AE) (vs vs1 : List Nat) : AFr := fun env st q er => it env st (fun ds gd s1 => aLc2L gd g t it1 g1 t1 e vs1 (wA vs env) q ds [] s1) er
def aFr (f : AFr) : AE := fun env st q er => f env st (fun l s1 => q (.lst l) s1) er
def ThenF (K : PySem.W.Frag) (G : Gh) (H : Hp) (q : List D → S → Prop) (Q : VK) : Prop := ∀ v l st2 G2 H2, Post G H G2 H2 → SS K G2 st2 H2 → ResOk K H G2 H2 (.own l) v → q l st2 → Q v H2
def RefF (K : PySem.W.Frag) (W : WX) (te : TE) (af : AFr) : Prop := ∀ G env st σ H (Q : VK) (q : List D → S → Prop) (er : QX), SS K G st H → Sl K G env σ → af env st q er → ThenF K G H q Q → ThenX K W G H σ er → te σ H Q
def AXF (X : Cx) (W : WX) (e : Expr) (af : AFr) : Prop := ∃ te, PE X e te ∧ RefF X.K W te af
theorem RefF.e {K : PySem.W.Frag} {W : WX} {te : TE} {af : AFr} (h : RefF K W te af) : RefE K W te (aFr af) := fun G env st σ H Q q er s l a tE tX =>
  h G env st σ H Q _ er s l a (fun v ds st2 G2 H2 p2 s2 r2 h2 => by
    obtain ⟨G3, s3, p3, r3⟩ := own_frz s2 p2 r2
    exact tE v _ st2 G3 H2 p3 s3 r3 h2) tX
def W0 : WX := fun _ _ _ _ => False
theorem stay_g {K : PySem.W.Frag} {g : TG} {ag : AG} {vs : List Nat} (hg : RefG K g ag) (hs : Stays vs g) {G : Gh} {env : List A} {st : S} {σ : St} {H : Hp} {d : D} {v : V} (s : SS K G st H) (l : Sl K G env (wipe σ vs)) (r : Rep K G d v) {N : List A → Prop} (h : ag d env st N) {Q : St → Hp → Prop}
    (k : ∀ env7 σ7, wipe σ7 vs = wipe σ vs → Sl K G env7 σ7 → N env7 → Q σ7 H) : g v (wipe σ vs) H (fun σ2 H2 => wipe σ2 vs = wipe σ vs ∧ Q σ2 H2) :=
  hs v _ H (fun σ7 H7 => ∃ env7, H7 = H ∧ Sl K G env7 σ7 ∧ N env7) _ σ wipe_wipe (fun σ7 H7 hw ⟨env7, e7, l7, h7⟩ => ⟨hw, by rw [e7]; exact k env7 σ7 hw l7 h7⟩) (hg G env st (wipe σ vs) H d v _ _ s l r h fun env7 σ7 l7 h7 => ⟨env7, rfl, l7, h7⟩)
/-- one loop with its list: whoever has the list at the end goes on with it -/
theorem lc_walk {K : PySem.W.Frag} {g : TG} {ag : AG} {tt : TT} {xt : AT} {te : TE} {ae : AE} {vs : List Nat} (hg : RefG K g ag) (hs : Stays vs g) (ht : RefT K W0 tt xt) (he : RefE K W0 te ae)
    {P : Addr} {G G2 : Gh} {H H2 : Hp} {acc : List D} {st2 : S} {env : List A} {σ : St} (b0 : Bs K P G H acc G2 st2 H2) (l : Sl K G2 env (wipe σ vs)) {J : It} {ds : List D} {gd : Gd} (wk : Walks K G2 J ds gd) {q : List D → S → Prop} (h : aLcL gd ag xt ae env q ds acc st2) (Fin : Hp → Prop)
    (fin : ∀ acc G3 st3 H3, Bs K P G H acc G3 st3 H3 → G2.le G3 → q acc st3 → Fin H3) :
    ∃ W : Nat → Nat → Hp → Prop, (∃ m, W 0 m H2) ∧ ∀ i m H, W i m H →
      (J.stop i H ∧ Fin H) ∨ (J.go i H ∧ ∃ Nx : Hp → Prop, (∀ H', Nx H' → ∃ m', m' < m ∧ W (i + 1) m' H') ∧ ∀ x H', J.yld i H x H' → g x (wipe σ vs) H' fun σ2 H2 => wipe σ2 vs = wipe σ vs ∧ tt σ2 H2 fun b H3 =>
        if b = true then te σ2 H3 fun y H4 => ∃ acc, H4 P = some (.lst acc) ∧ acc.length < sizeLine ∧ Nx (upd H4 P (.lst (acc ++ [y]))) else Nx H3) := by
  have gk : ∀ {ds acc st}, aLcL gd ag xt ae env q ds acc st → gdOk gd st := fun {ds acc st} h => by cases ds <;> exact h.1
  let Inv : Nat → Hp → Prop := fun i H' => i ≤ ds.length ∧ ∃ acc G3 st3, Bs K P G H acc G3 st3 H' ∧ G2.le G3 ∧ aLcL gd ag xt ae env q (ds.drop i) acc st3
  refine ⟨fun i m H' => m = ds.length - i ∧ Inv i H', ⟨ds.length, by omega, Nat.zero_le _, acc, G2, st2, b0, Gh.le.refl _, h⟩, ?_⟩
  rintro i m H' ⟨rfl, hle, acc, G3, st3, b3, le3, f3⟩
  have s3 := b3.ss
  have k3 := gk f3
  by_cases hlt : i < ds.length
  · refine .inr ⟨wk.go i G3 st3 H' le3 s3 k3 hlt, Inv (i + 1), fun H4 h4 => ⟨ds.length - (i + 1), by omega, rfl, h4⟩, fun x H5 y => ?_⟩
    rw [List.drop_eq_getElem_cons hlt] at f3
    have hd : ds[i]? = some ds[i] := by simp [hlt]
    have turn : ∀ G6, Post G3 H' G6 H5 → SS K G6 st3 H5 → Rep K G6 ds[i] x → g x (wipe σ vs) H5 fun σ2 H2 => wipe σ2 vs = wipe σ vs ∧ tt σ2 H2 fun b H3 =>
        if b = true then te σ2 H3 fun y H4 => ∃ acc, H4 P = some (.lst acc) ∧ acc.length < sizeLine ∧ Inv (i + 1) (upd H4 P (.lst (acc ++ [y]))) else Inv (i + 1) H3 := fun G6 p6 s6 rr => by
      have b6 := b3.on p6 s6
      have le6 := le3.trans p6.le
      refine stay_g hg hs s6 (l.mono le6) rr f3.2 fun env7 σ7 hw l7 h7 => ?_
      refine ht G6 env7 st3 σ7 H5 _ _ _ s6 l7 h7 (fun bb st8 G8 H8 p8 s8 h8 => ?_) ThenX.none
      cases bb with
      | false => exact ⟨hlt, acc, G8, st8, b6.on p8 s8, le6.trans p8.le, h8⟩
      | true =>
        refine he G8 env7 st8 σ7 H8 _ _ _ s8 (l7.mono p8.le) h8 (fun w d st9 G9 H9 p9 s9 r9 h9 => ?_) ThenX.none
        obtain ⟨us, e1, e2, e3⟩ := (b6.on (p8.trans p9) s9).app r9 h9.1
        exact ⟨us, e1, e2, hlt, acc ++ [d], G9, st9, e3, le6.trans (p8.trans p9).le, h9.2⟩
    rcases wk.yld i G3 st3 H' _ x H5 le3 s3 k3 hd y with ⟨e5, rr⟩ | ⟨p, xs, es, hp, e5, ex, ed, rs⟩
    · subst e5
      exact turn G3 Post.refl s3 rr
    · obtain ⟨s6, p6⟩ := s3.new (o := .tup xs) hp
      rw [← e5] at s6 p6
      refine turn _ p6 s6 ?_
      rw [ed, ex]
      exact .tup upd_same (rs.mono p6.le)
  · have e : i = ds.length := by omega
    subst e
    rw [List.drop_length] at f3
    exact .inl ⟨wk.stop _ G3 st3 H' le3 s3 k3 (Nat.le_refl _), fin acc G3 st3 H' b3 le3 f3.2⟩
theorem refF_lc {K : PySem.W.Frag} {W : WX} {wi : TI} {ai : AI} {g : TG} {ag : AG} {tt : TT} {xt : AT} {te : TE} {ae : AE} {vs : List Nat} (hi : RefI K W wi ai) (hg : RefG K g ag) (hs : Stays vs g) (ht : RefT K W0 tt xt) (he : RefE K W0 te ae) :
    RefF K W (tLc wi g tt te vs) (fLc ai ag xt ae vs) := fun G env st σ H Q q er s l h tE tX => by
  refine hi G env st σ H _ _ er s l h (fun J ds gd st2 G2 H2 p2 s2 wk h2 => ?_) tX
  exact fun P hP => lc_walk hg hs ht he (Bs.start s2 hP) ((l.mono p2.le).wipe vs) wk h2 (fun H' => Q (.ref P) H') fun acc G3 st3 H3 b3 _ q3 =>
    tE _ acc st3 G3 H3 (p2.trans b3.po) b3.ss (b3.own.on p2) q3
theorem refF_lc2 {K : PySem.W.Frag} {W : WX} {wi wi1 : TI} {ai ai1 : AI} {g g1 : TG} {ag ag1 : AG} {tt tt1 : TT} {xt xt1 : AT} {te : TE} {ae : AE} {vs vs1 : List Nat} (hi : RefI K W wi ai) (hg : RefG K g ag) (hs : Stays vs g) (ht : RefT K W0 tt xt) (hi1 : RefI K W0 wi1 ai1) (hg1 : RefG K g1 ag1) (hs1 : Stays vs1 g1) (ht1 : RefT K W0 tt1 xt1) (he : RefE K W0 te ae) :
    RefF K W (tLc2 wi g tt wi1 g1 tt1 te vs vs1) (fLc2 ai ag xt ai1 ag1 xt1 ae vs vs1) := fun G env st σ H Q q er s l h tE tX => by
  refine hi G env st σ H _ _ er s l h (fun J ds gd st2 G2 H2 p2 s2 wk h2 => ?_) tX
  intro P hP
  have b0 := Bs.start s2 hP
  have l0 := (l.mono p2.le).wipe vs
  have gk : ∀ {ds acc st}, aLc2L gd ag xt ai1 ag1 xt1 ae vs1 (wA vs env) q ds acc st → gdOk gd st := fun {ds acc st} h => by cases ds <;> exact h.1
  let Inv : Nat → Hp → Prop := fun i H' => i ≤ ds.length ∧ ∃ acc G3 st3, Bs K P G2 H2 acc G3 st3 H' ∧ G2.le G3 ∧ aLc2L gd ag xt ai1 ag1 xt1 ae vs1 (wA vs env) q (ds.drop i) acc st3
  refine ⟨fun i m H' => m = ds.length - i ∧ Inv i H', ⟨ds.length, by omega, Nat.zero_le _, [], G2, st2, b0, Gh.le.refl _, h2⟩, ?_⟩
  rintro i m H' ⟨rfl, hle, acc, G3, st3, b3, le3, f3⟩
  have s3 := b3.ss
  have k3 := gk f3
  by_cases hlt : i < ds.length
  · refine .inr ⟨wk.go i G3 st3 H' le3 s3 k3 hlt, Inv (i + 1), fun H4 h4 => ⟨ds.length - (i + 1), by omega, rfl, h4⟩, fun x H5 y => ?_⟩
    rw [List.drop_eq_getElem_cons hlt] at f3
    have hd : ds[i]? = some ds[i] := by simp [hlt]
    have turn : ∀ G6, Post G3 H' G6 H5 → SS K G6 st3 H5 → Rep K G6 ds[i] x → g x (wipe σ vs) H5 fun σ2 H2 => wipe σ2 vs = wipe σ vs ∧ tt σ2 H2 fun b H3 =>
        if b = true then wi1 σ2 H3 fun J1 H4 => ∃ W1 : Nat → Nat → Hp → Prop, (∃ m, W1 0 m H4) ∧ ∀ j k H, W1 j k H →
          (J1.stop j H ∧ Inv (i + 1) H) ∨ (J1.go j H ∧ ∃ Nx1 : Hp → Prop, (∀ H', Nx1 H' → ∃ k', k' < k ∧ W1 (j + 1) k' H') ∧ ∀ x H', J1.yld j H x H' → g1 x (wipe σ2 vs1) H' fun σ3 H5 => wipe σ3 vs1 = wipe σ2 vs1 ∧ tt1 σ3 H5 fun b H6 =>
            if b = true then te σ3 H6 fun y H7 => ∃ acc, H7 P = some (.lst acc) ∧ acc.length < sizeLine ∧ Nx1 (upd H7 P (.lst (acc ++ [y]))) else Nx1 H6)
        else Inv (i + 1) H3 := fun G6 p6 s6 rr => by
      have b6 := b3.on p6 s6
      have le6 := le3.trans p6.le
      refine stay_g hg hs s6 (l0.mono le6) rr f3.2 fun env7 σ7 hw l7 h7 => ?_
      refine ht G6 env7 st3 σ7 H5 _ _ _ s6 l7 h7 (fun bb st8 G8 H8 p8 s8 h8 => ?_) ThenX.none
      cases bb with
      | false => exact ⟨hlt, acc, G8, st8, b6.on p8 s8, le6.trans p8.le, h8⟩
      | true =>
        refine hi1 G8 env7 st8 σ7 H8 _ _ _ s8 (l7.mono p8.le) h8 (fun J1 ds1 gd1 st9 G9 H9 p9 s9 wk9 h9 => ?_) ThenX.none
        exact lc_walk hg1 hs1 ht1 he ((b6.on p8 s8).on p9 s9) ((l7.mono (p8.trans p9).le).wipe vs1) wk9 h9 (Inv (i + 1)) fun acc' G10 st10 H10 b10 le10 q10 => ⟨hlt, acc', G10, st10, b10, (le6.trans (p8.trans p9).le).trans le10, q10⟩
    rcases wk.yld i G3 st3 H' _ x H5 le3 s3 k3 hd y with ⟨e5, rr⟩ | ⟨p, xs, es, hp, e5, ex, ed, rs⟩
    · subst e5
      exact turn G3 Post.refl s3 rr
    · obtain ⟨s6, p6⟩ := s3.new (o := .tup xs) hp
      rw [← e5] at s6 p6
      refine turn _ p6 s6 ?_
      rw [ed, ex]
      exact .tup upd_same (rs.mono p6.le)
  · have e : i = ds.length := by omega
    subst e
    rw [List.drop_length] at f3
    exact .inl ⟨wk.stop _ G3 st3 H' le3 s3 k3 (Nat.le_refl _), tE _ acc st3 G3 H' (p2.trans b3.po) s3 (b3.own.on p2) f3.2⟩
end AM
set_option Elab.async false
set_option linter.all false
set_option maxRecDepth 100000
set_option maxHeartbeats 4000000
namespace AM
open PySem L2 Evl
/-! ### a def by data -/
abbrev AF := List D → S → (Rs → S → Prop) → QX → Prop
def SpA (K : PySem.W.Frag) (m : AF) : Sp := fun vs H Q E => ∃ G st args q er, SS K G st H ∧ Reps K G args vs ∧ m args st q er ∧
  (∀ v r st2 G2 H2, Post G H G2 H2 → SS K G2 st2 H2 → ResOk K H G2 H2 r v → q r st2 → Q v H2) ∧
  ∀ e c dx st2 G2 H2, Post G H G2 H2 → SS K G2 st2 H2 → ErAt K G2 e c dx → er e st2 → E c dx H2
def Rs.lt (k : Nat) : Rs → Prop
  | .d x => x.lt k
  | .own l => ltL k l
/-- how a def is left: the store stays as it is -/
def fnP (np ns : Nat) (b : AS) : AF := fun args st q er => args.length = np ∧ b (args.map .d ++ List.replicate (ns - np) .no) st ⟨fun _ s => q (.d .non) s, q, fun _ _ => False, fun _ _ => False, fun e _ s => er e s⟩
/-- .. its own cells are left away; a list of its own may be handed on -/
def exC (k : Nat) (q : Rs → S → Prop) (r : Rs) (s : S) : Prop := ltS k (s.take k) ∧ ((r.lt k ∧ q r (s.take k)) ∨ ∃ n l, r = .d (.ref n) ∧ k ≤ n ∧ s[n]? = some (.lst l) ∧ ltL k l ∧ q (.own l) (s.take k))
def fnC (np ns : Nat) (b : AS) : AF := fun args st q er => args.length = np ∧ (ltL st.length args → ltS st.length st → b (args.map .d ++ List.replicate (ns - np) .no) st ⟨fun _ s => exC st.length q (.d .non) s, exC st.length q, fun _ _ => False, fun _ _ => False, fun e _ s => e.lt st.length ∧ ltS st.length (s.take st.length) ∧ er e (s.take st.length)⟩)
theorem get_pad {α : Type} {l : List α} {n i : Nat} {a x : α} (h : (l ++ List.replicate n a)[i]? = some x) : l[i]? = some x ∨ (x = a ∧ l.length ≤ i) := by
  by_cases hi : i < l.length
  · rw [List.getElem?_append_left hi] at h
    exact .inl h
  · rw [List.getElem?_append_right (by omega), List.getElem?_replicate] at h
    split at h
    · exact .inr ⟨(Option.some.inj h).symm, by omega⟩
    · cases h
theorem Reps.sl {K : PySem.W.Frag} {G : Gh} {args : List D} {vs : List V} (r : Reps K G args vs) (n : Nat) : Sl K G (args.map .d ++ List.replicate n .no) (vs.map some ++ List.replicate n none) := by
  refine ⟨by simp [r.length], fun i x h => ?_⟩
  rcases get_pad h with h | ⟨rfl, _⟩
  · rw [List.getElem?_map] at h
    cases hh : args[i]? with
    | none => rw [hh] at h; cases h
    | some d =>
      rw [hh] at h
      cases h
      obtain ⟨v, hv, rv⟩ := r.get hh
      refine ⟨v, ?_, rv⟩
      rw [List.getElem?_append_left (by rw [List.length_map]; exact (List.getElem?_eq_some_iff.mp hv).1), List.getElem?_map, hv]
      rfl
  · trivial
/-! ### contexts -/
theorem takesN0 {X : Cx} : L2N.Takes X (fun _ _ _ _ => False) := fun _ _ x => by
  obtain ⟨_, _, _, _, _, _, _, _, _, _, _, _, _, _, _, _, w⟩ := x
  exact w.elim
structure CxE (X : Cx) (W : WX) (k : Nat) : Prop where
  calm : X.calm = true
  nd : X.N.Nodup
  room : Room k X.A
  takes : L2N.Takes X W
structure CxS (X : Cx) (W : WX) (k : Nat) : Prop extends CxE X W k where
  po : PassesOwn (model X.prog X.w) X.A X.env X.xe
  stk : X.stack = X.env :: X.outer
  frm : X.env.frame = some X.env.locals
theorem CxE.mono {X : Cx} {W : WX} {j k : Nat} (c : CxE X W k) (h : j ≤ k) : CxE X W j := ⟨c.calm, c.nd, c.room.mono h, c.takes⟩
theorem CxS.mono {X : Cx} {W : WX} {j k : Nat} (c : CxS X W k) (h : j ≤ k) : CxS X W j := ⟨c.toCxE.mono h, c.po, c.stk, c.frm⟩
theorem CxE.blk {X : Cx} {W : WX} {k : Nat} (c : CxE X W k) (s : Shared) (H : Hp) (scope : Scope) (ce : Env) (fp : List Addr) : CxE (X.blk s H scope ce fp) W0 k := ⟨c.calm, c.nd, c.room, takesN0⟩
abbrev dE (E : XK) : WX := fun c d _ H => E c d H
/-- a body leads to a promise -/
structure Leads (np ns : Nat) (b : AS) (m : AF) : Prop where
  ar : ∀ args st q er, m args st q er → args.length = np
  run : ∀ {K : PySem.W.Frag} {G : Gh} {st : S} {H : Hp} {args : List D} {q : Rs → S → Prop} {er : QX} {Q : VK} {E : XK} {vs : List V}, SS K G st H → Reps K G args vs → m args st q er →
    (∀ v r st2 G2 H2, Post G H G2 H2 → SS K G2 st2 H2 → ResOk K H G2 H2 r v → q r st2 → Q v H2) → (∀ e c dx st2 G2 H2, Post G H G2 H2 → SS K G2 st2 H2 → ErAt K G2 e c dx → er e st2 → E c dx H2) →
    ∃ k, b (args.map .d ++ List.replicate (ns - np) .no) st k ∧ ThenS K (dE E) G H k { nx := fun _ H' => Q .non H', rt := Q }
theorem leadsP {np ns : Nat} {b : AS} : Leads np ns b (fnP np ns b) := ⟨fun _ _ _ _ h => h.1, fun {K G st H args q er Q E vs} s r m hq he => ⟨_, m.2, fun env' σ' st2 G2 H2 p2 s2 l2 h => hq .non (.d .non) st2 G2 H2 p2 s2 Rep.non h, hq, fun _ _ _ _ _ _ _ _ z => z.elim, fun _ _ _ _ _ _ _ _ z => z.elim, fun e c dx env' σ' st2 G2 H2 p2 s2 l2 ea h => he e c dx st2 G2 H2 p2 s2 ea h⟩⟩
theorem leadsC {np ns : Nat} {b : AS} : Leads np ns b (fnC np ns b) := ⟨fun _ _ _ _ h => h.1, fun {K G st H args q er Q E vs} s r m hq he => by
  have ka : G.as.length = st.length := s.len
  have la : ltL st.length args := by rw [← ka]; exact r.lt
  have rt : ∀ (v : V) (r : Rs) (st2 : S) (G2 : Gh) (H2 : Hp), Post G H G2 H2 → SS K G2 st2 H2 → ResOk K H G2 H2 r v → exC st.length q r st2 → Q v H2 := fun v r st2 G2 H2 p2 s2 r2 h => by
    obtain ⟨h1, h⟩ := h
    rw [← ka] at h1 h
    have s3 := s2.cut p2.le.a h1
    have p3 := p2.cut
    rcases h with ⟨h2, h⟩ | ⟨n, l, rfl, hn, e, hl, h⟩
    · refine hq v r _ _ H2 p3 s3 ?_ h
      cases r with
      | d x => exact Rep.cut p2.le.a r2 h2
      | own l =>
        obtain ⟨p, vs, e1, e2, e3, e4, e5, e6⟩ := r2
        exact ⟨p, vs, e1, e2, e3, fun z => e4 (p2.le.a.subset z), e5, e6.cut p2.le.a h2⟩
    · refine hq v (.own l) _ _ H2 p3 s3 ?_ h
      cases r2 with
      | ref ep =>
        rename_i p
        obtain ⟨vs, gp, hp, rs⟩ := s2.cell n _ p e ep
        have np : p ∉ G.as := fun z => by
          obtain ⟨i, ei⟩ := List.mem_iff_getElem?.mp z
          have hi := (List.getElem?_eq_some_iff.mp ei).1
          have := (List.getElem?_inj (List.getElem?_eq_some_iff.mp ep).1 s2.nd).mp (ep.trans (pre_get p2.le.a ei).symm)
          omega
        refine ⟨p, vs, rfl, hp, gp, np, ?_, rs.cut p2.le.a hl⟩
        rcases p2.o p (List.mem_of_getElem? ep) with z | z
        · exact absurd z np
        · exact z
  refine ⟨_, m.2 la s.wf, fun env' σ' st2 G2 H2 p2 s2 l2 h => rt .non (.d .non) st2 G2 H2 p2 s2 Rep.non h, rt, fun _ _ _ _ _ _ _ _ z => z.elim, fun _ _ _ _ _ _ _ _ z => z.elim, fun e c dx env' σ' st2 G2 H2 p2 s2 l2 ea h => ?_⟩
  obtain ⟨h1, h2, h⟩ := h
  rw [← ka] at h1 h2 h
  exact he e c dx _ _ H2 p2.cut (s2.cut p2.le.a h2) (ea.cut p2.le.a h1) h⟩
/-- THE RULE for a def -/
theorem fn_ok {P : Program} {w : World} {K : PySem.W.Frag} {mg : Str → Option Value} {base : Heap} {x qual : Str} {params : Arguments} {body : List Stmt} {scope : Scope} {dvs : List V} {kws : List (Str × V)} {f : Addr} {fd : FuncData} {N ps : List Str} {k : Nat} {as : AS} {m : AF}
    (F : FunD K x qual params body scope dvs kws f fd) (S : FnScope N ps scope) (L : Leads ps.length N.length as m)
    (hb : ∀ (cdv : Value) (A : Around) (outer : List Env) (s : Shared) (H : Hp) (E : XK), CxS (cxOf (L2N.CX P w) P w K mg base N qual scope f cdv A outer s H E) (dE E) k → AXB (cxOf (L2N.CX P w) P w K mg base N qual scope f cdv A outer s H E) (dE E) body as) : FnOk P w K mg base (L2N.CX P w) (k + 1) f fd ps (SpA K m) := by
  refine F.ok S (fun vs H Q E h => ?_) (fun cdv A outer s H vs Q E hr h => ?_)
  · obtain ⟨G, st, args, q, er, ss, r, m, _⟩ := h
    rw [← r.length]
    exact L.ar _ _ _ _ m
  · obtain ⟨G, st, args, q, er, ss, r, m, hq, he⟩ := h
    obtain ⟨ts, p1, p2⟩ := hb cdv A outer s H E ⟨⟨rfl, S.nd, hr, L2N.takes_of rfl rfl rfl rfl⟩, passes_of rfl, rfl, rfl⟩
    refine ⟨ts, p1, ?_⟩
    obtain ⟨kk, hk, tk⟩ := L.run ss r m hq he
    have e : L2.start N vs = vs.map some ++ List.replicate (N.length - ps.length) none := by unfold L2.start; rw [← r.length, L.ar _ _ _ _ m]
    rw [e]
    exact p2 G _ st _ H _ kk ss (r.sl _) hk tk
/-! ### a call -/
def aCall (m : AF) (args : AEs) (dd : List D) : AE := fun env st q er => args env st (fun ds s1 => m (ds ++ dd) s1 (fun r s2 => match r with
  | .d d => q d s2
  | .own l => q (.lst l) s2) er) er
/-- .. whose list nobody else holds -/
def fCall (m : AF) (args : AEs) (dd : List D) : AFr := fun env st q er => args env st (fun ds s1 => m (ds ++ dd) s1 (fun r s2 => match r with
  | .own l => q l s2
  | _ => False) er) er
section
variable {K : PySem.W.Frag} {W : WX}
theorem refE_call {m : AF} {ta : TA} {args : AEs} {dd : List D} {dvs : List V} (ha : RefA K W ta args) (hd : ∀ G, Reps K G dd dvs) : RefE K W (tCallSD (SpA K m) dvs (fun σ c d H => W c d σ H) ta) (aCall m args dd) := fun G env st σ H Q q er s l h tE tX => by
  refine ha G env st σ H _ _ er s l h (fun vs ds st2 G2 H2 p2 s2 a2 h2 => ?_) tX
  refine ⟨G2, st2, _, _, er, s2, a2.append (hd G2), h2, fun v r st3 G3 H3 p3 s3 r3 h3 => ?_, fun e c dx st3 G3 H3 p3 s3 ea h3 => tX e c dx st3 G3 H3 (p2.trans p3) s3 ea h3⟩
  cases r with
  | d x => exact tE v x st3 G3 H3 (p2.trans p3) s3 r3 h3
  | own l =>
    obtain ⟨G4, s4, p4, r4⟩ := own_frz s3 p3 r3
    exact tE v _ st3 G4 H3 (p2.trans p4) s4 r4 h3
theorem refF_call {m : AF} {ta : TA} {args : AEs} {dd : List D} {dvs : List V} (ha : RefA K W ta args) (hd : ∀ G, Reps K G dd dvs) : RefF K W (tCallSD (SpA K m) dvs (fun σ c d H => W c d σ H) ta) (fCall m args dd) := fun G env st σ H Q q er s l h tE tX => by
  refine ha G env st σ H _ _ er s l h (fun vs ds st2 G2 H2 p2 s2 a2 h2 => ?_) tX
  refine ⟨G2, st2, _, _, er, s2, a2.append (hd G2), h2, fun v r st3 G3 H3 p3 s3 r3 h3 => ?_, fun e c dx st3 G3 H3 p3 s3 ea h3 => tX e c dx st3 G3 H3 (p2.trans p3) s3 ea h3⟩
  cases r with
  | d x => exact h3.elim
  | own l => exact tE v l st3 G3 H3 (p2.trans p3) s3 (r3.on p2) h3
end
end AM
set_option Elab.async false
set_option linter.all false
set_option maxRecDepth 100000
set_option maxHeartbeats 4000000
namespace AM
open PySem L2 Evl
/-! ### one reading for a piece of data's reading -/
def rdE (K : PySem.W.Frag) (W : WX) (ae : AE) : TE := fun σ H Q => ∃ G env st q er, SS K G st H ∧ Sl K G env σ ∧ ae env st q er ∧ ThenE K G H q Q ∧ ThenX K W G H σ er
def rdT (K : PySem.W.Frag) (W : WX) (xt : AT) : TT := fun σ H Q => ∃ G env st q er, SS K G st H ∧ Sl K G env σ ∧ xt env st q er ∧ ThenT K G H q Q ∧ ThenX K W G H σ er
def rdS (K : PySem.W.Frag) (W : WX) (as : AS) : TS := fun D σ H => ∃ G env st k, SS K G st H ∧ Sl K G env σ ∧ as env st k ∧ ThenS K W G H k D
def rdI (K : PySem.W.Frag) (W : WX) (ai : AI) : TI := fun σ H R => ∃ G env st q er, SS K G st H ∧ Sl K G env σ ∧ ai env st q er ∧ (∀ J ds gd st2 G2 H2, Post G H G2 H2 → SS K G2 st2 H2 → Walks K G2 J ds gd → q ds gd st2 → R J H2) ∧ ThenX K W G H σ er
def rdG (K : PySem.W.Frag) (vs : List Nat) (ag : AG) : TG := fun v σ H Q => ∃ G env st d q, SS K G st H ∧ Sl K G env σ ∧ Rep K G d v ∧ ag d env st q ∧ ∀ env' σ', Sl K G env' σ' → wipe σ' vs = wipe σ vs → q env' → Q σ' H
theorem AX.pe {X : Cx} {W : WX} {e : Expr} {ae : AE} (h : AX X W e ae) : PE X e (rdE X.K W ae) := by
  obtain ⟨te, p, r⟩ := h
  exact ⟨fun pins s σ H Q I ⟨G, env, st, q, er, sa, sl, a, tE, tX⟩ => p.run pins s σ H Q I (r G env st σ H Q q er sa sl a tE tX)⟩
theorem rdE_ref {K : PySem.W.Frag} {W : WX} {ae : AE} : RefE K W (rdE K W ae) ae := fun G env st σ H Q q er s l a tE tX => ⟨G, env, st, q, er, s, l, a, tE, tX⟩
theorem AXI.pi {X : Cx} {W : WX} {tg e : Expr} {ai : AI} (h : AXI X W tg e ai) : PI X tg e (rdI X.K W ai) := by
  obtain ⟨te, p, r⟩ := h
  exact ⟨fun pins s σ H Q I ⟨G, env, st, q, er, sa, sl, a, tE, tX⟩ => p.run pins s σ H Q I (r G env st σ H Q q er sa sl a tE tX)⟩
theorem rdI_ref {K : PySem.W.Frag} {W : WX} {ai : AI} : RefI K W (rdI K W ai) ai := fun G env st σ H Q q er s l a tE tX => ⟨G, env, st, q, er, s, l, a, tE, tX⟩
theorem AXB.ps {X : Cx} {W : WX} {b : List Stmt} {as : AS} (h : AXB X W b as) : PSs X b (rdS X.K W as) := by
  obtain ⟨ts, p, r⟩ := h
  exact ⟨fun pins s σ H D I ⟨G, env, st, k, sa, sl, a, t⟩ => p.run pins s σ H D I (r G env st σ H D k sa sl a t)⟩
theorem rdS_ref {K : PySem.W.Frag} {W : WX} {as : AS} : RefS K W (rdS K W as) as := fun G env st σ H D k s l a t => ⟨G, env, st, k, s, l, a, t⟩
def AXTs (X : Cx) (W : WX) (es : List Expr) (xt : AT) : Prop := ∃ tt, PTs X es tt ∧ RefT X.K W tt xt
theorem AXTs.pts {X : Cx} {W : WX} {e : List Expr} {xt : AT} (h : AXTs X W e xt) : PTs X e (rdT X.K W xt) := by
  obtain ⟨te, p, r⟩ := h
  exact ⟨fun pins s σ H Q I ⟨G, env, st, q, er, sa, sl, a, tE, tX⟩ => p.run pins s σ H Q I (r G env st σ H Q q er sa sl a tE tX)⟩
theorem rdT_ref {K : PySem.W.Frag} {W : WX} {xt : AT} : RefT K W (rdT K W xt) xt := fun G env st σ H Q q er s l a tE tX => ⟨G, env, st, q, er, s, l, a, tE, tX⟩
def aYes : AT := fun _ st q _ => q true st
theorem axts_nil {X : Cx} {W : WX} : AXTs X W [] aYes := ⟨_, pts_nil, fun G env st σ H Q q er s l h tT _ => tT true st G H Post.refl s h⟩
theorem axts_one {X : Cx} {W : WX} {e : Expr} {xt : AT} (h : AXT X W e xt) : AXTs X W [e] xt := by
  obtain ⟨te, p, r⟩ := h
  exact ⟨_, pts_one p, r⟩
/-- targets within a comprehension -/
def AXGc (X : Cx) (vs : List Nat) (e : Expr) (ag : AG) : Prop := ∃ g, PG X e g ∧ RefG X.K g ag ∧ Stays vs g
def AXGcs (X : Cx) (vs : List Nat) (es : List Expr) (ag : AGs) : Prop := ∃ g, PGs X es g ∧ RefGs X.K g ag ∧ Stayss vs g
theorem AXGc.pg {X : Cx} {vs : List Nat} {e : Expr} {ag : AG} (h : AXGc X vs e ag) : PG X e (rdG X.K vs ag) := by
  obtain ⟨g, p, r, st⟩ := h
  refine ⟨fun pins s σ H v u Q I rv ⟨G, env, sto, d, q, sa, sl, rd, a, t⟩ => p.run pins s σ H v u Q I rv ?_⟩
  exact st v σ H (fun σ' H' => ∃ env', H' = H ∧ Sl X.K G env' σ' ∧ q env') Q σ rfl (fun σ2 H2 hw ⟨env', e2, l2, h2⟩ => by rw [e2]; exact t env' σ2 l2 hw h2) (r G env sto σ H d v _ q sa sl rd a fun env' σ' l2 h2 => ⟨env', rfl, l2, h2⟩)
theorem rdG_ref {K : PySem.W.Frag} {vs : List Nat} {ag : AG} : RefG K (rdG K vs ag) ag := fun G env st σ H d v Q q s l r a t => ⟨G, env, st, d, q, s, l, r, a, fun env' σ' l2 _ h2 => t env' σ' l2 h2⟩
theorem rdG_stays {K : PySem.W.Frag} {vs : List Nat} {ag : AG} : Stays vs (rdG K vs ag) := fun v σ H Q Q' σ0 e k ⟨G, env, st, d, q, s, l, r, a, t⟩ => ⟨G, env, st, d, q, s, l, r, a, fun env' σ' l2 hw h2 => k σ' H (hw.trans e) (t env' σ' l2 hw h2)⟩
section
variable {X : Cx} {vs : List Nat} {pos : Pos} {e : Expr} {es : List Expr} {ag : AG} {ags : AGs}
theorem axgc_name {i : Nat} {x : Str} (hN : X.N.Nodup) (hm : i ∈ vs := by decide) (hi : X.N[i]? = some x := by rfl) (hx : Loc X.env.scope x := by first | exact Or.inl rfl | exact Or.inr rfl) (hf : X.fn x = true ∨ X.env.scope.names.lookup x = some .local := by first | exact .inl rfl | exact .inr rfl) : AXGc X vs (.Name x pos) (agName i) := ⟨_, pg_name hN hi hx hf, refG_name i, stays_name hm⟩
theorem axgcs_nil : AXGcs X vs [] agNil := ⟨_, pgs_nil, refGs_nil, stays_nil⟩
theorem axgcs_cons (h1 : AXGc X vs e ag) (h2 : AXGcs X vs es ags) (hs : (assignEach (e :: es) X.env).map (·.2) = assign e X.env :: (assignEach es X.env).map (·.2) := by rfl) : AXGcs X vs (e :: es) (agCons ag ags) := by
  obtain ⟨g, p, r, st⟩ := h1
  obtain ⟨g', p', r', st'⟩ := h2
  exact ⟨_, pgs_cons p p' hs, refGs_cons r r', stays_cons st st'⟩
theorem axgc_tup {k n : Nat} (hc : X.calm = true) (h : AXGcs X vs es ags) (hn : (assignEach es X.env).length = n := by rfl) (hst : (assignEach es X.env).findIdx? (·.1) = none := by rfl) : AXGc X vs (.Tuple es k pos) (agTup n ags) := by
  obtain ⟨g, p, r, st⟩ := h
  exact ⟨_, pg_tup hc p hn hst, refG_tup r, stays_tup st⟩
theorem axg_name {i : Nat} {x : Str} (hN : X.N.Nodup) (hi : X.N[i]? = some x := by rfl) (hx : Loc X.env.scope x := by first | exact Or.inl rfl | exact Or.inr rfl) (hf : X.fn x = true ∨ X.env.scope.names.lookup x = some .local := by first | exact .inl rfl | exact .inr rfl) : AXG X (.Name x pos) (agName i) := ⟨_, pg_name hN hi hx hf, refG_name i⟩
theorem axgs_nil : AXGs X [] agNil := ⟨_, pgs_nil, refGs_nil⟩
theorem axgs_cons (h1 : AXG X e ag) (h2 : AXGs X es ags) (hs : (assignEach (e :: es) X.env).map (·.2) = assign e X.env :: (assignEach es X.env).map (·.2) := by rfl) : AXGs X (e :: es) (agCons ag ags) := by
  obtain ⟨g, p, r⟩ := h1
  obtain ⟨g', p', r'⟩ := h2
  exact ⟨_, pgs_cons p p' hs, refGs_cons r r'⟩
theorem axg_tup {k n : Nat} (hc : X.calm = true) (h : AXGs X es ags) (hn : (assignEach es X.env).length = n := by rfl) (hst : (assignEach es X.env).findIdx? (·.1) = none := by rfl) : AXG X (.Tuple es k pos) (agTup n ags) := by
  obtain ⟨g, p, r⟩ := h
  exact ⟨_, pg_tup hc p hn hst, refG_tup r⟩
end
/-! ### statements -/
section
variable {X : Cx} {W : WX} {k : Nat} {pos pos' : Pos} {e c : Expr} {ae : AE} {xt : AT} {st : Stmt} {sts a b : List Stmt} {as bs : AS}
theorem axb_nil : AXB X W [] sNext := ⟨_, pss_nil, refS_next⟩
theorem axb_one (h : AXS X W st as) : AXB X W [st] as := by
  obtain ⟨t, p, r⟩ := h
  exact ⟨_, pss_one p, r⟩
theorem axb_cons (h : AXS X W st as) (h2 : AXB X W sts bs) : AXB X W (st :: sts) (sSeq as bs) := by
  obtain ⟨t, p, r⟩ := h
  obtain ⟨t2, p2, r2⟩ := h2
  exact ⟨_, pss_cons p p2, refS_seq r r2⟩
theorem axs_pass : AXS X W (.Pass pos) sNext := ⟨_, ps_pass, refS_next⟩
theorem axs_break : AXS X W (.Break pos) sBreak := ⟨_, ps_break, refS_break⟩
theorem axs_cont : AXS X W (.Continue pos) sCont := ⟨_, ps_continue, refS_cont⟩
theorem axs_expr (h : AX X W e ae) (hs : swapsWith e none pos.line X.env = pure false := by rfl) : AXS X W (.Expr e pos) (sDrop ae) := by
  obtain ⟨t, p, r⟩ := h
  exact ⟨_, ps_expr p hs, refS_drop r⟩
theorem axs_ret (h : AX X W e ae) : AXS X W (.Return (some e) pos) (sRet ae) := by
  obtain ⟨t, p, r⟩ := h
  exact ⟨_, ps_ret p, refS_ret r⟩
theorem axs_retN : AXS X W (.Return none pos) sRetN := ⟨_, ps_retN, refS_retN⟩
theorem axs_if (hc : AXT X W c xt) (ha : AXB X W a as) (hb : AXB X W b bs) : AXS X W (.If c a b pos) (sIf xt as bs) := by
  obtain ⟨t, p, r⟩ := hc
  obtain ⟨t1, p1, r1⟩ := ha
  obtain ⟨t2, p2, r2⟩ := hb
  exact ⟨_, ps_if p p1 p2, refS_if r r1 r2⟩
theorem axs_set {i : Nat} {x : Str} (hN : X.N.Nodup) (h : AX X W e ae) (hi : X.N[i]? = some x := by rfl) (hx : Loc X.env.scope x := by first | exact Or.inl rfl | exact Or.inr rfl) (hs : swapsWith e (some (.Name x pos')) pos.line X.env = pure false := by rfl) (hf : X.fn x = true ∨ X.env.scope.names.lookup x = some .local := by first | exact .inl rfl | exact .inr rfl) :
    AXS X W (.Assign [.Name x pos'] e pos) (sAsg ae (agName i)) := by
  obtain ⟨t, p, r⟩ := h
  exact ⟨_, ps_set hN hi hx p hs hf, refS_asg r (refG_name i)⟩
theorem axs_asg {tg : Expr} {ag : AG} (h : AX X W e ae) (hg : AXG X tg ag) (hs : swapsWithSole [tg] e pos.line X.env = pure false := by rfl) (hw : swappedStores [tg] e X.env = pure none := by rfl) (h1 : (assignEach [tg] X.env).map (·.2) = [assign tg X.env] := by rfl) : AXS X W (.Assign [tg] e pos) (sAsg ae ag) := by
  obtain ⟨t, p, r⟩ := h
  obtain ⟨g, p1, r1⟩ := hg
  exact ⟨_, ps_asg p p1 hs hw h1, refS_asg r r1⟩
theorem axs_par {i j : Nat} {x y : Str} {e1 e2 : Expr} {aa : AEs} {px py pt pt2 : Pos} {kt k2 : Nat} (hc : X.calm = true) (hN : X.N.Nodup) (ha : AXA X W [e1, e2] aa) (hij : i ≠ j := by decide) (hi : X.N[i]? = some x := by rfl) (hj : X.N[j]? = some y := by rfl) (hx : X.env.scope.names.lookup x = some .local := by rfl) (hy : X.env.scope.names.lookup y = some .local := by rfl)
    (hw : swappedStores [.Tuple [.Name x px, .Name y py] kt pt] (.Tuple [e1, e2] k2 pt2) X.env = pure (some [x, y]) := by rfl) (hs : swapsWithSole [.Tuple [.Name x px, .Name y py] kt pt] (.Tuple [e1, e2] k2 pt2) pos.line X.env = pure false := by rfl) :
    AXS X W (.Assign [.Tuple [.Name x px, .Name y py] kt pt] (.Tuple [e1, e2] k2 pt2) pos) (sPar i j aa) := by
  obtain ⟨t, p, r⟩ := ha
  exact ⟨_, ps_par hc hN hi hj hij hx hy p hw hs, refS_par r⟩
theorem axs_aug {i : Nat} {x : Str} {op : Operator} {ti : TIp} {f : O2} (hN : X.N.Nodup) (ho : PIp X op ti ∧ RefO X.K ti f) (h : AX X W e ae) (hi : X.N[i]? = some x := by rfl) (hx : Loc X.env.scope x := by first | exact Or.inl rfl | exact Or.inr rfl) (hf : X.fn x = true ∨ X.env.scope.names.lookup x = some .local := by first | exact .inl rfl | exact .inr rfl) :
    AXS X W (.AugAssign (.Name x pos') op e pos) (sAug i f ae) := by
  obtain ⟨t, p, r⟩ := h
  exact ⟨_, ps_aug hN hi hx p ho.1 hf, refS_aug r ho.2⟩
theorem axs_for {tg iter : Expr} {ai : AI} {ag : AG} (C : CxS X W k) (hi : AXI X W tg iter ai) (hg : AXG X tg ag) (hb : AXB X W b bs) (hs : ∀ x, foldedSetIterable iter X.env x = pure x := by intro _; rfl) : AXS X W (.For tg iter b [] pos) (sFor ai ag bs) := by
  obtain ⟨t, p, r⟩ := hi
  obtain ⟨g, p1, r1⟩ := hg
  obtain ⟨t2, p2, r2⟩ := hb
  exact ⟨_, ps_for C.po C.calm p p1 p2 hs, refS_for r r1 r2⟩
theorem axs_while (C : CxS X W k) (hc : AXT X W c xt) (hb : AXB X W b bs) : AXS X W (.While c b [] pos) (sWhile xt bs) := by
  obtain ⟨t, p, r⟩ := hc
  obtain ⟨t2, p2, r2⟩ := hb
  exact ⟨_, ps_while C.po p p2, refS_while r r2⟩
end
/-! ### fresh lists -/
/-- x = a fresh list: a cell -/
def sCell (f : AFr) (i : Nat) : AS := fun env st k => f env st (fun l s1 => k.nx (env.set i (.d (.ref s1.length))) (s1 ++ [.lst l])) (fun e s1 => k.er e env s1)
/-- return a fresh list -/
def sRetF (f : AFr) : AS := fun env st k => f env st (fun l s1 => k.rt (.own l) s1) (fun e s1 => k.er e env s1)
theorem refS_cell {K : PySem.W.Frag} {W : WX} {te : TE} {af : AFr} {i : Nat} (h : RefF K W te af) : RefS K W (tAsg te (gName i)) (sCell af i) := fun G env st σ H D k s l a t =>
  h G env st σ H _ _ _ s l a (fun v ds st2 G2 H2 p2 s2 r2 h2 => by
    obtain ⟨G3, s3, p3, r3⟩ := own_cell s2 p2 r2
    exact t.nx _ _ _ G3 H2 p3 s3 ((l.mono p3.le).set i r3) h2) (t.x l)
theorem refS_retF {K : PySem.W.Frag} {W : WX} {te : TE} {af : AFr} (h : RefF K W te af) : RefS K W (tRet te) (sRetF af) := fun G env st σ H D k s l a t =>
  h G env st σ H _ _ _ s l a (fun v ds st2 G2 H2 p2 s2 r2 h2 => t.rt v (.own ds) st2 G2 H2 p2 s2 r2 h2) (t.x l)
def fLst (as : AEs) : AFr := fun env st q er => as env st (fun xs s1 => xs.length ≤ 100000 ∧ q xs s1) er
theorem refF_lst {K : PySem.W.Frag} {W : WX} {tr : TA} {ar : AEs} (hr : RefA K W tr ar) : RefF K W (tLst tr) (fLst ar) := fun G env st σ H Q q er s l h tE tX =>
  hr G env st σ H _ _ er s l h (fun vs ds st1 G1 H1 p1 s1 r1 h1 => ⟨sz_of (by rw [← r1.length]; exact h1.1), fun p hp => by
    obtain ⟨s2, p2, np, gp⟩ := s1.room (o := .lst vs) hp
    refine tE _ ds st1 _ _ (p1.trans p2) s2 (ResOk.on p1 ⟨p, vs, rfl, upd_same, gp, np, hp, r1⟩) h1.2⟩) tX
def fIf (t : AT) (a b : AFr) : AFr := fun env st q er => t env st (fun c s1 => if c = true then a env s1 q er else b env s1 q er) er
theorem ThenF.on {K : PySem.W.Frag} {G G2 : Gh} {H H2 : Hp} {q : List D → S → Prop} {Q : VK} (t : ThenF K G H q Q) (p : Post G H G2 H2) : ThenF K G2 H2 q Q := fun v d st3 G3 H3 p2 s3 r3 => t v d st3 G3 H3 (p.trans p2) s3 (r3.on p)
theorem refF_if {K : PySem.W.Frag} {W : WX} {t : TT} {xt : AT} {ta tb : TE} {aa ab : AFr} (ht : RefT K W t xt) (ha : RefF K W ta aa) (hb : RefF K W tb ab) : RefF K W (tIf t ta tb) (fIf xt aa ab) := fun G env st σ H Q q er s l h tE tX => by
  refine ht G env st σ H _ _ er s l h (fun b st1 G1 H1 p1 s1 h1 => ?_) tX
  cases b with
  | true => exact ha G1 env st1 σ H1 Q q er s1 (l.mono p1.le) h1 (tE.on p1) (tX.on p1)
  | false => exact hb G1 env st1 σ H1 Q q er s1 (l.mono p1.le) h1 (tE.on p1) (tX.on p1)
section
variable {X : Cx} {W : WX} {k : Nat} {pos pos' : Pos} {e c a b : Expr} {es : List Expr} {ae : AE} {xt : AT} {af bf : AFr} {ar : AEs}
theorem axf_e (h : AXF X W e af) : AX X W e (aFr af) := by
  obtain ⟨t, p, r⟩ := h
  exact ⟨_, p, r.e⟩
theorem axf_lst (hr : AXA X W es ar) : AXF X W (.List es pos) (fLst ar) := by
  obtain ⟨t, p, r⟩ := hr
  exact ⟨_, pe_lst p, refF_lst r⟩
theorem axf_if (hc : AXT X W c xt) (ha : AXF X W a af) (hb : AXF X W b bf) : AXF X W (.IfExp c a b pos) (fIf xt af bf) := by
  obtain ⟨tc, pc, rc⟩ := hc
  obtain ⟨ta, pa, ra⟩ := ha
  obtain ⟨tb, pb, rb⟩ := hb
  exact ⟨_, pe_ifExp pc pa pb, refF_if rc ra rb⟩
theorem axs_cell {i : Nat} {x : Str} (hN : X.N.Nodup) (h : AXF X W e af) (hi : X.N[i]? = some x := by rfl) (hx : Loc X.env.scope x := by first | exact Or.inl rfl | exact Or.inr rfl) (hs : swapsWith e (some (.Name x pos')) pos.line X.env = pure false := by rfl) (hf : X.fn x = true ∨ X.env.scope.names.lookup x = some .local := by first | exact .inl rfl | exact .inr rfl) :
    AXS X W (.Assign [.Name x pos'] e pos) (sCell af i) := by
  obtain ⟨t, p, r⟩ := h
  exact ⟨_, ps_set hN hi hx p hs hf, refS_cell r⟩
theorem axs_retF (h : AXF X W e af) : AXS X W (.Return (some e) pos) (sRetF af) := by
  obtain ⟨t, p, r⟩ := h
  exact ⟨_, ps_ret p, refS_retF r⟩
end
/-! ### comprehensions -/
section
variable {X : Cx} {W : WX} {k : Nat} {pos spos : Pos} {elt tg iter tg1 iter1 : Expr} {ifs ifs1 : List Expr} {scope : Scope} {own : List (Str × Nat)} {ai ai1 : AI} {ag ag1 : AG} {xt xt1 : AT} {ae : AE}
theorem axf_lc (own : List (Str × Nat)) (C : CxE X W k) (ok : BlkOk X.N X.env.scope scope own) (hi : AXI X W tg iter ai)
    (hg : ∀ (s : Shared) (H : Hp) (C : Addr) (cl : List (Str × Addr)) (fp : List Addr), AXGc (X.blk s H scope (compEnvC scope cl C X.env) fp) (own.map (·.2)) tg ag) (ht : ∀ (s : Shared) (H : Hp) (C : Addr) (cl : List (Str × Addr)) (fp : List Addr), AXTs (X.blk s H scope (compEnvC scope cl C X.env) fp) W0 ifs xt)
    (he : ∀ (s : Shared) (H : Hp) (C : Addr) (cl : List (Str × Addr)) (fp : List Addr), AX (X.blk s H scope (compEnvC scope cl C X.env) fp) W0 elt ae) (hs : ∀ x, foldedSetIterable iter X.env x = pure x := by intro _; rfl) :
    AXF X W (.ListComp elt [⟨tg, iter, ifs, 0⟩] scope pos) (fLc ai ag xt ae (own.map (·.2))) := by
  obtain ⟨t, p, r⟩ := hi
  exact ⟨_, pe_lc C.calm C.nd p ok (fun s H C cl fp => (hg s H C cl fp).pg) (fun s H C cl fp => (ht s H C cl fp).pts) (fun s H C cl fp => (he s H C cl fp).pe) hs, refF_lc r rdG_ref rdG_stays rdT_ref rdE_ref⟩
/-- y = [..]: a frozen list, a cell -/
theorem axs_setLc (own : List (Str × Nat)) {i : Nat} {y : Str} {py : Pos} (C : CxE X W k) (ok : BlkOk X.N X.env.scope scope own) (hi : AXI X W tg iter ai)
    (hg : ∀ (s : Shared) (H : Hp) (C : Addr) (cl : List (Str × Addr)) (fp : List Addr), AXGc (X.blk s H scope (compEnvC scope cl C X.env) fp) (own.map (·.2)) tg ag) (ht : ∀ (s : Shared) (H : Hp) (C : Addr) (cl : List (Str × Addr)) (fp : List Addr), AXTs (X.blk s H scope (compEnvC scope cl C X.env) fp) W0 ifs xt)
    (he : ∀ (s : Shared) (H : Hp) (C : Addr) (cl : List (Str × Addr)) (fp : List Addr), AX (X.blk s H scope (compEnvC scope cl C X.env) fp) W0 elt ae)
    (hsw : swapsWith (.ListComp elt [⟨tg, iter, ifs, 0⟩] scope pos) (some (.Name y py)) spos.line X.env = pure true := by exact sw_true rfl rfl rfl (by decide +kernel)) (hy : X.N[i]? = some y := by rfl) (hyl : X.env.scope.names.lookup y = some .local := by rfl) (hs : ∀ x, foldedSetIterable iter X.env x = pure x := by intro _; rfl) :
    AXS X W (.Assign [.Name y py] (.ListComp elt [⟨tg, iter, ifs, 0⟩] scope pos) spos) (sAsg (aFr (fLc ai ag xt ae (own.map (·.2)))) (agName i)) ∧ AXS X W (.Assign [.Name y py] (.ListComp elt [⟨tg, iter, ifs, 0⟩] scope pos) spos) (sCell (fLc ai ag xt ae (own.map (·.2))) i) := by
  obtain ⟨t, p, r⟩ := hi
  have q := ps_setLc (i := i) (g := rdG X.K (own.map (·.2)) ag) (tt := rdT X.K W0 xt) (te := rdE X.K W0 ae) C.calm C.nd hy hyl hsw p ok (fun s H C cl fp => (hg s H C cl fp).pg) (fun s H C cl fp => (ht s H C cl fp).pts) (fun s H C cl fp => (he s H C cl fp).pe) hs
  have f := refF_lc (vs := own.map (·.2)) r (rdG_ref (vs := own.map (·.2)) (ag := ag)) rdG_stays (rdT_ref (xt := xt)) (rdE_ref (ae := ae))
  exact ⟨⟨_, q, refS_asg f.e (refG_name i)⟩, _, q, refS_cell f⟩
theorem axf_lc2 (own : List (Str × Nat)) (vs1 : List Nat) (C : CxE X W k) (ok : BlkOk X.N X.env.scope scope own) (hi : AXI X W tg iter ai)
    (hg : ∀ (s : Shared) (H : Hp) (C : Addr) (cl : List (Str × Addr)) (fp : List Addr), AXGc (X.blk s H scope (compEnvC scope cl C X.env) fp) (own.map (·.2)) tg ag) (ht : ∀ (s : Shared) (H : Hp) (C : Addr) (cl : List (Str × Addr)) (fp : List Addr), AXTs (X.blk s H scope (compEnvC scope cl C X.env) fp) W0 ifs xt)
    (hi1 : ∀ (s : Shared) (H : Hp) (C : Addr) (cl : List (Str × Addr)) (fp : List Addr), AXI (X.blk s H scope (compEnvC scope cl C X.env) fp) W0 tg1 iter1 ai1) (hg1 : ∀ (s : Shared) (H : Hp) (C : Addr) (cl : List (Str × Addr)) (fp : List Addr), AXGc (X.blk s H scope (compEnvC scope cl C X.env) fp) vs1 tg1 ag1) (ht1 : ∀ (s : Shared) (H : Hp) (C : Addr) (cl : List (Str × Addr)) (fp : List Addr), AXTs (X.blk s H scope (compEnvC scope cl C X.env) fp) W0 ifs1 xt1)
    (he : ∀ (s : Shared) (H : Hp) (C : Addr) (cl : List (Str × Addr)) (fp : List Addr), AX (X.blk s H scope (compEnvC scope cl C X.env) fp) W0 elt ae) (hv : ∀ i ∈ vs1, i ∈ own.map (·.2) := by decide) (hs : ∀ x, foldedSetIterable iter X.env x = pure x := by intro _; rfl) (hs1 : ∀ env x, foldedSetIterable iter1 env x = pure x := by intro _ _; rfl) :
    AXF X W (.ListComp elt [⟨tg, iter, ifs, 0⟩, ⟨tg1, iter1, ifs1, 0⟩] scope pos) (fLc2 ai ag xt ai1 ag1 xt1 ae (own.map (·.2)) vs1) := by
  obtain ⟨t, p, r⟩ := hi
  exact ⟨_, pe_lc2 C.calm C.nd p ok hv (fun s H C cl fp => (hg s H C cl fp).pg) (fun s H C cl fp => (ht s H C cl fp).pts) (fun s H C cl fp => (hi1 s H C cl fp).pi) (fun s H C cl fp => (hg1 s H C cl fp).pg) (fun s H C cl fp => (ht1 s H C cl fp).pts) (fun s H C cl fp => (he s H C cl fp).pe) hs hs1, refF_lc2 r rdG_ref rdG_stays rdT_ref rdI_ref rdG_ref rdG_stays rdT_ref rdE_ref⟩
theorem axs_setLc2 (own : List (Str × Nat)) (vs1 : List Nat) {i : Nat} {y : Str} {py : Pos} (C : CxE X W k) (ok : BlkOk X.N X.env.scope scope own) (hi : AXI X W tg iter ai)
    (hg : ∀ (s : Shared) (H : Hp) (C : Addr) (cl : List (Str × Addr)) (fp : List Addr), AXGc (X.blk s H scope (compEnvC scope cl C X.env) fp) (own.map (·.2)) tg ag) (ht : ∀ (s : Shared) (H : Hp) (C : Addr) (cl : List (Str × Addr)) (fp : List Addr), AXTs (X.blk s H scope (compEnvC scope cl C X.env) fp) W0 ifs xt)
    (hi1 : ∀ (s : Shared) (H : Hp) (C : Addr) (cl : List (Str × Addr)) (fp : List Addr), AXI (X.blk s H scope (compEnvC scope cl C X.env) fp) W0 tg1 iter1 ai1) (hg1 : ∀ (s : Shared) (H : Hp) (C : Addr) (cl : List (Str × Addr)) (fp : List Addr), AXGc (X.blk s H scope (compEnvC scope cl C X.env) fp) vs1 tg1 ag1) (ht1 : ∀ (s : Shared) (H : Hp) (C : Addr) (cl : List (Str × Addr)) (fp : List Addr), AXTs (X.blk s H scope (compEnvC scope cl C X.env) fp) W0 ifs1 xt1)
    (he : ∀ (s : Shared) (H : Hp) (C : Addr) (cl : List (Str × Addr)) (fp : List Addr), AX (X.blk s H scope (compEnvC scope cl C X.env) fp) W0 elt ae)
    (hsw : swapsWith (.ListComp elt [⟨tg, iter, ifs, 0⟩, ⟨tg1, iter1, ifs1, 0⟩] scope pos) (some (.Name y py)) spos.line X.env = pure true := by exact sw_true rfl rfl rfl (by decide +kernel)) (hy : X.N[i]? = some y := by rfl) (hyl : X.env.scope.names.lookup y = some .local := by rfl) (hv : ∀ i ∈ vs1, i ∈ own.map (·.2) := by decide) (hs : ∀ x, foldedSetIterable iter X.env x = pure x := by intro _; rfl) (hs1 : ∀ env x, foldedSetIterable iter1 env x = pure x := by intro _ _; rfl) :
    AXS X W (.Assign [.Name y py] (.ListComp elt [⟨tg, iter, ifs, 0⟩, ⟨tg1, iter1, ifs1, 0⟩] scope pos) spos) (sAsg (aFr (fLc2 ai ag xt ai1 ag1 xt1 ae (own.map (·.2)) vs1)) (agName i)) ∧ AXS X W (.Assign [.Name y py] (.ListComp elt [⟨tg, iter, ifs, 0⟩, ⟨tg1, iter1, ifs1, 0⟩] scope pos) spos) (sCell (fLc2 ai ag xt ai1 ag1 xt1 ae (own.map (·.2)) vs1) i) := by
  obtain ⟨t, p, r⟩ := hi
  have q := ps_setLc2 (i := i) (g := rdG X.K (own.map (·.2)) ag) (tt := rdT X.K W0 xt) (wi1 := rdI X.K W0 ai1) (g1 := rdG X.K vs1 ag1) (tt1 := rdT X.K W0 xt1) (te := rdE X.K W0 ae) C.calm C.nd hy hyl hsw p ok hv (fun s H C cl fp => (hg s H C cl fp).pg) (fun s H C cl fp => (ht s H C cl fp).pts) (fun s H C cl fp => (hi1 s H C cl fp).pi) (fun s H C cl fp => (hg1 s H C cl fp).pg) (fun s H C cl fp => (ht1 s H C cl fp).pts) (fun s H C cl fp => (he s H C cl fp).pe) hs hs1
  have f := refF_lc2 (vs := own.map (·.2)) (vs1 := vs1) r (rdG_ref (vs := own.map (·.2)) (ag := ag)) rdG_stays (rdT_ref (xt := xt)) (rdI_ref (ai := ai1)) (rdG_ref (vs := vs1) (ag := ag1)) rdG_stays (rdT_ref (xt := xt1)) (rdE_ref (ae := ae))
  exact ⟨⟨_, q, refS_asg f.e (refG_name i)⟩, _, q, refS_cell f⟩
end
/-! ### what is walked -/
def iSeq (K : PySem.W.Frag) (tl : TE) : TI := fun σ H R => tl σ H fun x H1 => ∃ a, x = .ref a ∧ ((∃ xs, SqL K H1 a xs ∧ R (Itl K a) H1) ∨ (∃ xs, SqT K H1 a xs ∧ R (Itt K a) H1))
def itemsD : D → Option (List D)
  | .lst l => some l
  | .tup l => some l
  | _ => none
/-- what must stand while d is walked -/
def gdOf (st : S) : D → Gd
  | .ref n => match st[n]? with
    | some c => [(n, c)]
    | none => []
  | _ => []
def aIter (a : AE) : AI := fun env st q er => a env st (fun d s1 => ∃ l, itemsD (vw s1 d) = some l ∧ q l (gdOf s1 d) s1) er
def aRng1 (a : AE) : AI := fun env st q er => a env st (fun d s1 => match d with
  | .int j => (-(2 ^ 62) ≤ j ∧ j < 2 ^ 62) ∧ q ((List.range j.toNat).map fun (i : Nat) => D.int (i : Int)) [] s1
  | _ => False) er
def aRng2 (a b : AE) : AI := fun env st q er => a env st (fun d s1 => b env s1 (fun d2 s2 => match d, d2 with
  | .int i, .int j => (-(2 ^ 62) ≤ i ∧ i < 2 ^ 62 ∧ -(2 ^ 62) ≤ j ∧ j < 2 ^ 62) ∧ q ((List.range (j - i).toNat).map fun (n : Nat) => D.int (i + (n : Int))) [] s2
  | _, _ => False) er) er
section
variable {X : Cx} {W : WX} {tg l e e2 : Expr} {tl : TE} {al ae ab : AE} {p pos : Pos}
theorem pi_seq (hl : PE X l tl) : PI X tg l (iSeq X.K tl) := by
  refine ⟨fun pins s σ H R I h => ?_⟩
  refine thn (hl.run pins s σ H _ I h) fun v s1 ⟨x, H1, I1, r1, q1⟩ => ?_
  obtain ⟨a, e, q1⟩ := q1
  subst e
  cases r1
  rcases q1 with ⟨xs, hq, q⟩ | ⟨xs, hq, q⟩
  · obtain ⟨its, rv, p, hz⟩ := I1.list hq
    refine wpAny_pyIter_list p.isList ?_
    refine ⟨s1.heap.objs.size, [s1.heap.objs.size], _, _, H1, rfl, I1.kept (t' := s1.toks) fun b o e => Heap.get?_push_of_some _ e, turn_list a _, ⟨_, Heap.get?_push_size _ rfl, rfl, rfl⟩, fun b hb => ?_, q⟩
    have e : b = s1.heap.objs.size := by simpa using hb
    subst e
    exact I1.fpOk (Nat.le_refl _) (I1.hok.fresh (Nat.le_refl _))
  · obtain ⟨its, rv, p, hz⟩ := I1.tuple hq
    refine wpAny_pyIter_tuple (show s1.heap.IsTuple a its.toArray from p) ?_
    refine ⟨s1.heap.objs.size, [s1.heap.objs.size], _, _, H1, rfl, I1.kept (t' := s1.toks) fun b o e => Heap.get?_push_of_some _ e, turn_tuple a _, ⟨_, Heap.get?_push_size _ rfl, rfl, rfl⟩, fun b hb => ?_, q⟩
    have e : b = s1.heap.objs.size := by simpa using hb
    subst e
    exact I1.fpOk (Nat.le_refl _) (I1.hok.fresh (Nat.le_refl _))
/-- a sequence that is read as long as it is walked -/
def SeqAt (K : PySem.W.Frag) (G0 : Gh) (gd : Gd) (a : Addr) (vs : List V) (tup : Bool) : Prop := ∀ G st H, G0.le G → SS K G st H → gdOk gd st → if tup = true then SqT K H a vs else SqL K H a vs
/-- the items, wherever they are represented -/
theorem rep_seq {K : PySem.W.Frag} {G : Gh} {st : S} {H : Hp} {d : D} {v : V} {l : List D} (s : SS K G st H) (r : Rep K G d v) (e : itemsD (vw st d) = some l) : ∃ a vs tup, v = .ref a ∧ Reps K G l vs ∧ gdOk (gdOf st d) st ∧ ∀ G2 st2 H2, G.le G2 → SS K G2 st2 H2 → gdOk (gdOf st d) st2 → ∃ us, Reps K G2 l us ∧ if tup = true then SqT K H2 a us else SqL K H2 a us := by
  cases r with
  | lst h rs =>
    cases e
    exact ⟨_, _, false, rfl, rs, fun _ z => (by cases z), fun G2 st2 H2 le s2 _ => ⟨_, rs.mono le, SqL.of (s2.ex _ _ (le.g _ _ h))⟩⟩
  | tup h rs =>
    cases e
    exact ⟨_, _, true, rfl, rs, fun _ z => (by cases z), fun G2 st2 H2 le s2 _ => ⟨_, rs.mono le, SqT.of (s2.ex _ _ (le.g _ _ h))⟩⟩
  | ref hp =>
    rename_i n p
    cases hc : st[n]? with
    | none => simp only [vw, hc] at e; cases e
    | some c =>
      have hgd : gdOf st (.ref n) = [(n, c)] := by unfold gdOf; simp only [hc]
      unfold vw at e
      simp only [hc] at e
      cases c with
      | lst l' =>
        cases e
        obtain ⟨vs, _, h1, rs⟩ := s.cell n _ p hc hp
        refine ⟨p, vs, false, rfl, rs, ?_, fun G2 st2 H2 le s2 gk => ?_⟩
        · rw [hgd]
          intro x hx
          have : x = (n, C.lst l) := by simpa using hx
          subst this
          exact hc
        · rw [hgd] at gk
          obtain ⟨us, _, h2, rs2⟩ := s2.cell n _ p (gk (n, C.lst l) (by simp)) (pre_get le.a hp)
          exact ⟨us, rs2, SqL.of h2⟩
      | _ => cases e
  | _ => cases e
theorem walks_seq {K : PySem.W.Frag} {G : Gh} {gd : Gd} {a : Addr} {ds : List D} (h : ∀ G2 st2 H2, G.le G2 → SS K G2 st2 H2 → gdOk gd st2 → ∃ us, Reps K G2 ds us ∧ SqL K H2 a us) : Walks K G (Itl K a) ds gd where
  stop := fun i G2 st H le s gk hi => by
    obtain ⟨us, r, q⟩ := h G2 st H le s gk
    exact ⟨us, q, by rw [← r.length]; exact hi⟩
  go := fun i G2 st H le s gk hi => by
    obtain ⟨us, r, q⟩ := h G2 st H le s gk
    exact ⟨us, us[i]'(by rw [← r.length]; exact hi), q, by simp [← r.length, hi]⟩
  yld := fun i G2 st H d x H' le s gk hd y => by
    obtain ⟨us, r, q⟩ := h G2 st H le s gk
    obtain ⟨e1, y⟩ := y
    obtain ⟨v, h1, h2⟩ := r.get hd
    have := y us q
    rw [h1] at this
    cases this
    exact .inl ⟨e1, h2⟩
theorem walks_tup {K : PySem.W.Frag} {G : Gh} {gd : Gd} {a : Addr} {ds : List D} (h : ∀ G2 st2 H2, G.le G2 → SS K G2 st2 H2 → gdOk gd st2 → ∃ us, Reps K G2 ds us ∧ SqT K H2 a us) : Walks K G (Itt K a) ds gd where
  stop := fun i G2 st H le s gk hi => by
    obtain ⟨us, r, q⟩ := h G2 st H le s gk
    exact ⟨us, q, by rw [← r.length]; exact hi⟩
  go := fun i G2 st H le s gk hi => by
    obtain ⟨us, r, q⟩ := h G2 st H le s gk
    exact ⟨us, us[i]'(by rw [← r.length]; exact hi), q, by simp [← r.length, hi]⟩
  yld := fun i G2 st H d x H' le s gk hd y => by
    obtain ⟨us, r, q⟩ := h G2 st H le s gk
    obtain ⟨e1, y⟩ := y
    obtain ⟨v, h1, h2⟩ := r.get hd
    have := y us q
    rw [h1] at this
    cases this
    exact .inl ⟨e1, h2⟩
theorem walks_rng {K : PySem.W.Frag} {G : Gh} {lo : Int} {n : Nat} : Walks K G (Itr lo n) ((List.range n).map fun (i : Nat) => D.int (lo + i)) [] where
  stop := fun i _ _ H _ _ _ hi => by
    rw [List.length_map, List.length_range] at hi
    exact hi
  go := fun i _ _ H _ _ _ hi => by
    rw [List.length_map, List.length_range] at hi
    exact hi
  yld := fun i _ _ H d x H' _ _ _ hd y => by
    obtain ⟨e1, y⟩ := y
    rw [List.getElem?_map] at hd
    have hi : i < n := by
      by_cases h : i < n
      · exact h
      · rw [List.getElem?_eq_none (by simpa using h)] at hd; cases hd
    rw [List.getElem?_range hi] at hd
    cases hd
    subst y
    exact .inl ⟨e1, .int _⟩
theorem axi_seq (h : AX X W l al) : AXI X W tg l (aIter al) := by
  obtain ⟨t, p, r⟩ := h
  refine ⟨_, pi_seq p, fun G env st σ H R q er s sl a t tX => r G env st σ H _ _ er s sl a (fun v d st2 G2 H2 p2 s2 r2 ⟨l, el, h2⟩ => ?_) tX⟩
  obtain ⟨a, vs, tup, rfl, rs, gk, hh⟩ := rep_seq s2 r2 el
  obtain ⟨us, _, q2⟩ := hh G2 st2 H2 (Gh.le.refl _) s2 gk
  refine ⟨a, rfl, ?_⟩
  cases tup with
  | false => exact .inl ⟨us, q2, t _ _ _ st2 G2 H2 p2 s2 (walks_seq hh) h2⟩
  | true => exact .inr ⟨us, q2, t _ _ _ st2 G2 H2 p2 s2 (walks_tup hh) h2⟩
theorem axi_rng1 (hm : X.mg "range" = none) (h : AX X W e ae) (hg : Gl X "range" := by rfl) (hs : starEach [e] X.env = [(false, eval e X.env)] := by rfl) : AXI X W tg (.Call (.Name "range" p) [e] [] pos) (aRng1 ae) := by
  obtain ⟨t, p, r⟩ := h
  refine ⟨_, pi_range1 hg hm (pa_cons p pa_nil (by rw [hs]; rfl)) hs, fun G env st σ H R q er s sl a t tX => r G env st σ H _ _ er s sl a (fun v d st2 G2 H2 p2 s2 r2 h2 => ?_) tX⟩
  cases r2 with
  | int j =>
    refine ⟨j, rfl, h2.1.1, h2.1.2, t _ _ _ st2 G2 H2 p2 s2 ?_ h2.2⟩
    have := walks_rng (K := X.K) (G := G2) (lo := 0) (n := j.toNat)
    simpa using this
  | _ => exact h2.elim
theorem axi_rng2 (hm : X.mg "range" = none) (h : AX X W e ae) (h' : AX X W e2 ab) (hg : Gl X "range" := by rfl) (hs : starEach [e, e2] X.env = [(false, eval e X.env), (false, eval e2 X.env)] := by rfl) (hs2 : starEach [e2] X.env = [(false, eval e2 X.env)] := by rfl) : AXI X W tg (.Call (.Name "range" p) [e, e2] [] pos) (aRng2 ae ab) := by
  obtain ⟨t, p, r⟩ := h
  obtain ⟨t', p', r'⟩ := h'
  refine ⟨_, pi_range2 hg hm (pa_cons p (pa_cons p' pa_nil (by rw [hs2]; rfl)) (by rw [hs, hs2])) hs hs2, fun G env st σ H R q er s sl a t tX => r G env st σ H _ _ er s sl a (fun v d st2 G2 H2 p2 s2 r2 h2 => r' G2 env st2 σ H2 _ _ er s2 (sl.mono p2.le) h2 (fun v' d' st3 G3 H3 p3 s3 r3 h3 => ?_) (tX.on p2)) tX⟩
  cases r2 with
  | int i =>
    cases r3 with
    | int j => exact ⟨i, j, rfl, h3.1, t _ _ _ st3 G3 H3 (p2.trans p3) s3 walks_rng h3.2⟩
    | _ => exact h3.elim
  | _ => cases d' <;> exact h3.elim
end
/-! ### calls -/
section
variable {X : Cx} {W : WX} {k j : Nat} {x : Str} {p pos : Pos} {e : Expr} {es : List Expr} {aa : AEs} {m : AF} {f : Addr} {fd : FuncData} {ps : List Str} {ds : List Value} {dd : List D} {dvs : List V}
/-- how defaults come in -/
def BindsD (K : PySem.W.Frag) (fd : FuncData) (ps : List Str) (dvs : List V) : Prop := ∃ ds, Vals dvs ds ∧ Binds K fd ps ds
theorem BindsD.no {K : PySem.W.Frag} {fd : FuncData} {ps : List Str} (b : Binds K fd ps []) : BindsD K fd ps [] := ⟨[], .nil, b⟩
theorem ax_call (C : CxE X W k) (F : FnOk X.prog X.w X.K X.mg X.base (L2N.CX X.prog X.w) j f fd ps (SpA X.K m)) (hm : X.mg x = some (.ref f)) (hk : PySem.W.keepIn X.K (.ref f) = true) (hb : BindsD X.K fd ps dvs) (hdd : ∀ G, Reps X.K G dd dvs) (ha : AXA X W (e :: es) aa) (hj : j ≤ k)
    (hg : Gl X x := by rfl) (hdb : (x == ("__debug__" : Str)) = false := by decide) (he : starEach (e :: es) X.env = (false, eval e X.env) :: starEach es X.env := by rfl) (hpl : (backTo pos (starEach es X.env)).any (·.1) = false := by rfl) : AX X W (.Call (.Name x p) (e :: es) [] pos) (aCall m aa dd) := by
  obtain ⟨t, p, r⟩ := ha
  obtain ⟨ds, hv, hb⟩ := hb
  exact ⟨_, pe_callSD F (C.room.mono hj) hg hm hk hb hv (fun σ => L2N.passAt C.takes σ) p hdb he hpl, refE_call r hdd⟩
theorem axf_call (C : CxE X W k) (F : FnOk X.prog X.w X.K X.mg X.base (L2N.CX X.prog X.w) j f fd ps (SpA X.K m)) (hm : X.mg x = some (.ref f)) (hk : PySem.W.keepIn X.K (.ref f) = true) (hb : BindsD X.K fd ps dvs) (hdd : ∀ G, Reps X.K G dd dvs) (ha : AXA X W (e :: es) aa) (hj : j ≤ k)
    (hg : Gl X x := by rfl) (hdb : (x == ("__debug__" : Str)) = false := by decide) (he : starEach (e :: es) X.env = (false, eval e X.env) :: starEach es X.env := by rfl) (hpl : (backTo pos (starEach es X.env)).any (·.1) = false := by rfl) : AXF X W (.Call (.Name x p) (e :: es) [] pos) (fCall m aa dd) := by
  obtain ⟨t, p, r⟩ := ha
  obtain ⟨ds, hv, hb⟩ := hb
  exact ⟨_, pe_callSD F (C.room.mono hj) hg hm hk hb hv (fun σ => L2N.passAt C.takes σ) p hdb he hpl, refF_call r hdd⟩
end
end AM
set_option Elab.async false
set_option linter.all false
set_option maxRecDepth 100000
set_option maxHeartbeats 4000000
namespace AM
open PySem L2 Evl PyProof.Rows
theorem OpR.or {X : Cx} {f : Value → Value → Sem Value} {r r' : R2} (h : OpR X f r) (h' : OpR X f r') : OpR X f (fun x y H Q => r x y H Q ∨ r' x y H Q) := fun pins s σ H x y v u Q I rx ry q => by
  rcases q with q | q
  · exact h pins s σ H x y v u Q I rx ry q
  · exact h' pins s σ H x y v u Q I rx ry q
theorem CallR.or {X : Cx} {f : Value} {r r' : List V → Hp → VK → Prop} (h : CallR X f r) (h' : CallR X f r') : CallR X f (fun x H Q => r x H Q ∨ r' x H Q) := fun pins s σ H x v Q I rx q => by
  rcases q with q | q
  · exact h pins s σ H x v Q I rx q
  · exact h' pins s σ H x v Q I rx q
/-! ### plain data, equality -/
mutual
def D.py : D → PyData
  | .non => .none
  | .bl b => .bool b
  | .int i => .int i
  | .str x => .str x
  | .lst l => .list (D.pys l)
  | .tup l => .tuple (D.pys l)
  | .dic _ => .dict []
  | .obj _ _ => .dict []
  | .fn _ => .dict []
  | .ty _ => .dict []
  | .ref _ => .dict []
  | .scr _ => .dict []
def D.pys : List D → List PyData
  | [] => []
  | d :: ds => d.py :: D.pys ds
end
mutual
def D.plain : D → Bool
  | .non => true
  | .bl _ => true
  | .int _ => true
  | .str x => PyData.strOk x
  | .lst l => D.plains l
  | .tup l => D.plains l
  | _ => false
def D.plains : List D → Bool
  | [] => true
  | d :: ds => d.plain && D.plains ds
end
mutual
def D.dep : D → Nat
  | .lst l => D.deps l + 1
  | .tup l => D.deps l + 1
  | _ => 0
def D.deps : List D → Nat
  | [] => 0
  | d :: ds => max d.dep (D.deps ds)
end
mutual
def D.eqv : D → D → Bool
  | .non, .non => true
  | .bl a, .bl b => a == b
  | .bl a, .int j => (if a then 1 else 0) == j
  | .int i, .bl b => i == (if b then 1 else 0)
  | .int i, .int j => i == j
  | .str x, .str y => x == y
  | .lst xs, .lst ys => D.eqvs xs ys
  | .tup xs, .tup ys => D.eqvs xs ys
  | _, _ => false
def D.eqvs : List D → List D → Bool
  | [], [] => true
  | x :: xs, y :: ys => D.eqv x y && D.eqvs xs ys
  | _, _ => false
end
mutual
theorem D.py_eqv : ∀ {a b : D}, a.plain = true → b.plain = true → PyData.eqv a.py b.py = D.eqv a b
  | .non, b, _, hb => by cases b <;> first | rfl | cases hb
  | .bl _, b, _, hb => by cases b <;> first | rfl | cases hb
  | .int _, b, _, hb => by cases b <;> first | rfl | cases hb
  | .str _, b, _, hb => by cases b <;> first | rfl | cases hb
  | .lst xs, b, ha, hb => by
    cases b with
    | lst ys => exact D.pys_eqv ha hb
    | _ => first | rfl | cases hb
  | .tup xs, b, ha, hb => by
    cases b with
    | tup ys => exact D.pys_eqv ha hb
    | _ => first | rfl | cases hb
  | .dic _, _, ha, _ => by cases ha
  | .obj _ _, _, ha, _ => by cases ha
  | .fn _, _, ha, _ => by cases ha
  | .ty _, _, ha, _ => by cases ha
  | .ref _, _, ha, _ => by cases ha
  | .scr _, _, ha, _ => by cases ha
theorem D.pys_eqv : ∀ {a b : List D}, D.plains a = true → D.plains b = true → PyData.eqvAll (D.pys a) (D.pys b) = D.eqvs a b
  | [], [], _, _ => rfl
  | [], _ :: _, _, _ => rfl
  | _ :: _, [], _, _ => rfl
  | x :: xs, y :: ys, ha, hb => by
    obtain ⟨h1, h2⟩ := Bool.and_eq_true_iff.mp (show (x.plain && D.plains xs) = true from ha)
    obtain ⟨h3, h4⟩ := Bool.and_eq_true_iff.mp (show (y.plain && D.plains ys) = true from hb)
    show (PyData.eqv x.py y.py && PyData.eqvAll (D.pys xs) (D.pys ys)) = (D.eqv x y && D.eqvs xs ys)
    rw [D.py_eqv h1 h3, D.pys_eqv h2 h4]
end
mutual
theorem D.py_lay : ∀ {a : D}, a.plain = true → PyData.canLay0 a.py = true
  | .non, _ => rfl
  | .bl _, _ => rfl
  | .int _, _ => rfl
  | .str _, h => h
  | .lst xs, h => D.pys_lay (a := xs) h
  | .tup xs, h => D.pys_lay (a := xs) h
  | .dic _, h => by cases h
  | .obj _ _, h => by cases h
  | .fn _, h => by cases h
  | .ty _, h => by cases h
  | .ref _, h => by cases h
  | .scr _, h => by cases h
theorem D.pys_lay : ∀ {a : List D}, D.plains a = true → PyData.canLayAll0 (D.pys a) = true
  | [], _ => rfl
  | x :: xs, h => by
    obtain ⟨h1, h2⟩ := Bool.and_eq_true_iff.mp (show (x.plain && D.plains xs) = true from h)
    show (PyData.canLay0 x.py && PyData.canLayAll0 (D.pys xs)) = true
    rw [D.py_lay h1, D.pys_lay h2]; rfl
end
mutual
theorem D.py_dep : ∀ {a : D}, a.plain = true → PyData.depth a.py = a.dep
  | .non, _ => rfl
  | .bl _, _ => rfl
  | .int _, _ => rfl
  | .str _, h => rfl
  | .lst xs, h => congrArg (· + 1) (D.pys_dep (a := xs) h)
  | .tup xs, h => congrArg (· + 1) (D.pys_dep (a := xs) h)
  | .dic _, h => by cases h
  | .obj _ _, h => by cases h
  | .fn _, h => by cases h
  | .ty _, h => by cases h
  | .ref _, h => by cases h
  | .scr _, h => by cases h
theorem D.pys_dep : ∀ {a : List D}, D.plains a = true → PyData.depthAll (D.pys a) = D.deps a
  | [], _ => rfl
  | x :: xs, h => by
    obtain ⟨h1, h2⟩ := Bool.and_eq_true_iff.mp (show (x.plain && D.plains xs) = true from h)
    show max (PyData.depth x.py) (PyData.depthAll (D.pys xs)) = max x.dep (D.deps xs)
    rw [D.py_dep h1, D.pys_dep h2]
end
def D.shp (d : D) : Prop := d.plain = true ∧ d.dep ≤ 64
theorem D.shaped {d : D} (h : d.shp) : SeqAt.shaped d.py = true := by
  unfold SeqAt.shaped
  rw [D.py_lay h.1, D.py_dep h.1]
  simpa using h.2
section
variable {K : PySem.W.Frag} {G : Gh} {H : Hp}
mutual
theorem Rep.dp (e : Ex G.g H) : ∀ {d : D} {v : V}, Rep K G d v → d.plain = true → Dp K H v d.py
  | _, _, .non, _ => .non
  | _, _, .bl b, _ => .bl b
  | _, _, .int b, _ => .int b
  | _, _, .str b, _ => .str b
  | _, _, .lst h r, p => .lst (SqL.of (e _ _ h)) (Reps.dp e r p)
  | _, _, .tup h r, p => .tup (SqT.of (e _ _ h)) (Reps.dp e r p)
  | _, _, .dicK _ _, p => by cases p
  | _, _, .dicT _ _, p => by cases p
  | _, _, .obj _ _, p => by cases p
  | _, _, .fn _, p => by cases p
  | _, _, .ty _, p => by cases p
  | _, _, .ref _, p => by cases p
  | _, _, .scr _ _, p => by cases p
theorem Reps.dp (e : Ex G.g H) : ∀ {d : List D} {v : List V}, Reps K G d v → D.plains d = true → DpAll K H v (D.pys d)
  | _, _, .nil, _ => .nil
  | _, _, .cons (d := x) (ds := xs) h r, p => by
    obtain ⟨h1, h2⟩ := Bool.and_eq_true_iff.mp (show (x.plain && D.plains xs) = true from p)
    exact .cons (Rep.dp e h h1) (Reps.dp e r h2)
end
end
theorem Rv.dp {K : PySem.W.Frag} {G : Gh} {H : Hp} (e : Ex G.g H) {d : D} {v : V} (r : Rv K G H d v) (p : d.plain = true) : Dp K H v d.py := by
  cases r with
  | non => exact .non
  | bl b => exact .bl b
  | int b => exact .int b
  | str b => exact .str b
  | lst h r => exact .lst (SqL.of h) (Reps.dp e r p)
  | tup h r _ => exact .tup (SqT.of h) (Reps.dp e r p)
  | _ => cases p
def oEq : O2 := fun x y q => x.shp ∧ y.shp ∧ q (.bl (D.eqv x y))
def oNe : O2 := fun x y q => x.shp ∧ y.shp ∧ q (.bl (!D.eqv x y))
section
variable {X : Cx} {K : PySem.W.Frag}
theorem ref_eq : RefO K (rEqD K) oEq := fun G st H x y dx dy Q q s rx ry ⟨h1, h2, h⟩ t =>
  ⟨dx.py, dy.py, rx.dp s.ex h1.1, ry.dp s.ex h2.1, D.shaped h1, D.shaped h2, by rw [D.py_eqv h1.1 h2.1]; exact t.here s (.bl _) h⟩
theorem ref_ne : RefO K (rNeD K) oNe := fun G st H x y dx dy Q q s rx ry ⟨h1, h2, h⟩ t =>
  ⟨dx.py, dy.py, rx.dp s.ex h1.1, ry.dp s.ex h2.1, D.shaped h1, D.shaped h2, by rw [D.py_eqv h1.1 h2.1]; exact t.here s (.bl _) h⟩
theorem u64 {A : Around} {k : Nat} (h : Room k A) : A.units + 65 < cLine := by have := h.un; omega
theorem op_Eq {W : WX} {k : Nat} (C : CxE X W k) : OpR X (compareOp .Eq) (rEqD X.K) ∧ RefO X.K (rEqD X.K) oEq := ⟨op_eqD (by have := u64 C.room; omega), ref_eq⟩
theorem op_Ne {W : WX} {k : Nat} (C : CxE X W k) : OpR X (compareOp .NotEq) (rNeD X.K) ∧ RefO X.K (rNeD X.K) oNe := ⟨op_neD (by have := u64 C.room; omega), ref_ne⟩
/-! ### numbers -/
def oI (g : Int → Int → D) : O2 := fun x y q => match x, y with
  | .int i, .int j => q (g i j)
  | _, _ => False
def oIC (C : Int → Int → Prop) (g : Int → Int → D) : O2 := fun x y q => match x, y with
  | .int i, .int j => C i j ∧ q (g i j)
  | _, _ => False
def CFd (_ j : Int) : Prop := j ≠ 0 ∧ j.natAbs.log2 < 9000
theorem ref_i {g : Int → Int → V} {g' : Int → Int → D} (h : ∀ G i j, Rep K G (g' i j) (g i j)) : RefO K (rI0 g) (oI g') := fun G st H x y dx dy Q q s rx ry h1 t => by
  cases rx with
  | int i =>
    cases ry with
    | int j => exact ⟨i, j, rfl, rfl, t.here s (h G i j) h1⟩
    | _ => exact h1.elim
  | _ => cases dy <;> exact h1.elim
theorem ref_ic {C : Int → Int → Prop} {g : Int → Int → V} {g' : Int → Int → D} (h : ∀ G i j, Rep K G (g' i j) (g i j)) : RefO K (rI C g) (oIC C g') := fun G st H x y dx dy Q q s rx ry h1 t => by
  cases rx with
  | int i =>
    cases ry with
    | int j => exact ⟨i, j, rfl, rfl, h1.1, t.here s (h G i j) h1.2⟩
    | _ => exact h1.elim
  | _ => cases dy <;> exact h1.elim
abbrev oSub : O2 := oI fun i j => .int (i - j)
abbrev oMul : O2 := oIC CMulW fun i j => .int (i * j)
abbrev oFdiv : O2 := oIC CFd fun i j => .int (i.fdiv j)
abbrev oMod : O2 := oIC (fun _ j => j ≠ 0) fun i j => .int (i.fmod j)
abbrev oPow : O2 := oIC CPow fun i j => .int (i ^ j.toNat)
abbrev oLt : O2 := oI fun i j => .bl (decide (i < j))
abbrev oLe : O2 := oI fun i j => .bl (decide (i ≤ j))
abbrev oGt : O2 := oI fun i j => .bl (decide (j < i))
abbrev oGe : O2 := oI fun i j => .bl (decide (j ≤ i))
theorem op_fdivX : OpR X (binaryOp .FloorDiv) (rI CFd fun i j => .int (i.fdiv j)) := opI fun i j _ _ _ _ _ hc q => floordiv_int hc.1 q (.inl (PyProof.noPylong_of_log2 hc.2))
theorem op_Sub : OpR X (binaryOp .Sub) (rI0 fun i j => .int (i - j)) ∧ RefO X.K (rI0 fun i j => .int (i - j)) oSub := ⟨op_sub, ref_i fun _ _ _ => .int _⟩
theorem op_Mul : OpR X (binaryOp .Mult) (rI CMulW fun i j => .int (i * j)) ∧ RefO X.K (rI CMulW fun i j => .int (i * j)) oMul := ⟨op_mulW, ref_ic fun _ _ _ => .int _⟩
theorem op_Fdiv : OpR X (binaryOp .FloorDiv) (rI CFd fun i j => .int (i.fdiv j)) ∧ RefO X.K (rI CFd fun i j => .int (i.fdiv j)) oFdiv := ⟨op_fdivX, ref_ic fun _ _ _ => .int _⟩
theorem op_Mod : OpR X (binaryOp .Mod) (rI (fun _ j => j ≠ 0) fun i j => .int (i.fmod j)) ∧ RefO X.K (rI (fun _ j => j ≠ 0) fun i j => .int (i.fmod j)) oMod := ⟨op_modN, ref_ic fun _ _ _ => .int _⟩
theorem op_Pow : OpR X (binaryOp .Pow) (rI CPow fun i j => .int (i ^ j.toNat)) ∧ RefO X.K (rI CPow fun i j => .int (i ^ j.toNat)) oPow := ⟨op_pow, ref_ic fun _ _ _ => .int _⟩
theorem op_Lt : OpR X (compareOp .Lt) (rI0 fun i j => .bl (decide (i < j))) ∧ RefO X.K (rI0 fun i j => .bl (decide (i < j))) oLt := ⟨op_lt, ref_i fun _ _ _ => .bl _⟩
theorem op_Le : OpR X (compareOp .LtE) (rI0 fun i j => .bl (decide (i ≤ j))) ∧ RefO X.K (rI0 fun i j => .bl (decide (i ≤ j))) oLe := ⟨op_le, ref_i fun _ _ _ => .bl _⟩
theorem op_Gt : OpR X (compareOp .Gt) (rI0 fun i j => .bl (decide (j < i))) ∧ RefO X.K (rI0 fun i j => .bl (decide (j < i))) oGt := ⟨op_gt, ref_i fun _ _ _ => .bl _⟩
theorem op_Ge : OpR X (compareOp .GtE) (rI0 fun i j => .bl (decide (j ≤ i))) ∧ RefO X.K (rI0 fun i j => .bl (decide (j ≤ i))) oGe := ⟨op_ge, ref_i fun _ _ _ => .bl _⟩
def oNeg : O1 := fun x q => match x with
  | .int i => q (.int (-i))
  | _ => False
theorem op_Neg : UnR X (unaryOp .USub) (rU fun i => .int (-i)) ∧ RefU X.K (rU fun i => .int (-i)) oNeg := ⟨un_neg, fun G st H x dx Q q s rx h t => by
  cases rx with
  | int i => exact ⟨i, rfl, t.here s (.int _) h⟩
  | _ => exact h.elim⟩
/-- +: ints, lists, texts -/
def oAdd : O2 := fun x y q => match x, y with
  | .int i, .int j => q (.int (i + j))
  | .lst a, .lst b => a.length + b.length ≤ 100000 ∧ q (.lst (a ++ b))
  | .str a, .str b => a.length + b.length ≤ 100000 ∧ q (.str (a ++ b))
  | _, _ => False
def rSqL2 (K : PySem.W.Frag) : R2 := fun x y H Q => ∃ p p' a b, x = .ref p ∧ y = .ref p' ∧ SqL K H p a ∧ SqL K H p' b ∧ a.length + b.length ≤ sizeLine ∧ ∀ l, H l = none → Q (.ref l) (upd H l (.lst (a ++ b)))
end
section
variable {X : Cx} {K : PySem.W.Frag} {W : WX} {k : Nat}
def rAddA : R2 := fun x y H Q => rI0 (fun i j => .int (i + j)) x y H Q ∨ rCat x y H Q ∨ (∃ i j, x = .str i ∧ y = .str j ∧ i.length + j.length ≤ sizeLine ∧ Q (.str (i ++ j)) H)
theorem op_Add : OpR X (binaryOp .Add) rAddA ∧ RefO X.K rAddA oAdd := by
  refine ⟨OpR.or op_add (OpR.or op_cat op_add_str), fun G st H x y dx dy Q q s rx ry h t => ?_⟩
  cases rx with
  | int i =>
    cases ry with
    | int j => exact .inl ⟨i, j, rfl, rfl, t.here s (.int _) h⟩
    | _ => exact h.elim
  | lst h1 r1 =>
    cases ry with
    | lst h2 r2 => exact .inr (.inl ⟨_, _, _, _, rfl, rfl, h1, h2, sz_of (by rw [← r1.length, ← r2.length]; exact h.1), fun p hp => t.newL s (r1.append r2) h.2 hp⟩)
    | _ => exact h.elim
  | str i =>
    cases ry with
    | str j => exact .inr (.inr ⟨i, j, rfl, rfl, sz_of h.1, t.here s (.str _) h.2⟩)
    | _ => exact h.elim
  | _ => cases dy <;> exact h.elim
/-- x[i] -/
theorem atI_reps {G : Gh} {ds : List D} {vs : List V} {i : Int} {d : D} (r : Reps K G ds vs) (h : atI ds i = some d) : ∃ v, atI vs i = some v ∧ Rep K G d v := by
  unfold atI at h ⊢
  rw [← r.length]
  cases hj : ixN ds.length i with
  | none => rw [hj] at h; cases h
  | some j =>
    rw [hj] at h
    exact r.get h
def oIx : O2 := fun x y q => match x, y with
  | .lst l, .int i => ∃ d, atI l i = some d ∧ q d
  | .tup l, .int i => ∃ d, atI l i = some d ∧ q d
  | .str s, .int i => s.length ≤ 100000 ∧ ∃ c, atI s.cps.toList i = some c ∧ q (.str ⟨#[c]⟩)
  | _, _ => False
def rIxA (K : PySem.W.Frag) : R2 := fun x y H Q => rIxL K x y H Q ∨ rIxT K x y H Q ∨ rIxS x y H Q
theorem op_Ix : IxR X (rIxA X.K) ∧ RefO X.K (rIxA X.K) oIx := by
  refine ⟨IxR.or ix_list (IxR.or ix_tup ix_str), fun G st H x y dx dy Q q s rx ry h t => ?_⟩
  cases rx with
  | lst h1 r1 =>
    cases ry with
    | int i =>
      obtain ⟨d, hd, h⟩ := h
      obtain ⟨v, hv, rv⟩ := atI_reps r1 hd
      exact .inl ⟨_, _, i, v, rfl, rfl, SqL.of h1, hv, t.here s rv h⟩
    | _ => exact h.elim
  | tup h1 r1 rt =>
    cases ry with
    | int i =>
      obtain ⟨d, hd, h⟩ := h
      obtain ⟨v, hv, rv⟩ := atI_reps r1 hd
      exact .inr (.inl ⟨_, _, i, v, rfl, rfl, SqT.of h1, hv, t.here s rv h⟩)
    | _ => exact h.elim
  | str sx =>
    cases ry with
    | int i =>
      obtain ⟨hl, c, hc, h⟩ := h
      exact .inr (.inr ⟨sx, i, c, rfl, rfl, sz_of hl, hc, t.here s (.str _) h⟩)
    | _ => exact h.elim
  | _ => cases dy <;> exact h.elim
/-! ### built-ins -/
def bAbs : ON := fun xs q => match xs with
  | [.int i] => q (.int (if i < 0 then -i else i))
  | _ => False
theorem cb_abs : CB X (.builtin "abs") bAbs := ⟨_, call_abs, fun G st H xs ds Q q s r h t => by
  unfold bAbs at h
  split at h
  · cases r with
    | cons r1 r2 => cases r1; cases r2; exact ⟨_, rfl, t.here s (.int _) h⟩
  · exact h.elim⟩
def bMax2 : ON := fun xs q => match xs with
  | [.int i, .int j] => q (.int (if j > i then j else i))
  | _ => False
theorem cb_max2 (C : CxE X W k) : CB X (.builtin "max") bMax2 := ⟨_, call_max2 C.calm, fun G st H xs ds Q q s r h t => by
  unfold bMax2 at h
  split at h
  · cases r with
    | cons r1 r2 =>
      cases r2 with
      | cons r2 r3 => cases r1; cases r2; cases r3; exact ⟨_, _, rfl, t.here s (.int _) h⟩
  · exact h.elim⟩
def bMin2 : ON := fun xs q => match xs with
  | [.int i, .int j] => q (.int (if j < i then j else i))
  | _ => False
theorem cb_min2 (C : CxE X W k) : CB X (.builtin "min") bMin2 := ⟨_, call_min2 C.calm, fun G st H xs ds Q q s r h t => by
  unfold bMin2 at h
  split at h
  · cases r with
    | cons r1 r2 =>
      cases r2 with
      | cons r2 r3 => cases r1; cases r2; cases r3; exact ⟨_, _, rfl, t.here s (.int _) h⟩
  · exact h.elim⟩
def bInt : ON := fun xs q => match xs with
  | [.int i] => q (.int i)
  | [.bl b] => q (.int (if b then 1 else 0))
  | _ => False
theorem cb_int : CB X (.type "int") bInt := ⟨_, call_int1, fun G st H xs ds Q q s r h t => by
  unfold bInt at h
  split at h
  · cases r with
    | cons r1 r2 => cases r1; cases r2; exact .inl ⟨_, rfl, t.here s (.int _) h⟩
  · cases r with
    | cons r1 r2 => cases r1; cases r2; exact .inr ⟨_, rfl, t.here s (.int _) h⟩
  · exact h.elim⟩
def lenD : D → Option Nat
  | .lst l => some l.length
  | .tup l => some l.length
  | .str s => if s.length ≤ 100000 then some s.length else none
  | _ => none
def bLen : ON := fun xs q => match xs with
  | [x] => ∃ n, lenD x = some n ∧ q (.int n)
  | _ => False
theorem cb_len : CB X (.builtin "len") bLen := ⟨_, call_len, fun G st H xs ds Q q s r h t => by
  unfold bLen at h
  split at h
  · rename_i x
    obtain ⟨n, hn, h⟩ := h
    cases r with
    | cons r1 r2 =>
      cases r2
      refine ⟨_, n, rfl, ?_, t.here s (.int _) h⟩
      cases r1 with
      | lst h1 r1 => cases hn; exact .inl ⟨_, SqL.of h1, r1.length⟩
      | tup h1 r1 rt => cases hn; exact .inr ⟨_, SqT.of h1, r1.length⟩
      | str s =>
        have hn' : (if s.length ≤ 100000 then some s.length else none) = some n := hn
        by_cases hz : s.length ≤ 100000
        · rw [if_pos hz] at hn'
          cases hn'
          exact ⟨sz_of hz, rfl⟩
        · rw [if_neg hz] at hn'; cases hn'
      | _ => cases hn
  · exact h.elim⟩
def bList : ON := fun xs q => match xs with
  | [x] => ∃ l, itemsD x = some l ∧ q (.lst l)
  | _ => False
theorem cb_list : CB X (.type "list") bList := ⟨_, call_list_of, fun G st H xs ds Q q s r h t => by
  unfold bList at h
  split at h
  · obtain ⟨l, hl, h⟩ := h
    cases r with
    | cons r1 r2 =>
      cases r2
      cases r1 with
      | lst h1 r1 => cases hl; exact ⟨_, _, rfl, .inl (SqL.of h1), fun p hp => t.newL s r1 h hp⟩
      | tup h1 r1 rt => cases hl; exact ⟨_, _, rfl, .inr (SqT.of h1), fun p hp => t.newL s r1 h hp⟩
      | _ => cases hl
  · exact h.elim⟩
def bTuple : ON := fun xs q => match xs with
  | [x] => ∃ l, itemsD x = some l ∧ q (.tup l)
  | _ => False
theorem cb_tuple : CB X (.type "tuple") bTuple := ⟨_, call_tuple_of, fun G st H xs ds Q q s r h t => by
  unfold bTuple at h
  split at h
  · obtain ⟨l, hl, h⟩ := h
    cases r with
    | cons r1 r2 =>
      cases r2
      cases r1 with
      | lst h1 r1 => cases hl; exact ⟨_, _, rfl, .inl ⟨SqL.of h1, fun p hp => t.newT s r1 h hp⟩⟩
      | tup h1 r1 rt => cases hl; exact ⟨_, _, rfl, .inr ⟨SqT.of h1, t.here s rt h⟩⟩
      | _ => cases hl
  · exact h.elim⟩
/-! ### isinstance of data and built-in classes -/
def tyD : D → Option String
  | .non => some "NoneType"
  | .bl _ => some "bool"
  | .int _ => some "int"
  | .str _ => some "str"
  | .lst _ => some "list"
  | .tup _ => some "tuple"
  | .dic _ => some "dict"
  | _ => none
theorem ty_ok {G : Gh} {H : Hp} {d : D} {v : V} {t : String} (r : Rv K G H d v) (h : tyD d = some t) : TyX K H v (.type t) := by
  cases r with
  | non => cases h; exact .base .non
  | bl b => cases h; exact .base (.bl b)
  | int b => cases h; exact .base (.int b)
  | str b => cases h; exact .base (.str b)
  | lst h1 _ => cases h; exact .base (.lst h1)
  | tup h1 _ _ => cases h; exact .base (.tup h1)
  | dicK h1 _ => cases h; exact .base (.dK h1)
  | dicT h1 _ => cases h; exact .base (.dT h1)
  | _ => cases h
def clsD : D → Option (List String)
  | .ty n => some [n]
  | .tup l => l.mapM fun d => match d with
    | .ty n => some n
    | _ => none
  | _ => none
def kitS (t : String) : List String → Option Bool
  | [] => some false
  | c :: r => match kitB t c with
    | some true => some true
    | some false => kitS t r
    | none => none
def bIsi : ON := fun xs q => match xs with
  | [x, .ty c] => ∃ t b, tyD x = some t ∧ kitB t c = some b ∧ q (.bl b)
  | [x, .tup l] => ∃ t cs b, tyD x = some t ∧ l = cs.map D.ty ∧ kitS t cs = some b ∧ q (.bl b)
  | _ => False
theorem kitS_ok {t : String} {b : Bool} : ∀ {cs : List String}, kitS t cs = some b → PySem.W.kitAny K (.type t) (cs.map fun c => Value.type c) = some b
  | [], h => h
  | c :: cs, h => by
    have h' : (match kitB t c with | some true => some true | some false => kitS t cs | none => none) = some b := h
    show (match PySem.W.kitOne K (.type t) (.type c) with | some true => some true | some false => PySem.W.kitAny K (.type t) (cs.map fun c => Value.type c) | none => none) = some b
    cases hk : kitB t c with
    | none => rw [hk] at h'; cases h'
    | some x =>
      rw [kit_ty hk]
      rw [hk] at h'
      cases x with
      | true => exact h'
      | false => exact kitS_ok h'
theorem tys_ok {G : Gh} : ∀ {cs : List String} {vs : List V}, Reps K G (cs.map D.ty) vs → vs = cs.map V.ty
  | [], _, .nil => rfl
  | c :: cs, _, .cons h r => by
    cases h
    rw [tys_ok (cs := cs) r]; rfl
theorem cls_tys : ∀ (cs : List String), Paired ClsV (cs.map V.ty) (cs.map fun c => Value.type c)
  | [] => .nil
  | c :: cs => .cons (.ty c) (cls_tys cs)
theorem cb_isi : CB X (.builtin "isinstance") bIsi := ⟨_, CallR.or call_isi call_isiT, fun G st H xs ds Q q s r h t => by
  unfold bIsi at h
  split at h
  · obtain ⟨ty, b, h1, h2, h⟩ := h
    cases r with
    | cons r1 r2 =>
      cases r2 with
      | cons r2 r3 =>
        cases r2; cases r3
        exact .inl ⟨_, _, _, _, b, rfl, .ty _, ty_ok r1 h1, kit_ty h2, t.here s (.bl _) h⟩
  · obtain ⟨ty, cs, b, h1, rfl, h2, h⟩ := h
    cases r with
    | cons r1 r2 =>
      cases r2 with
      | cons r2 r3 =>
        cases r3
        cases r2 with
        | tup ht rt _ =>
          have := tys_ok rt
          subst this
          exact .inr ⟨_, _, _, _, _, b, rfl, ht, cls_tys cs, ty_ok r1 h1, kitS_ok h2, t.here s (.bl _) h⟩
  · exact h.elim⟩
/-- a built-in class's name as a value -/
theorem ax_ty {x : Str} {n : String} {pos : Pos} (hm : X.mg x = none) (hv : bootBuiltins x = some (.type n)) (hg : Gl X x := by rfl) (hn : x ≠ "__name__" := by decide) (hd : (x == ("__debug__" : Str)) = false := by decide) : AX X W (.Name x pos) (aC (.ty n)) := ⟨_, pe_bltn (v := .ty n) hg hm hv rfl hn hd, refE_c fun _ => .ty n⟩
/-- all, any, sum of lists -/
theorem bls_ok {G : Gh} : ∀ {bs : List Bool} {vs : List V}, Reps K G (bs.map D.bl) vs → vs = bs.map V.bl
  | [], _, .nil => rfl
  | c :: cs, _, .cons h r => by
    cases h
    rw [bls_ok (bs := cs) r]; rfl
theorem ints_ok {G : Gh} : ∀ {bs : List Int} {vs : List V}, Reps K G (bs.map D.int) vs → vs = bs.map V.int
  | [], _, .nil => rfl
  | c :: cs, _, .cons h r => by
    cases h
    rw [ints_ok (bs := cs) r]; rfl
def bAll : ON := fun xs q => ∃ bs : List Bool, xs = [.lst (bs.map D.bl)] ∧ q (.bl (bs.all id))
def bAny : ON := fun xs q => ∃ bs : List Bool, xs = [.lst (bs.map D.bl)] ∧ q (.bl (bs.any id))
def bSum : ON := fun xs q => ∃ ns : List Int, xs = [.lst (ns.map D.int)] ∧ q (.int ns.sum)
theorem cb_all (C : CxE X W k) : CB X (.builtin "all") bAll := ⟨_, cr_all C.calm, fun G st H xs ds Q q s r ⟨bs, eb, h⟩ t => by
  subst eb
  cases r with
  | cons r1 r2 =>
    cases r2
    cases r1 with
    | lst h1 r1 =>
      have := bls_ok r1
      subst this
      exact ⟨_, bs, rfl, SqL.of h1, t.here s (.bl _) h⟩⟩
theorem cb_any (C : CxE X W k) : CB X (.builtin "any") bAny := ⟨_, cr_any C.calm, fun G st H xs ds Q q s r ⟨bs, eb, h⟩ t => by
  subst eb
  cases r with
  | cons r1 r2 =>
    cases r2
    cases r1 with
    | lst h1 r1 =>
      have := bls_ok r1
      subst this
      exact ⟨_, bs, rfl, SqL.of h1, t.here s (.bl _) h⟩⟩
theorem cb_sum (C : CxE X W k) : CB X (.builtin "sum") bSum := ⟨_, cr_sum C.calm, fun G st H xs ds Q q s r ⟨bs, eb, h⟩ t => by
  subst eb
  cases r with
  | cons r1 r2 =>
    cases r2
    cases r1 with
    | lst h1 r1 =>
      have := ints_ok r1
      subst this
      exact ⟨_, bs, rfl, SqL.of h1, t.here s (.int _) h⟩⟩
end
end AM
set_option Elab.async false
set_option linter.all false
set_option maxRecDepth 100000
set_option maxHeartbeats 4000000
namespace AM
open PySem PySem.W PySem.Calls PyProof.Rows
/-! ### an own error's __init__: super().__init__(text), then at most one field -/
section
variable {prog : Program} {w : World} {A : Around} {E : Value → Shared → Prop} {h : Heap} {g : Array GenState} {d : Drawn} {t : Nat} {os : OsState}
variable {nm q : Str} {C N : Addr} {bs bm : List Value} {hdct : Bool} {sn : List Str} {sub : List Value} {ab : Bool} {col : Option Bool} {dd : Option Addr} {k0 k1 k2 k3 k5 : Option Value}
theorem call_mw {u e t0 : Addr} {rest : List Value} {Q : Value → Shared → Prop}
    (hC : h.get? C = some (excClassObj nm q C N bs bm hdct sn sub ab col dd k0 k1 k2 k3 k5 "ValueError.__new__")) (he : h.get? e = some (HandSPX.excO C t0)) (hu : h.get? u = some (kxs_mw "ValueError.__init__" e)) (hrest : rest.length ≤ sizeLine)
    (hq : ∀ h' t1, (∀ b o, b ≠ e → h.get? b = some o → h'.get? b = some o) → h'.get? e = some (HandSPX.excO C t1) → h.objs.size ≤ h'.objs.size → Q .none ⟨h', g, d, t, os⟩) :
    wpAny (model prog w) A (call (.ref u) rest) Q E ⟨h, g, d, t, os⟩ := by
  refine wpAny_call (codeAny_of_tree ?_)
  show wpAny _ A.in1 (callAny (.ref u) ⟨rest, []⟩) _ _ _
  simp only [callAny]
  refine wpAny_bind (wpAny_load hu ?_)
  simp only [kxs_mw, show (Value.type "method-wrapper" == Value.type "method" || Value.type "method-wrapper" == Value.type "builtin_function_or_method" || Value.type "method-wrapper" == Value.type "method-wrapper") = true by decide, if_true]
  refine KFB.if_so (by decide) ?_
  refine wpAny_bind (check_bound_init F.excBase_ValueError.toExcCallFacts hC he rfl ?_)
  refine wpAny_bind (wpAny_pure (wpAny_pure ?_))
  refine ⟨Code.quiet_builtin _ (by decide +kernel), codeAny_builtin F.excBase_ValueError.initEntry ?_⟩
  rw [Around.under_plainId F.excBase_ValueError.init.plain _]
  wp_walk
  refine hq _ h.objs.size (fun b o hb ho => ?_) ?_ ?_
  · rw [Heap.get?_update_other _ _ (Ne.symm hb)]
    exact Heap.get?_push_of_some _ ho
  · rw [Heap.get?_update_self _ (Heap.get?_push_of_some _ he) rfl]
    rfl
  · rw [Heap.size_update, Heap.size_push]; exact Nat.le_succ _
end
/-- what is known of the class and of its __init__ -/
structure XC (P : Program) (K : Frag) (mg : Str → Option Value) (C f : Addr) (fd : FuncData) (params : Arguments) (body : List Stmt) (scope : Scope) : Prop where
  ox : L2.OexC K C
  fn : ∃ (qual : Str) (kV doc pm ct oc : Value) (an od : Option Addr) (osl : Array (Option Value)) (cc cda : Addr) (cl : Value) (cld : Option Addr) (csl : Array (Option Value)) (ccl : Value) (cdd : Option Addr) (vs : Array Value) (ccs : Array (Option Value)) (tf : Tok),
    fd = ksFn "__init__" qual params body scope .none kV doc pm an (.ref cda) ct cc ∧ K.lookup f = some ⟨oc, od, .func fd, osl⟩ ∧ codeIn K (.ref cda) qual = true ∧ K.lookup cc = some ⟨cl, cld, .cell (some (.ref C)), csl⟩ ∧
    K.lookup cda = some ⟨ccl, cdd, .fields vs, ccs⟩ ∧ vs[2]? = some (.str P.main.file tf)
  su : ks_superIn K C C "__init__" = some (some (.builtin "ValueError.__init__"))
  ve : subIn K (.ref C) (.type "ValueError") = some true
  mr : mroIn K C (.ref C) = some true
  st : nsIn K cStatics "thirdparty.any" = some none
  mgs : mg "super" = none
  top : (P.main.scope.names.lookup ("super" : Str)).isSome = false
  ini : findIn K (.ref C) "__init__" = some (some (.ref f))
  tyf : typeIn K (.ref f) = some (.type "function")
section
variable {P : Program} {w : World} {K : Frag} {mg : Str → Option Value} {C f : Addr} {fd : FuncData} {params : Arguments} {body : List Stmt} {scope : Scope} {A : Around} {R : Result → Shared → Prop} {base : Heap}
/-- the run of super().__init__(text) within the def's frame -/
theorem run_super {rest : List Stmt} {E : Value → Shared → Prop} {L cc cda e t0 : Addr} {qual : Str} {dV kV doc pm ct oc : Value} {an od : Option Addr} {osl : Array (Option Value)} {cl : Value} {cld : Option Addr} {csl : Array (Option Value)} {ccl : Value} {cdd : Option Addr} {vs : Array Value} {ccs : Array (Option Value)} {tf : Tok} {body : List Stmt}
    {m : Str → Option Value} {hh : Heap} {g : Array GenState} {d : Drawn} {t : Nat} {os : OsState} {txt : Str} {k : Nat} {p0 p1 p2 p3 p4 p5 : Pos} {ar : PySem.Arg} {Q : Flow → Shared → Prop}
    (ox : L2.OexC K C) (hf : K.lookup f = some ⟨oc, od, .func (ksFn "__init__" qual params body scope dV kV doc pm an (.ref cda) ct cc), osl⟩) (hcell : K.lookup cc = some ⟨cl, cld, .cell (some (.ref C)), csl⟩) (hcode : K.lookup cda = some ⟨ccl, cdd, .fields vs, ccs⟩) (hvs : vs[2]? = some (.str P.main.file tf))
    (su : ks_superIn K C C "__init__" = some (some (.builtin "ValueError.__init__"))) (ve : subIn K (.ref C) (.type "ValueError") = some true) (mr : mroIn K C (.ref C) = some true) (st : nsIn K cStatics "thirdparty.any" = some none) (mgs : mg "super" = none) (top : (P.main.scope.names.lookup ("super" : Str)).isSome = false)
    (X : K.In hh) (G : hh.Ns mainGlobals mg) (B : ∃ mb, hh.Ns builtinsNs mb ∧ ∀ x : Str, x ≠ "__name__" → mb x = bootBuiltins x) (hL : hh.Ns L m) (hself : m "self" = some (.ref e)) (he : hh.get? e = some (HandSPX.excO C t0))
    (hev : ∀ env : Env, ∃ pl : Sem Bool, eval (.Call (.Attribute (.Call (.Name "super" p0) [] [] p1) "__init__" p2) [.Constant (.str txt) k p3] [] p4) env = (do
      let ov ← attributeBase (.Call (.Name "super" p0) [] [] p1) "__init__" env (eval (.Call (.Name "super" p0) [] [] p1) env)
      standAt p2.atName
      let (f, first) ← holding [ov] (getMethod ov "__init__" pl)
      callWith p4 f first (backTo p4 (starEach [.Constant (.str txt) k p3] env)) []))
    (hp : (params.posonlyargs ++ params.args).head? = some ar) (har : ar.arg = "self") (hks : scope.names.lookup ("super" : Str) = some .globalImplicit) (hkc : scope.names.lookup ("__class__" : Str) = some .free) (hka : scope.names.lookup ("self" : Str) = some .local) (hk : scope.kind = .function)
    (h : ∀ h' t1 tk, (∀ b o, b ≠ e → hh.get? b = some o → h'.get? b = some o) → h'.get? e = some (HandSPX.excO C t1) → hh.objs.size ≤ h'.objs.size → _root_.PySem.wpAt (model P w) A (.func body (ksEnv qual scope L f (.ref cda) cc)) (execs rest (ksEnv qual scope L f (.ref cda) cc)) Q E ⟨h', g, d, tk, os⟩) :
    _root_.PySem.wpAt (model P w) A (.func body (ksEnv qual scope L f (.ref cda) cc)) (execs (.Expr (.Call (.Attribute (.Call (.Name "super" p0) [] [] p1) "__init__" p2) [.Constant (.str txt) k p3] [] p4) p5 :: rest) (ksEnv qual scope L f (.ref cda) cc)) Q E ⟨hh, g, d, t, os⟩ := by
  obtain ⟨nm, q, N, bs, bm, sn, sub, ab, col, dd, k0, k1, k2, k3, k5, hC, hbm⟩ := ox.cls
  obtain ⟨mb, hmb, hbb⟩ := B
  have hcd : clsIn K C = some { name := nm, bases := bs, mro := .ref C :: bm, ns := N, qualname := q, hasDict := true, slotNames := sn, subclasses := sub, abstract := ab, collection := col, hasDel := false } := by unfold clsIn; rw [hC] <;> rfl
  have I : InstAt hh e (HandSPX.excO C t0) C none := ⟨he, rfl, rfl, trivial⟩
  obtain ⟨pl, hev⟩ := hev (ksEnv qual scope L f (.ref cda) cc)
  refine ks_wpAt_execs_cons (ks_wpAt_Expr_any (ks_wpAt_MethodCall (pl := pl) ?_ hev) (by show interactive _ = false; simp [interactive, hk]) rfl)
  refine ks_wpAt_super_base (env := ksEnv qual scope L f (.ref cda) cc) hks hkc (by decide) rfl (X _ _ hf) rfl hp rfl (X _ _ hcode) rfl hvs (by simp) top ?_
  refine ks_loadName_global hk hks (loadGlobal_builtin (env := ksEnv qual scope L f (.ref cda) cc) G mgs hmb ((hbb _ (by decide +kernel)).trans (by decide +kernel)) ⟨rfl, ?_⟩)
  refine wpAny_loadName_free hk hkc rfl ⟨_, X _ _ hcell, rfl⟩ ?_
  rw [har]
  refine wpAny_loadName_local hk hka hL hself ?_
  refine ks_wpAny_isType_cls (X _ _ hC) rfl ⟨rfl, ?_⟩
  refine ks_wpAny_call_super (X _ _ hC) rfl he rfl (fun c z => by cases z) (looks_mroIn X mr) (fun h1 e1 k1 => ?_)
  have X1 : K.In h1 := X.keeps k1
  have I1 : InstAt h1 e (HandSPX.excO C t0) C none := ⟨k1 _ _ he, rfl, rfl, trivial⟩
  unfold ks_superIn at su
  rw [hcd] at su
  refine kxs_getMethod kxs_ValueError (so := hh.objs.size) (D := C) (x := e) (C := C) e1 (looks_opaque X1 st) (l₀ := .ref C :: bm) ?_ rfl X1 su (I1.type.andThen (looks_subIn X1 ve)) (ks_ne X1 I1 hcd) (by decide) ?_
  · exact fun A Q E s k q => wpAny_bind ((looks_clsIn X1 hcd) A _ E s k (wpAny_pure q))
  have hu : (h1.push (kxs_mw "ValueError.__init__" e)).get? h1.objs.size = some (kxs_mw "ValueError.__init__" e) := Heap.get?_push_size _ rfl
  have k2 : ∀ b o, h1.get? b = some o → (h1.push (kxs_mw "ValueError.__init__" e)).get? b = some o := fun b o z => Heap.get?_push_of_some _ z
  refine kxs_callWith (i := "ValueError.__init__") (x := e) rfl ?_
  refine evalArgs_plain (spliced_cons (Calls.Constant_str (k := k) (pos := p3) ?_))
  refine Calls.spliced_nil ⟨hu, ?_⟩
  refine call_mw (t0 := t0) (X1.keeps k2 _ _ hC) (k2 _ _ (k1 _ _ he)) hu (by show 1 ≤ sizeLine; decide) fun h' t1 k3 e3 z3 => ?_
  refine h h' t1 _ (fun b o hb ho => k3 b o hb (k2 _ _ (k1 _ _ ho))) e3 ?_
  have e5 : hh.objs.size < h1.objs.size := Heap.lt_size e1
  rw [Heap.size_push] at z3
  omega
end
open L2 in
/-- no field -/
def spX0 (C : Addr) : L2.Sp := fun vs H Q _ => ∃ e : Addr, vs = [.ref e] ∧ H e = some (L2.exo e C none) ∧ Q .non H
open L2 in
/-- one field -/
def spX1 (C : Addr) (fld : Str) : L2.Sp := fun vs H Q _ => ∃ (e : Addr) (v : V), vs = [.ref e, v] ∧ H e = some (L2.exo e C none) ∧ ∀ dx, H dx = none → dx ≠ e → Q .non (L2.upd (L2.upd H dx (L2.exd dx [(fld, v)])) e (L2.exo e C (some dx)))
section
open L2
variable {P : Program} {w : World} {K : Frag} {mg : Str → Option Value} {C f : Addr} {fd : FuncData} {params : Arguments} {scope : Scope} {base : Heap} {CX : CXT}
theorem ns_keep {h h' : Heap} {L e : Addr} {m : Str → Option Value} (n : h.Ns L m) (ne : L ≠ e) (k : ∀ b o, b ≠ e → h.get? b = some o → h'.get? b = some o) : h'.Ns L m := by
  obtain ⟨o, es, ep, ho, r⟩ := n
  exact ⟨o, es, ep, k _ _ ne ho, r⟩
theorem ns_lt {h : Heap} {L : Addr} {m : Str → Option Value} (n : h.Ns L m) : L < h.objs.size := by
  obtain ⟨o, es, ep, ho, r⟩ := n
  exact Heap.lt_size ho
/-- the tracked things but e, where e's own object has changed -/
theorem un_at {fs : List Addr} {H H' : Hp} {h h' : Heap} {e : Addr} {x : HO} (hx : H e = some x) (k : ∀ b o, b ≠ e → h.get? b = some o → h'.get? b = some o) (he : ∃ o, h'.get? e = some o) (fr : ∀ b o, h.get? b = some o → H b = none → H' b = none)
    (tu : ∀ b xs, H b = some (.tup xs) → H' b = some (.tup xs)) (fz : ∀ b o v, H b = some (.frz o v) → H' b = some (.frz o v)) (tb : ∀ b ps, H b = some (.tbl ps) → H' b = some (.tbl ps)) : Un fs [] H H' h h' where
  keep := fun b o q n _ _ => k b o (fun z => by rw [z, hx] at n; cases n) q
  slot := fun b o q n _ _ => ⟨o.slots, k b o (fun z => by rw [z, hx] at n; cases n) q⟩
  free := fun b o q n _ => fr b o q n
  there := fun b o q _ => by
    by_cases hb : b = e
    · rw [hb]; exact he
    · exact ⟨o, k b o hb q⟩
  tups := tu
  frzs := fz
  tbls := fun b ps q => ⟨#[], by rw [tb b ps q]; simp⟩
theorem xfn0 {txt : Str} {k : Nat} {p0 p1 p2 p3 p4 p5 : Pos} {ar : PySem.Arg} {j : Nat}
    (T : XC P K mg C f fd params [.Expr (.Call (.Attribute (.Call (.Name "super" p0) [] [] p1) "__init__" p2) [.Constant (.str txt) k p3] [] p4) p5] scope)
    (hev : ∀ env : Env, ∃ pl : Sem Bool, eval (.Call (.Attribute (.Call (.Name "super" p0) [] [] p1) "__init__" p2) [.Constant (.str txt) k p3] [] p4) env = (do
      let ov ← attributeBase (.Call (.Name "super" p0) [] [] p1) "__init__" env (eval (.Call (.Name "super" p0) [] [] p1) env)
      standAt p2.atName
      let (f, first) ← holding [ov] (getMethod ov "__init__" pl)
      callWith p4 f first (backTo p4 (starEach [.Constant (.str txt) k p3] env)) []))
    (hp : (params.posonlyargs ++ params.args).head? = some ar) (har : ar.arg = "self") (hks : scope.names.lookup ("super" : Str) = some .globalImplicit) (hkc : scope.names.lookup ("__class__" : Str) = some .free) (hka : scope.names.lookup ("self" : Str) = some .local) (hk : scope.kind = .function)
    (hcell : ∀ x ∈ scope.names, x.2 ≠ .cell) (hco : scope.isCoroutine = false) (hgen : scope.isGenerator = false) : FnOk P w K mg base CX (j + 1) f fd ["self"] (spX0 C) := by
  obtain ⟨qual, kV, doc, pm, ct, oc, an, od, osl, cc, cda, cl, cld, csl, ccl, cdd, vs, ccs, tf, rfl, lk, hcd, hcc, hcda, hvs⟩ := T.fn
  refine ⟨fun vs H Q E h => ?_, fun A outer s H args us vs Q E hr e0 hb r h => ?_⟩
  · obtain ⟨e, rfl, _⟩ := h
    rfl
  · obtain ⟨e, rfl, hx, hq⟩ := h
    cases r with
    | @cons _ u0 _ ur ra rr =>
    cases rr
    obtain rfl : u0 = Value.ref e := ra
    have KX : K.In s.heap := e0.mod.kin.keeps fun b o z => (e0.bs b o z).1
    obtain ⟨t1, he⟩ := exo_at e0.hok hx
    have hel := Heap.lt_size he
    refine ks_codeAny_call_defAt (fd := ksFn "__init__" qual params _ scope .none kV doc pm an (.ref cda) ct cc) (body := _) (binds := (["self"] : List Str).zip [Value.ref e]) (by have := hr.dp; omega) (KX _ _ lk) rfl (e0.mod.nolimit.keeps fun b o z => (e0.bs b o z).1) (codeRec_of KX hcd) rfl hb hcell (fun x hx => ?_) (fun h0 hns hk0 => ?_) hco hgen hk
    · have : x = (("self" : Str), Value.ref e) := by simpa using hx
      subst this
      exact hka
    · obtain ⟨hh, gg, dd, tt, oo⟩ := s
      refine run_super (L := hh.objs.size) (e := e) (t0 := t1) (m := fun x => ((["self"] : List Str).zip [Value.ref e]).reverse.lookup x) T.ox lk hcc hcda hvs T.su T.ve T.mr T.st T.mgs T.top (KX.keeps hk0) (e0.mod.glob.keeps fun b o z => hk0 _ _ (e0.bs b o z).1) ?_ hns rfl (hk0 _ _ he) hev hp har hks hkc hka hk fun h2 t2 tk k2 e2 z2 => ?_
      · obtain ⟨mb, hmb, hbb⟩ := e0.mod.blt
        exact ⟨mb, hmb.keeps fun b o z => hk0 _ _ (e0.bs b o z).1, hbb⟩
      · refine wpAt_of_wpAny (wpAny_execs_nil ?_)
        have kk : ∀ b o, b ≠ e → hh.get? b = some o → h2.get? b = some o := fun b o hb z => k2 b o hb (hk0 _ _ z)
        refine ⟨.non, H, rfl, e0.bare, un_at hx kk ⟨_, e2⟩ (fun _ _ _ z => z) (fun _ _ z => z) (fun _ _ _ z => z) (fun _ _ z => z), fun b o z => ?_, rfl, hq⟩
        by_cases hb : b = e
        · subst hb
          rw [hx] at z
          cases z
          exact exo_ok e2
        · exact (e0.hok b o z).stay (fun c v hc y => kk c v (by
            rcases hc with hc | hc
            · rw [hc]; exact hb
            · exact at_ne hx hc exo_own) y) (fun c hc => hc) (fun c xs hc => hc)
theorem xfn1 {txt fld : Str} {k : Nat} {p0 p1 p2 p3 p4 p5 p6 p7 p8 p9 : Pos} {ar : PySem.Arg} {j : Nat}
    (T : XC P K mg C f fd params [.Expr (.Call (.Attribute (.Call (.Name "super" p0) [] [] p1) "__init__" p2) [.Constant (.str txt) k p3] [] p4) p5, .Assign [.Attribute (.Name "self" p6) fld p7] (.Name fld p8) p9] scope)
    (hev : ∀ env : Env, ∃ pl : Sem Bool, eval (.Call (.Attribute (.Call (.Name "super" p0) [] [] p1) "__init__" p2) [.Constant (.str txt) k p3] [] p4) env = (do
      let ov ← attributeBase (.Call (.Name "super" p0) [] [] p1) "__init__" env (eval (.Call (.Name "super" p0) [] [] p1) env)
      standAt p2.atName
      let (f, first) ← holding [ov] (getMethod ov "__init__" pl)
      callWith p4 f first (backTo p4 (starEach [.Constant (.str txt) k p3] env)) []))
    (hp : (params.posonlyargs ++ params.args).head? = some ar) (har : ar.arg = "self") (hks : scope.names.lookup ("super" : Str) = some .globalImplicit) (hkc : scope.names.lookup ("__class__" : Str) = some .free) (hka : scope.names.lookup ("self" : Str) = some .local) (hkf : scope.names.lookup fld = some .local) (hk : scope.kind = .function)
    (hcell : ∀ x ∈ scope.names, x.2 ≠ .cell) (hco : scope.isCoroutine = false) (hgen : scope.isGenerator = false) (hno : findIn K (.ref C) fld = some none) (hsf : ("self" : Str) ≠ fld) (hdb : (fld == ("__debug__" : Str)) = false) (hsw : ∀ env : Env, swapsWith (.Name fld p8) (some (.Attribute (.Name "self" p6) fld p7)) p9.line env = pure false) :
    FnOk P w K mg base CX (j + 1) f fd ["self", fld] (spX1 C fld) := by
  obtain ⟨qual, kV, doc, pm, ct, oc, an, od, osl, cc, cda, cl, cld, csl, ccl, cdd, vs, ccs, tf, rfl, lk, hcd, hcc, hcda, hvs⟩ := T.fn
  refine ⟨fun vs H Q E h => ?_, fun A outer s H args us vs Q E hr e0 hb r h => ?_⟩
  · obtain ⟨e, v, rfl, _⟩ := h
    rfl
  · obtain ⟨e, v, rfl, hx, hq⟩ := h
    cases r with
    | @cons _ u0 _ ur ra rr =>
    cases rr with
    | @cons _ u1 _ ur rv rr =>
    cases rr
    obtain rfl : u0 = Value.ref e := ra
    have KX : K.In s.heap := e0.mod.kin.keeps fun b o z => (e0.bs b o z).1
    obtain ⟨t1, he⟩ := exo_at e0.hok hx
    have hel := Heap.lt_size he
    refine ks_codeAny_call_defAt (fd := ksFn "__init__" qual params _ scope .none kV doc pm an (.ref cda) ct cc) (body := _) (binds := (["self", fld] : List Str).zip [Value.ref e, u1]) (by have := hr.dp; omega) (KX _ _ lk) rfl (e0.mod.nolimit.keeps fun b o z => (e0.bs b o z).1) (codeRec_of KX hcd) rfl hb hcell (fun x hx => ?_) (fun h0 hns hk0 => ?_) hco hgen hk
    · have : x = (("self" : Str), Value.ref e) ∨ x = (fld, u1) := by simpa using hx
      rcases this with rfl | rfl
      · exact hka
      · exact hkf
    · obtain ⟨hh, gg, dd, tt, oo⟩ := s
      have m1 : ((["self", fld] : List Str).zip [Value.ref e, u1]).reverse.lookup ("self" : Str) = some (.ref e) := by
        show ([(fld, u1), (("self" : Str), Value.ref e)]).lookup ("self" : Str) = some (.ref e)
        have : (("self" : Str) == fld) = false := by simpa using hsf
        simp [List.lookup, this]
      have m2 : ((["self", fld] : List Str).zip [Value.ref e, u1]).reverse.lookup fld = some u1 := by
        show ([(fld, u1), (("self" : Str), Value.ref e)]).lookup fld = some u1
        simp [List.lookup]
      refine run_super (L := hh.objs.size) (e := e) (t0 := t1) (m := fun x => ((["self", fld] : List Str).zip [Value.ref e, u1]).reverse.lookup x) T.ox lk hcc hcda hvs T.su T.ve T.mr T.st T.mgs T.top (KX.keeps hk0) (e0.mod.glob.keeps fun b o z => hk0 _ _ (e0.bs b o z).1) ?_ hns m1 (hk0 _ _ he) hev hp har hks hkc hka hk fun h2 t2 tk k2 e2 z2 => ?_
      · obtain ⟨mb, hmb, hbb⟩ := e0.mod.blt
        exact ⟨mb, hmb.keeps fun b o z => hk0 _ _ (e0.bs b o z).1, hbb⟩
      · have kk : ∀ b o, b ≠ e → hh.get? b = some o → h2.get? b = some o := fun b o hb z => k2 b o hb (hk0 _ _ z)
        have ns2 := ns_keep hns (Ne.symm (Nat.ne_of_lt hel)) k2
        obtain ⟨nm, q, N, bs, bm, sn, sub, ab, col, dd', k0, k1, k2', k3, k5, hC, hbm⟩ := T.ox.cls
        have hcl : clsIn K C = some { name := nm, bases := bs, mro := .ref C :: bm, ns := N, qualname := q, hasDict := true, slotNames := sn, subclasses := sub, abstract := ab, collection := col, hasDel := false } := by unfold clsIn; rw [hC] <;> rfl
        have KC : K.In h2 := fun a o z => by
          refine kk a o (fun y => ?_) (KX a o z)
          subst y
          have y := e0.mod.kin a o z
          have y2 := (e0.bs a o y).2
          rw [hx] at y2
          cases y2
        refine ks_wpAt_execs_cons (ks_wpAt_Assign_Attr (wpAt_of_wpAny (wpAny_Name (wpAny_loadName_local hk hkf ns2 m2 ?_) hdb)) (hsw _))
        refine wpAny_Name (wpAny_loadName_local hk hka ns2 m1 ?_) (by decide)
        refine set_plain KC (ox := HandSPX.excO C t2) (od := none) ⟨e2, rfl, rfl, trivial⟩ T.ox.sa ?_
        refine HandSPX.exc_osa KC e2 hcl (show HandSPX.refsVE (.ref C :: bm) = true from hbm) rfl hno (fun h3 tk3 dx k3 dn dne hx3 hn3 => ?_)
        refine wpAt_of_wpAny (wpAny_execs_nil ?_)
        have nL : hh.objs.size < h0.objs.size := ns_lt hns
        have z5 : hh.objs.size ≤ dx := Nat.le_trans (Nat.le_of_lt nL) (Nat.le_trans z2 dn)
        have hnd : H dx = none := e0.hok.fresh z5
        have kk3 : ∀ b o, b ≠ e → hh.get? b = some o → h3.get? b = some o := fun b o hb z => k3 b o hb (kk b o hb z)
        have nd : ∀ {b : Addr} {o : Obj}, hh.get? b = some o → b ≠ dx := fun {b o} z y => by
          have z6 := Heap.lt_size z
          rw [y] at z6
          exact absurd z6 (Nat.not_lt_of_le z5)
        have na : ∀ {b : Addr}, H b = none → b ≠ e := fun {b} n z => by
          rw [z, hx] at n
          cases n
        refine ⟨.non, _, rfl, e0.bare, un_at hx kk3 ⟨_, hx3⟩ (fun b o z n => by rw [upd_ne (na n), upd_ne (nd z)]; exact n) (fun b xs z => by rw [upd_ne (at_ne hx z exo_tup), upd_ne (ne_of_none z hnd)]; exact z) (fun b o v z => by rw [upd_ne (at_ne hx z exo_frz), upd_ne (ne_of_none z hnd)]; exact z) (fun b ps z => by rw [upd_ne (at_ne hx z exo_tbl), upd_ne (ne_of_none z hnd)]; exact z), fun b o z => ?_, rfl, hq dx hnd dne⟩
        by_cases hb : b = e
        · subst hb
          rw [upd_same] at z
          cases z
          exact exo_ok hx3
        · rw [upd_ne hb] at z
          by_cases hd : b = dx
          · subst hd
            rw [upd_same] at z
            cases z
            exact exd_ok hn3 (relO_put (fs := []) rv fun g => True.intro)
          · rw [upd_ne hd] at z
            exact (e0.hok b o z).stay (fun c v hc y => kk3 c v (by
              rcases hc with hc | hc
              · rw [hc]; exact hb
              · exact at_ne hx hc exo_own) y)
              (fun c hc => by rw [upd_ne (at_ne hx hc exo_own), upd_ne (ne_of_none hc hnd)]; exact hc) (fun c xs hc => by rw [upd_ne (at_ne hx hc exo_tup), upd_ne (ne_of_none hc hnd)]; exact hc)
end
end AM
set_option Elab.async false
set_option linter.all false
set_option maxRecDepth 100000
set_option maxHeartbeats 4000000
namespace AM
open PySem PySem.Spec PyProof.Rows L2 Evl
section
variable {X : Cx} {e : Expr} {es : List Expr} {ta : TA} {p pos : Pos}
theorem mk_endN {pins : List (Addr × Obj)} {σ : L2.St} {H1 H2 : Hp} {Q : XK} {hp hp2 h2 : Heap} {g1 g2 : Array GenState} {d1 d2 : Drawn} {t1 t2 : Nat} {os1 os2 : OsState} {a C : Addr} (T : Raises X (.ref C)) (I1 : Inv X pins σ H1 ⟨hp, g1, d1, t1, os1⟩)
    (ha : hp.objs.size ≤ a) (k : ∀ b o, hp.get? b = some o → hp2.get? b = some o) (un : Un (frs X.stack) [] (upd H1 a (exo a C none)) H2 hp2 h2) (hok : HOk X.prog X.w H2 h2) (ho : os2 = os1) (hb : AllBare g2)
    (ea : H2 a = some (exo a C none)) (q : Q (.ref C) none (del H2 a)) : L2N.MkP X pins σ Q (.ref a) ⟨h2, g2, d2, t2, os2⟩ := by
  obtain ⟨t0, hoe⟩ := exo_at hok ea
  have hn : H1 a = none := I1.hok.fresh ha
  obtain ⟨G, g1', g2'⟩ := restrict h2 fun b => decide (b ≠ a)
  have gk : ∀ b, b ≠ a → G.get? b = h2.get? b := fun b hb => g1' b (decide_eq_true hb)
  have ge : G.get? a = none := g2' a (by simp)
  have nha : ∀ {b : Addr} {o : Obj}, hp.get? b = some o → b ≠ a := fun {b o} z => Nat.ne_of_lt (Nat.lt_of_lt_of_le (Heap.lt_size z) ha)
  have up : ∀ {b : Addr}, b ≠ a → H1 b = none → upd H1 a (exo a C none) b = none := fun {b} hb n => by rw [upd_ne hb]; exact n
  have U : Un (frs X.stack) [] H1 (del H2 a) hp G := {
    keep := fun b o z n hf hx => by
      rw [gk b (nha z)]
      exact un.keep b o (k b o z) (up (nha z) n) hf hx
    slot := fun b o z n hf hx => by
      rw [gk b (nha z)]
      exact un.slot b o (k b o z) (up (nha z) n) hf hx
    free := fun b o z n hx => by
      rw [del_ne (nha z)]
      exact un.free b o (k b o z) (up (nha z) n) hx
    there := fun b o z hx => by
      rw [gk b (nha z)]
      exact un.there b o (k b o z) hx
    tups := fun b xs z => by
      rw [del_ne (ne_of_none z hn)]
      exact un.tups b xs (by rw [upd_ne (ne_of_none z hn)]; exact z)
    frzs := fun b o v z => by
      rw [del_ne (ne_of_none z hn)]
      exact un.frzs b o v (by rw [upd_ne (ne_of_none z hn)]; exact z)
    tbls := fun b ps z => by
      rw [del_ne (ne_of_none z hn)]
      exact un.tbls b ps (by rw [upd_ne (ne_of_none z hn)]; exact z) }
  have hok3 : HOk X.prog X.w (del H2 a) G := fun b o z => by
    have hba : b ≠ a := fun e => by
      rw [e, del_same] at z
      cases z
    rw [del_ne hba] at z
    have noa : ∀ {c : Addr}, H2 c = some (.own b) → c ≠ a := fun {c} hc => at_ne ea hc exo_own
    exact (hok b o z).stay (fun c v hc y => by
        have hca : c ≠ a := by
          rcases hc with hc | hc
          · rw [hc]
            exact hba
          · exact noa hc
        rw [gk c hca]
        exact y)
      (fun c hc => by rw [del_ne (noa hc)]; exact hc) (fun c xs hc => by rw [del_ne (at_ne ea hc exo_tup)]; exact hc)
  have J : Inv X pins σ (del H2 a) ⟨G, g2, d2, t2, os2⟩ := I1.call' (ch := []) ho U hok3 hb (fun b z => absurd z (by simp))
  have kG : ∀ b o, G.get? b = some o → h2.get? b = some o := fun b o z => by
    by_cases hba : b = a
    · rw [hba, ge] at z
      cases z
    · exact (gk b hba).symm.trans z
  exact ⟨a, _, _, ⟨G, g2, d2, t2, os2⟩, _, .ref C, none, rfl, J, kG, ge, hoe, ⟨rfl, rfl, fun vs hv => by cases hv; rfl⟩, rfl, rfl, del_same, rfl, hb, T, q⟩
/-- C() -/
def tMk0 (C : Addr) : L2.St → Hp → XK → Prop := fun σ H Q => Q (.ref C) none H
theorem pmk_oex0 {CX : CXT} {x : Str} {C fI : Addr} {k : Nat} {fd : FuncData} {ps : List Str} (T : OexC X.K C) (iC : PySem.W.findIn X.K (.ref C) "__init__" = some (some (.ref fI))) (tI : PySem.W.typeIn X.K (.ref fI) = some (.type "function"))
    (F1 : FnOk X.prog X.w X.K X.mg X.base CX k fI fd ps (spX0 C)) (hr : Room (k + 1) X.A) (hb : Binds X.K fd ps []) (hx : Passes CX X (fun _ _ _ => False)) (hg : Gl X x) (hm : X.mg x = some (.ref C))
    (hdb : (x == ("__debug__" : Str)) = false := by decide) :
    L2N.PMk X (.Call (.Name x p) [] [] pos) (tMk0 C) := by
  intro pins s σ H Q I h
  obtain ⟨nm, q, N, bs, bm, sn, sub, ab, col, dd, k0, k1, k2, k3, k5, hC, hbm⟩ := T.cls
  refine wpAny_Call_Name_kw (ld_glob I hg hm ?_ hdb)
  refine PySem.W.callWith_K0 I.kIn T.kC ?_
  show wpAny _ _ (call (.ref C) []) _ _ _
  obtain ⟨hp, g, dr, tk, os⟩ := s
  have hsz : hp.objs.size ≤ hp.objs.size + 1 := Nat.le_succ _
  have hn : H (hp.objs.size + 1) = none := I.hok.fresh hsz
  have kk : ∀ b o, hp.get? b = some o → ((hp.push (PySem.W.kdv_tup [])).push (PySem.HandSPX.excO C hp.objs.size)).get? b = some o := fun b o e => Heap.get?_push_of_some _ (Heap.get?_push_of_some _ e)
  have hget : ((hp.push (PySem.W.kdv_tup [])).push (PySem.HandSPX.excO C hp.objs.size)).get? (hp.objs.size + 1) = some (PySem.HandSPX.excO C hp.objs.size) := by heap_get
  have I2 : Inv X pins σ (upd H (hp.objs.size + 1) (exo (hp.objs.size + 1) C none)) ⟨(hp.push (PySem.W.kdv_tup [])).push (PySem.HandSPX.excO C hp.objs.size), g, dr, tk, os⟩ :=
    I.laid (t' := tk) (a := hp.objs.size + 1) (o := exo (hp.objs.size + 1) C none) (h' := (hp.push (PySem.W.kdv_tup [])).push (PySem.HandSPX.excO C hp.objs.size)) kk hsz (exo_ok hget)
  have r2 : Vals [V.ref (hp.objs.size + 1)] [Value.ref (hp.objs.size + 1)] := .cons rfl .nil
  have hq : spX0 C [V.ref (hp.objs.size + 1)] (upd H (hp.objs.size + 1) (exo (hp.objs.size + 1) C none)) (fun v H2 => v = .non ∧ H2 (hp.objs.size + 1) = some (exo (hp.objs.size + 1) C none) ∧ Q (.ref C) none (del H2 (hp.objs.size + 1))) (fun _ _ _ => False) := by
    refine ⟨_, rfl, upd_same, rfl, upd_same, ?_⟩
    have e : del (upd H (hp.objs.size + 1) (exo (hp.objs.size + 1) C none)) (hp.objs.size + 1) = H := by
      funext b
      by_cases hb : b = hp.objs.size + 1
      · rw [hb, del_same, hn]
      · rw [del_ne hb, upd_ne hb]
    rw [e]
    exact h
  have hl : ([Value.ref (hp.objs.size + 1)] ++ [] : List Value).length = ps.length := by
    have e := F1.len _ _ _ _ hq
    exact e
  have bb := hb ⟨(hp.push (PySem.W.kdv_tup [])).push (PySem.HandSPX.excO C hp.objs.size), g, dr, tk, os⟩ [Value.ref (hp.objs.size + 1)] I2.kIn hl
  rw [List.append_nil] at bb
  refine wpAny_call (PySem.HandSPX.call_own F.excBase_ValueError (fun Y => PySem.HandSPX.refsVE_contains Y bm hbm) (I.kIn _ _ hC) (PySem.W.looks_findIn I.kIn iC) (fun self => PySem.W.bind_fn I.kIn self tI) (Nat.zero_le _)
    (codeAny_mono (F1.run _ X.stack _ _ ⟨[Value.ref (hp.objs.size + 1)], []⟩ [Value.ref (hp.objs.size + 1)] _ _ (fun _ _ _ => False) (hr.make C [] []) (I2.env0.make C [] []) bb r2 hq) fun r s' hq' => ?_))
  cases r with
  | error er => exact hx pins σ _ _ er s' I2 hq'
  | ok fl =>
    cases fl with
    | ret u =>
      obtain ⟨v, H2, os2, bare2, un2, hok2, rv, ev, ea, q2⟩ := hq'
      subst ev
      obtain ⟨h2, g2, d2, t2, os'⟩ := s'
      exact ⟨rv, mk_endN (raises_own T.exC T.tyC) I hsz kk un2 hok2 os2 bare2 ea q2⟩
    | next => exact False.elim hq'
    | brk => exact False.elim hq'
    | cont => exact False.elim hq'
/-- C(e, ..) -/
theorem pmk_oex1 {CX : CXT} {x : Str} {C fI : Addr} {k : Nat} {fd : FuncData} {ps : List Str} {sp : Sp} (T : OexC X.K C) (iC : PySem.W.findIn X.K (.ref C) "__init__" = some (some (.ref fI))) (tI : PySem.W.typeIn X.K (.ref fI) = some (.type "function"))
    (F1 : FnOk X.prog X.w X.K X.mg X.base CX k fI fd ps sp) (hr : Room (k + 1) X.A) (hb : Binds X.K fd ps []) (hx : Passes CX X (fun _ _ _ => False)) (hg : Gl X x) (hm : X.mg x = some (.ref C)) (ha : PA X (e :: es) ta)
    (hdb : (x == ("__debug__" : Str)) = false := by decide) (he : starEach (e :: es) X.env = (false, eval e X.env) :: starEach es X.env := by rfl) (hpl : (backTo pos (starEach es X.env)).any (·.1) = false := by rfl) :
    L2N.PMk X (.Call (.Name x p) (e :: es) [] pos) (tMkO C sp [] ta) := by
  intro pins s σ H Q I h
  obtain ⟨nm, q, N, bs, bm, sn, sub, ab, col, dd, k0, k1, k2, k3, k5, hC, hbm⟩ := T.cls
  refine wpAny_Call_Name_kw (ld_glob I hg hm ?_ hdb)
  refine PySem.W.callWith_K (h₀ := X.base) I.ok.mod.kin T.kC (thn (ha.run pos pins s σ H _ I h) fun us s1 ⟨vs, H1, I1, r1, hz, q1⟩ => ⟨I1.kIn, ?_⟩) he hpl
  show wpAny _ _ (call (.ref C) us) _ _ _
  obtain ⟨hp, g, dr, tk, os⟩ := s1
  have hn : H1 (hp.objs.size + 1) = none := I1.hok.fresh (Nat.le_succ _)
  have hq := q1 (hp.objs.size + 1) hn
  rw [List.append_nil] at hq
  have kk : ∀ b o, hp.get? b = some o → ((hp.push (PySem.W.kdv_tup us)).push (PySem.HandSPX.excO C hp.objs.size)).get? b = some o := fun b o e => Heap.get?_push_of_some _ (Heap.get?_push_of_some _ e)
  have I2 : Inv X pins σ (upd H1 (hp.objs.size + 1) (exo (hp.objs.size + 1) C none)) ⟨(hp.push (PySem.W.kdv_tup us)).push (PySem.HandSPX.excO C hp.objs.size), g, dr, tk, os⟩ :=
    I1.laid (t' := tk) (a := hp.objs.size + 1) (o := exo (hp.objs.size + 1) C none) (h' := (hp.push (PySem.W.kdv_tup us)).push (PySem.HandSPX.excO C hp.objs.size)) kk (Nat.le_succ _) (exo_ok (by heap_get))
  have r2 : Vals (V.ref (hp.objs.size + 1) :: vs) (Value.ref (hp.objs.size + 1) :: us) := .cons rfl r1
  have hl : (Value.ref (hp.objs.size + 1) :: us ++ []).length = ps.length := by
    rw [List.append_nil, ← r2.length]
    exact F1.len _ _ _ _ hq
  have hus : us.length ≤ sizeLine := by rw [← Paired.length r1, sizeLine_eq]; omega
  have b2 := hb _ (Value.ref (hp.objs.size + 1) :: us) I2.kIn hl
  rw [List.append_nil] at b2
  refine wpAny_call (PySem.HandSPX.call_own F.excBase_ValueError (fun Y => PySem.HandSPX.refsVE_contains Y bm hbm) (I1.kIn _ _ hC) (PySem.W.looks_findIn I1.kIn iC) (fun self => PySem.W.bind_fn I1.kIn self tI) hus
    (codeAny_mono (F1.run _ X.stack _ _ ⟨Value.ref (hp.objs.size + 1) :: us, []⟩ (Value.ref (hp.objs.size + 1) :: us) _ _ (fun _ _ _ => False) (hr.make C us []) (I2.env0.make C us []) b2 r2 hq) fun r s' hq' => ?_))
  cases r with
  | error er => exact hx pins σ _ _ er s' I2 hq'
  | ok fl =>
    cases fl with
    | ret u =>
      obtain ⟨v, H2, os2, bare2, un2, hok2, rv, ev, d, fs, ea, ed, hd1, q2⟩ := hq'
      subst ev
      obtain ⟨h2, g2, d2, t2, os'⟩ := s'
      obtain ⟨t0, G, J, kG, ge, hoe, na⟩ := mk_end0 (d2 := d2) (t2 := t2) I1 (Nat.le_succ _) kk un2 hok2 os2 bare2 ea ed hd1
      exact ⟨rv, hp.objs.size + 1, _, _, ⟨G, g2, d2, t2, os'⟩, _, .ref C, some d, rfl, J, kG, ge, hoe, ⟨rfl, rfl, fun vs hv => by cases hv; rfl⟩, rfl, rfl, na, rfl, bare2, raises_own T.exC T.tyC, q2⟩
    | _ => exact False.elim hq'
end
/-! ### raise, by data -/
def sRaise0 (c : Str) : AS := fun env st k => k.er ⟨c, none⟩ env st
def sRaise1 (c f : Str) (a : AE) : AS := fun env st k => a env st (fun d s1 => k.er ⟨c, some (f, d)⟩ env s1) (fun e s1 => k.er e env s1)
section
variable {X : Cx} {W : WX} {k j : Nat} {e : Expr} {ae : AE} {c fld : Str} {fI : Addr} {fd : FuncData} {p pos pos' : Pos}
theorem axs_raise0 (C : CxS X W (k + 1)) (T : OexC X.K (He.ga X.K c)) (iC : PySem.W.findIn X.K (.ref (He.ga X.K c)) "__init__" = some (some (.ref fI))) (tI : PySem.W.typeIn X.K (.ref fI) = some (.type "function"))
    (F1 : FnOk X.prog X.w X.K X.mg X.base CX0 k fI fd ["self"] (spX0 (He.ga X.K c))) (hb : Binds X.K fd ["self"] []) (hm : X.mg c = some (.ref (He.ga X.K c))) (hg : Gl X c := by rfl) (hdb : (c == ("__debug__" : Str)) = false := by decide) :
    AXS X W (.Raise (some (.Call (.Name c p) [] [] pos)) none pos') (sRaise0 c) :=
  ⟨_, L2N.ps_raise C.calm C.takes (pmk_oex0 T iC tI F1 C.room hb pass0 hg hm hdb), fun G env st σ H D k s l h t => t.er ⟨c, none⟩ _ _ env σ st G H Post.refl s l ⟨rfl, rfl⟩ h⟩
theorem axs_raise1 (C : CxS X W (k + 1)) (T : OexC X.K (He.ga X.K c)) (iC : PySem.W.findIn X.K (.ref (He.ga X.K c)) "__init__" = some (some (.ref fI))) (tI : PySem.W.typeIn X.K (.ref fI) = some (.type "function"))
    (F1 : FnOk X.prog X.w X.K X.mg X.base CX0 k fI fd ["self", fld] (spX1 (He.ga X.K c) fld)) (hb : Binds X.K fd ["self", fld] []) (hm : X.mg c = some (.ref (He.ga X.K c))) (ha : AX X W e ae) (hg : Gl X c := by rfl) (hdb : (c == ("__debug__" : Str)) = false := by decide)
    (hs : starEach [e] X.env = (false, eval e X.env) :: starEach [] X.env := by rfl) :
    AXS X W (.Raise (some (.Call (.Name c p) [e] [] pos)) none pos') (sRaise1 c fld ae) := by
  obtain ⟨ta, pa, ra⟩ := ha
  refine ⟨_, L2N.ps_raise C.calm C.takes (pmk_oex1 T iC tI F1 C.room hb pass0 hg hm (pa_cons pa pa_nil hs) hdb hs rfl), fun G env st σ H D k s l h t => ?_⟩
  refine ra G env st σ H _ _ _ s l h (fun v d st1 G1 H1 p1 s1 r1 h1 => ?_) (t.x l)
  refine ⟨by show 1 ≤ 1000; decide, fun a hna => ⟨a, v, rfl, upd_same, fun dx hdx ne => ⟨rfl, dx, [(fld, v)], upd_same, ?_, ?_, ?_⟩⟩⟩
  · rw [upd_ne ne, upd_same]
  · rw [upd_ne ne] at hdx; exact hdx
  · have hdx1 : H1 dx = none := by rw [upd_ne ne] at hdx; exact hdx
    have e : upd (del (upd (upd (upd H1 a (exo a (He.ga X.K c) none)) dx (exd dx [(fld, v)])) a (exo a (He.ga X.K c) (some dx))) a) dx (.xd [(fld, v)]) = upd H1 dx (.xd [(fld, v)]) := by
      funext b
      by_cases hb : b = dx
      · rw [hb, upd_same, upd_same]
      · rw [upd_ne hb, upd_ne hb]
        by_cases hba : b = a
        · rw [hba, del_same, hna]
        · rw [del_ne hba, upd_ne hba, upd_ne hb, upd_ne hba]
    rw [e]
    obtain ⟨s2, p2⟩ := s1.new (o := .xd [(fld, v)]) hdx1
    exact t.er ⟨c, some (fld, d)⟩ _ _ env σ st1 _ _ (p1.trans p2) s2 (l.mono (p1.trans p2).le) ⟨rfl, dx, v, rfl, upd_same, r1.mono p2.le⟩ h1
end
end AM
set_option Elab.async false
set_option linter.all false
set_option maxRecDepth 100000
set_option maxHeartbeats 4000000
namespace AM
open PySem PySem.Spec L2 Evl
/-! ### try: body, except h as n: suite -/
/-- what an error of the body meets: xm tells which classes the clause takes -/
def erAs (xm : Str → Option Bool) (i : Nat) (su : Addr → Value → Option Addr → AS) (k : AK) : Er → List A → S → Prop := fun e env st => ∃ b, xm e.cls = some b ∧
  (b = true → ∀ a c dx, su a c dx (env.set i (.exc a c dx e)) st { nx := fun env' s => k.nx (env'.set i .no) s, rt := k.rt, bk := fun env' s => k.bk (env'.set i .no) s, ct := fun env' s => k.ct (env'.set i .no) s, er := fun _ _ _ => False }) ∧
  (b = false → k.er e env st)
def sTryAs (xm : Str → Option Bool) (i : Nat) (b : AS) (su : Addr → Value → Option Addr → AS) : AS := fun env st k => b env st { k with er := erAs xm i su k }
/-- clauses without names -/
def erOnly : List ((Str → Option Bool) × AS) → AK → Er → List A → S → Prop
  | [], k, e, env, st => k.er e env st
  | (xm, su) :: r, k, e, env, st => ∃ b, xm e.cls = some b ∧ (b = true → su env st { k with er := fun _ _ _ => False }) ∧ (b = false → erOnly r k e env st)
def sTryOnly (b : AS) (cs : List ((Str → Option Bool) × AS)) : AS := fun env st k => b env st { k with er := erOnly cs k }
/-- the field of a caught error -/
def aXf (a : Addr) (c : Value) (dx : Option Addr) (cn : Str) (i : Nat) (f : Str) : AE := fun env st q _ => match env[i]? with
  | some (.exc a' c' dx' e) => a' = a ∧ c' = c ∧ dx' = dx ∧ e.cls = cn ∧ ∃ x, e.fld = some (f, x) ∧ q x st
  | _ => False
section
variable {X : Cx} {W : WX} {k : Nat} {x n cn f : Str} {i : Nat} {body suite : List Stmt} {b0 : Stmt} {np pos pos' : Pos} {ab : AS} {xm : Str → Option Bool}
theorem CxS.tr (C : CxS X W k) {W' : WX} {pn : List (Addr × Obj)} {xe : Value → Shared → Prop} (tk : L2N.Takes (X.tr pn xe) W') (po : PassesOwn (model X.prog X.w) X.A X.env xe) : CxS (X.tr pn xe) W' k := ⟨⟨C.calm, C.nd, C.room, tk⟩, po, C.stk, C.frm⟩
theorem axs_tryAs {su : Addr → Value → Option Addr → AS} (C : CxS X W k) (hm : X.mg x = some (.ref (He.ga X.K x))) (hx : ∀ c b, xm c = some b → PySem.W.exmOne X.K (.ref (He.ga X.K c)) (.ref (He.ga X.K x)) = some b)
    (hb : ∀ (W' : WX) (pn : List (Addr × Obj)) (xe : Value → Shared → Prop), CxS (X.tr pn xe) W' k → AXB (X.tr pn xe) W' body ab)
    (hs : ∀ (a : Addr) (oe : Obj) (cls : Value) (d : Option Addr) (pn : List (Addr × Obj)), L2N.Zn cls d oe → (∃ vs, oe.data = .fields vs) → AXB (X.suite a ((a, oe) :: pn)) W0 (b0 :: suite) (su a cls d))
    (hi : X.N[i]? = some n := by rfl) (hln : X.env.kindOf n = some .local := by rfl) (hg : Gl X x := by rfl) (hdb : (x == ("__debug__" : Str)) = false := by decide) :
    AXS X W (.Try body [.ExceptHandler (some (.Name x np)) (some n) (b0 :: suite) pos'] [] [] pos) (sTryAs xm i ab su) := by
  refine ⟨_, L2N.ps_try_as (tb := fun W' => rdS X.K W' ab) (ts := fun a cls d => rdS X.K W0 (su a cls d)) C.stk C.frm C.nd hi hln ⟨hg, hdb, .inl hm⟩ C.takes (fun W' pn xe tk po => (hb W' pn xe (C.tr tk po)).ps) (fun a oe cls d pn hz hf => (hs a oe cls d pn hz hf).ps), fun G env st σ H D kk s l h t => ?_⟩
  refine ⟨G, env, st, _, s, l, h, ⟨t.nx, t.rt, t.bk, t.ct, fun e c dx env' σ' st2 G2 H2 p2 s2 l2 ea he => ?_⟩⟩
  obtain ⟨b, hb1, h1, h2⟩ := he
  refine ⟨b, ?_, fun hbt a ha => ?_, fun hbf => t.er e c dx env' σ' st2 G2 H2 p2 s2 l2 ea (h2 hbf)⟩
  · obtain ⟨rfl, _⟩ := ea
    exact hx _ _ hb1
  · refine ⟨G2, _, st2, _, s2, l2.put i (x := .exc a c dx e) (v := some (.ref a)) ⟨rfl, ea⟩, h1 hbt a c dx, ?_⟩
    exact ⟨fun env4 σ4 st4 G4 H4 p4 s4 l4 h4 => t.nx _ _ st4 G4 H4 (p2.trans p4) s4 (l4.drop i none) h4, (t.on p2).rt,
      fun env4 σ4 st4 G4 H4 p4 s4 l4 h4 => t.bk _ _ st4 G4 H4 (p2.trans p4) s4 (l4.drop i none) h4, fun env4 σ4 st4 G4 H4 p4 s4 l4 h4 => t.ct _ _ st4 G4 H4 (p2.trans p4) s4 (l4.drop i none) h4, fun _ _ _ _ _ _ _ _ _ _ _ _ z => z.elim⟩
/-- the clauses of a try, one by one: which classes each takes, what it does -/
def AXHs (X : Cx) (hds : List ExceptHandler) (cs : List ((Str → Option Bool) × AS)) : Prop := ∃ l, L2N.HdsOk X hds l ∧ ∀ (W : WX) (G : Gh) (H : Hp) (kk : AK) (D : Ends), ThenS X.K W G H kk D → ∀ e c dx env σ st, SS X.K G st H → Sl X.K G env σ → ErAt X.K G e c dx → erOnly cs kk e env st → wMany X.K W D l c dx σ H
theorem axh_nil : AXHs X [] [] := ⟨[], .nil, fun W G H kk D t e c dx env σ st s l ea h => t.er e c dx env σ st G H Post.refl s l ea h⟩
theorem axh_cons {hds : List ExceptHandler} {cs : List ((Str → Option Bool) × AS)} {su : AS} (hm : X.mg x = some (.ref (He.ga X.K x))) (hx : ∀ c b, xm c = some b → PySem.W.exmOne X.K (.ref (He.ga X.K c)) (.ref (He.ga X.K x)) = some b)
    (hs : ∀ (a : Addr) (oe : Obj) (cls : Value) (d : Option Addr) (pn : List (Addr × Obj)), L2N.Zn cls d oe → (∃ vs, oe.data = .fields vs) → AXB (X.suite a ((a, oe) :: pn)) W0 (b0 :: suite) su) (hr : AXHs X hds cs)
    (hg : Gl X x := by rfl) (hdb : (x == ("__debug__" : Str)) = false := by decide) : AXHs X (.ExceptHandler (some (.Name x np)) none (b0 :: suite) pos' :: hds) ((xm, su) :: cs) := by
  obtain ⟨l, hl, hh⟩ := hr
  refine ⟨_, .cons (ts := fun a cls d => rdS X.K W0 su) ⟨hg, hdb, .inl hm⟩ (fun a oe cls d pn hz hf => (hs a oe cls d pn hz hf).ps) hl, fun W G H kk D t e c dx env σ st s sl ea h => ?_⟩
  obtain ⟨b, hb1, h1, h2⟩ := h
  refine ⟨b, ?_, fun hbt a ha => ?_, fun hbf => hh W G H kk D t e c dx env σ st s sl ea (h2 hbf)⟩
  · obtain ⟨rfl, _⟩ := ea
    exact hx _ _ hb1
  · exact ⟨G, _, st, _, s, sl, h1 hbt, ⟨t.nx, t.rt, t.bk, t.ct, fun _ _ _ _ _ _ _ _ _ _ _ _ z => z.elim⟩⟩
theorem axs_tryOnly {h0 : ExceptHandler} {hds : List ExceptHandler} {cs : List ((Str → Option Bool) × AS)} (C : CxS X W k)
    (hb : ∀ (W' : WX) (pn : List (Addr × Obj)) (xe : Value → Shared → Prop), CxS (X.tr pn xe) W' k → AXB (X.tr pn xe) W' body ab) (hh : AXHs X (h0 :: hds) cs) :
    AXS X W (.Try body (h0 :: hds) [] [] pos) (sTryOnly ab cs) := by
  obtain ⟨l, hl, hh⟩ := hh
  refine ⟨_, L2N.ps_try_many (tb := fun W' => rdS X.K W' ab) C.stk C.frm C.takes (fun W' pn xe tk po => (hb W' pn xe (C.tr tk po)).ps) hl, fun G env st σ H D kk s sl h t => ?_⟩
  exact ⟨G, env, st, _, s, sl, h, ⟨t.nx, t.rt, t.bk, t.ct, fun e c dx env' σ' st2 G2 H2 p2 s2 l2 ea he => hh W G2 H2 kk D (t.on p2) e c dx env' σ' st2 s2 l2 ea he⟩⟩
theorem ax_xf {a : Addr} {oe : Obj} {cls : Value} {d : Option Addr} {pn : List (Addr × Obj)} {y : Str} (T : XfC X.K (He.ga X.K cn)) (hno : PySem.W.findIn X.K (.ref (He.ga X.K cn)) f = some none) (hz : L2N.Zn cls d oe) (hf : ∃ vs, oe.data = .fields vs)
    (hN : X.N[i]? = some y := by rfl) (hv : Vis X.env.scope y := by first | exact Or.inl rfl | exact Or.inr (Or.inl rfl)) (hd : (y == ("__debug__" : Str)) = false := by decide) (hcd : (y == ("__classdict__" : Str)) = false := by decide)
    (hb : attributeBase (.Name y np) f X.env (eval (.Name y np) X.env) = eval (.Name y np) X.env := by rfl) : AX (X.suite a ((a, oe) :: pn)) W0 (.Attribute (.Name y np) f pos) (aXf a cls d cn i f) := by
  refine ⟨_, pe_xf T hno hz.zc hf (pe_var (X := X.suite a ((a, oe) :: pn)) (i := i) hN hv hd hcd) hb, fun G env st σ H Q q er s l h tE tX => ?_⟩
  unfold aXf at h
  split at h
  · rename_i a' c' dx' e ee
    obtain ⟨rfl, rfl, rfl, hcn, x, hx, h⟩ := h
    obtain ⟨e1, e2, e3⟩ := l.slot i _ ee
    rw [hx] at e3
    obtain ⟨dd, v, h1, h2, h3⟩ := e3
    refine ⟨.ref a', e1, rfl, by rw [e2, hcn], dd, _, v, h1, s.ex _ _ h2, ?_, tE v x st G H Post.refl s h3 h⟩
    simp [List.lookup]
  · exact h.elim
end
end AM
set_option Elab.async false
set_option linter.all false
set_option maxRecDepth 100000
set_option maxHeartbeats 4000000
namespace AM
open PySem PySem.Spec L2 Evl
/-! ### cells are changed -/
section
variable {K : PySem.W.Frag} {W : WX}
/-- x.append(e) -/
def aApp (o a : AE) : AE := fun env st q er => o env st (fun x s1 => ∃ n l, x = .ref n ∧ s1[n]? = some (.lst l) ∧ a env s1 (fun y s2 => ∃ l, s2[n]? = some (.lst l) ∧ l.length < 100000 ∧ q .non (s2.set n (.lst (l ++ [y])))) er) er
theorem refE_app {to te : TE} {ao ae : AE} (ho : RefE K W to ao) (he : RefE K W te ae) : RefE K W (tBM K "list" rAppend to (tCons te tNil)) (aApp ao ae) := fun G env st σ H Q q er s l h tE tX => by
  refine ho G env st σ H _ _ er s l h (fun v d st1 G1 H1 p1 s1 r1 h1 => ?_) tX
  obtain ⟨n, ls, rfl, hn, h1⟩ := h1
  cases r1 with
  | ref ep =>
    rename_i p
    obtain ⟨vs, gp, hp, rs⟩ := s1.cell n _ p hn ep
    refine ⟨Or.inl ⟨rfl, _, Or.inl (Or.inl hp)⟩, he G1 env st1 σ H1 _ _ er s1 (l.mono p1.le) h1 (fun w d st2 G2 H2 p2 s2 r2 h2 => ?_) (tX.on p1)⟩
    obtain ⟨ls2, hn2, hl, h2⟩ := h2
    obtain ⟨vs2, gp2, hp2, rs2⟩ := s2.cell n _ p hn2 (pre_get p2.le.a ep)
    obtain ⟨s3, p3⟩ := s2.setCell (n := n) (c' := .lst (ls2 ++ [d])) (o := .lst (vs2 ++ [w])) (pre_get p2.le.a ep) gp2 ⟨_, gp2, upd_same, rs2.append (.one r2)⟩
    exact ⟨p, vs2, w, rfl, rfl, hp2, sz_lt (by rw [← rs2.length]; exact hl), tE .non .non _ G2 _ ((p1.trans p2).trans p3) s3 .non h2⟩
/-- x[i] = e: the value first -/
def sSetIx (o b a : AE) : AS := fun env st k => a env st (fun d s1 => o env s1 (fun x s2 => b env s2 (fun j s3 => match x, j with
  | .ref n, .int i => ∃ l j, s3[n]? = some (.lst l) ∧ ixN l.length i = some j ∧ k.nx env (s3.set n (.lst (l.set j d)))
  | _, _ => False) (fun e s => k.er e env s)) (fun e s => k.er e env s)) (fun e s => k.er e env s)
theorem refS_setIx {ta to tb : TE} {aa ao ab : AE} (ha : RefE K W ta aa) (ho : RefE K W to ao) (hb : RefE K W tb ab) : RefS K W (tAsg ta (gSub to tb rSetL)) (sSetIx ao ab aa) := fun G env st σ H D k s l h t => by
  refine ha G env st σ H _ _ _ s l h (fun v d st1 G1 H1 p1 s1 r1 h1 => ?_) (t.x l)
  refine ho G1 env st1 σ H1 _ _ _ s1 (l.mono p1.le) h1 (fun w x st2 G2 H2 p2 s2 r2 h2 => ?_) ((t.x l).on p1)
  refine hb G2 env st2 σ H2 _ _ _ s2 (l.mono (p1.trans p2).le) h2 (fun u j st3 G3 H3 p3 s3 r3 h3 => ?_) ((t.x l).on (p1.trans p2))
  split at h3
  · rename_i n i
    obtain ⟨ls, j, hn, hj, h3⟩ := h3
    cases r2 with
    | ref ep =>
      rename_i p
      cases r3
      have ep3 := pre_get p3.le.a ep
      obtain ⟨vs, gp, hp, rs⟩ := s3.cell n _ p hn ep3
      obtain ⟨s4, p4⟩ := s3.setCell (n := n) (c' := .lst (ls.set j d)) (o := .lst (vs.set j v)) ep3 gp ⟨_, gp, upd_same, rs.set (r1.mono (p2.trans p3).le) j⟩
      exact ⟨p, vs, i, j, rfl, rfl, hp, by rw [← rs.length]; exact hj, t.nx env σ _ G3 _ (((p1.trans p2).trans p3).trans p4) s4 (l.mono (((p1.trans p2).trans p3).trans p4).le) h3⟩
  · exact h3.elim
/-- list(e), fresh -/
def fList (a : AE) : AFr := fun env st q er => a env st (fun d s1 => ∃ l, itemsD (vw s1 d) = some l ∧ q l s1) er
end
section
variable {X : Cx} {W : WX} {k : Nat} {o e a b : Expr} {ao ae ab aa : AE} {p pos apos spos : Pos} {x : Str}
theorem ax_app (ho : AX X W o ao) (he : AX X W e ae) (hbase : attributeBase o "append" X.env (eval o X.env) = eval o X.env := by rfl)
    (hfew : ((backTo pos (starEach [e] X.env)).all (fun x => !x.1) && (backToKw pos (keywordEach [] X.env)).all (fun x => x.1.isSome) && decide (([e] : List Expr).length + ([] : List Keyword).length + (if ([] : List Keyword).isEmpty then 0 else 1) < 30)) = true := by rfl)
    (hline : (apos.endLine == pos.line) = true := by rfl) (hs : starEach [e] X.env = (false, eval e X.env) :: starEach [] X.env := by rfl) : AX X W (.Call (.Attribute o "append" apos) [e] [] pos) (aApp ao ae) := by
  obtain ⟨to, po, ro⟩ := ho
  obtain ⟨te, pe, re⟩ := he
  exact ⟨_, pe_bm PySem.F.plainAttrs_list PySem.F.slot_list_append PySem.F.type_list_append mt_append po (pa_cons pe pa_nil hs) hbase hfew hline hs rfl, refE_app ro re⟩
theorem axs_setIx (ha : AX X W a aa) (ho : AX X W o ao) (hb : AX X W b ab)
    (hg : ∀ v, assign (.Subscript o b spos) X.env v = (do
      let ov ← holding [v] (eval o X.env)
      let iv ← holding [v, ov] (eval b X.env)
      standAt spos
      holding [v, ov, iv] (setItem ov iv v)
      release [v, ov, iv] []) := by intro _; rfl)
    (hs : swapsWithSole [.Subscript o b spos] a pos.line X.env = pure false := by rfl) (hw : swappedStores [.Subscript o b spos] a X.env = pure none := by rfl) (h1 : (assignEach [.Subscript o b spos] X.env).map (·.2) = [assign (.Subscript o b spos) X.env] := by rfl) :
    AXS X W (.Assign [.Subscript o b spos] a pos) (sSetIx ao ab aa) := by
  obtain ⟨ta, pa, ra⟩ := ha
  obtain ⟨to, po, ro⟩ := ho
  obtain ⟨tb, pb, rb⟩ := hb
  exact ⟨_, ps_asg pa (pg_sub po pb set_list hg) hs hw h1, refS_setIx ra ro rb⟩
theorem axf_list (hm : X.mg "list" = none) (ha : AX X W e ae) (hg : Gl X "list" := by rfl) (he : starEach [e] X.env = (false, eval e X.env) :: starEach [] X.env := by rfl) (hpl : (backTo pos (starEach [] X.env)).any (·.1) = false := by rfl) : AXF X W (.Call (.Name "list" p) [e] [] pos) (fList ae) := by
  obtain ⟨ta, pa, ra⟩ := ha
  refine ⟨_, pe_callTy call_list_of hg hm (by decide +kernel) (pa_cons pa pa_nil he) (by decide) (by decide) he hpl, fun G env st σ H Q q er s sl h tF tX => ra G env st σ H _ _ er s sl h (fun v d st1 G1 H1 p1 s1 r1 h1 => ?_) tX⟩
  obtain ⟨l, hl, h1⟩ := h1
  have fin : ∀ {vs : List V}, Reps X.K G1 l vs → ∀ ad, H1 ad = none → Q (.ref ad) (upd H1 ad (.lst vs)) := fun {vs} rs ad hn => by
    obtain ⟨s2, p2, n2, g2⟩ := s1.room (o := .lst vs) hn
    exact tF _ l st1 G1 _ (p1.trans p2) s2 (ResOk.on p1 ⟨ad, vs, rfl, upd_same, g2, n2, hn, rs⟩) h1
  have rv := r1.vw s1
  generalize vw st1 d = d' at hl rv
  cases rv with
  | lst h1 rs => cases hl; exact ⟨_, _, rfl, .inl (SqL.of h1), fin rs⟩
  | tup h1 rs _ => cases hl; exact ⟨_, _, rfl, .inr (SqT.of h1), fin rs⟩
  | _ => cases hl
end
/-! ### a cell's list is frozen, ahead of a piece -/
def sFrz (i : Nat) (a : AS) : AS := fun env st k => ∃ n l, env[i]? = some (.d (.ref n)) ∧ st[n]? = some (.lst l) ∧ a (env.set i (.d (.lst l))) (st.set n .dead) k
theorem refS_frz {K : PySem.W.Frag} {W : WX} {ts : TS} {as : AS} (i : Nat) (h : RefS K W ts as) : RefS K W ts (sFrz i as) := fun G env st σ H D k s l a t => by
  obtain ⟨n, ls, ei, hn, a⟩ := a
  obtain ⟨u, eu, r⟩ := l.slot i _ ei
  cases r with
  | ref ep =>
    obtain ⟨vs, gp, hp, rs⟩ := s.cell n _ _ hn ep
    obtain ⟨s2, p2⟩ := s.freezeCell ep gp hp
    refine h _ _ _ σ H D k s2 ?_ a (t.on p2)
    refine ⟨by rw [List.length_set]; exact l.len, fun j x e => ?_⟩
    rcases get_set e with ⟨rfl, rfl, _⟩ | ⟨hj, e⟩
    · exact ⟨_, eu, .lst upd_same (rs.mono p2.le)⟩
    · exact (l.slot j x e).mono p2.le
theorem axs_frz {X : Cx} {W : WX} {st : Stmt} {as : AS} (i : Nat) (h : AXS X W st as) : AXS X W st (sFrz i as) := by
  obtain ⟨t, p, r⟩ := h
  exact ⟨_, p, refS_frz i r⟩
/-- a slot is forgotten, ahead of a piece -/
def sForget (i : Nat) (a : AS) : AS := fun env st k => a (env.set i .no) st k
theorem axs_forget {X : Cx} {W : WX} {st : Stmt} {as : AS} (i : Nat) (h : AXS X W st as) : AXS X W st (sForget i as) := by
  obtain ⟨t, p, r⟩ := h
  refine ⟨_, p, fun G env st σ H D k s l a t => r G _ st σ H D k s ⟨by rw [List.length_set]; exact l.len, fun j x e => ?_⟩ a t⟩
  rcases get_set e with ⟨rfl, rfl, _⟩ | ⟨hj, e⟩
  · trivial
  · exact l.slot j x e
/-! ### the pool -/
theorem ax_listScr {X : Cx} {W : WX} {p p' pos : Pos} {x : Str} (i : Nat) (hm : X.mg "list" = none) (hN : X.N[i]? = some x := by rfl) (hv : Vis X.env.scope x := by first | exact Or.inl rfl | exact Or.inr (Or.inl rfl)) (hd : (x == ("__debug__" : Str)) = false := by decide) (hcd : (x == ("__classdict__" : Str)) = false := by decide)
    (hg : Gl X "list" := by rfl) (he : starEach [.Name x p'] X.env = (false, eval (.Name x p') X.env) :: starEach [] X.env := by rfl) (hpl : (backTo pos (starEach [] X.env)).any (·.1) = false := by rfl) :
    AX X W (.Call (.Name "list" p) [.Name x p'] [] pos) (fun env st q _ => ∃ ns, env[i]? = some (.d (.scr ns)) ∧ q (.lst (ns.map .int)) st) := by
  refine ⟨_, pe_callTy call_list_of hg hm (by decide +kernel) (pa_cons (pe_var (i := i) hN hv hd hcd) pa_nil he) (by decide) (by decide) he hpl, fun G env st σ H Q q er s sl h tF tX => ?_⟩
  obtain ⟨ns, e, h⟩ := h
  obtain ⟨u, eu, r⟩ := sl.slot i _ e
  cases r with
  | scr hs hl =>
    refine ⟨_, eu, _, _, rfl, .inl (ex_l s.ex hs), fun ad hn => ?_⟩
    obtain ⟨s2, p2⟩ := s.new (o := .lst (ns.map V.int)) hn
    exact tF _ _ st _ _ p2 s2 (.lst upd_same (Reps.ints ns)) h
def aPoolIx (i c : Nat) : AE := fun env st q _ => ∃ n m ns, env[i]? = some (.d (.ref n)) ∧ st[n]? = some (.pool m ns) ∧ match c with
  | 0 => ∀ a : Int, 0 ≤ a → a ≤ m → q (.int a) st
  | 1 => ∀ l : Int, 0 ≤ l → q (.int l) st
  | _ => ns.length ≤ 63 → q (.lst (ns.map .int)) st
theorem ax_poolIx {X : Cx} {W : WX} {c : Nat} {kk : Nat} {p p' pos : Pos} {x : Str} (i : Nat) (hc : c < 3 := by decide) (hN : X.N[i]? = some x := by rfl) (hv : Vis X.env.scope x := by first | exact Or.inl rfl | exact Or.inr (Or.inl rfl)) (hd : (x == ("__debug__" : Str)) = false := by decide) (hcd : (x == ("__classdict__" : Str)) = false := by decide) :
    AX X W (.Subscript (.Name x p) (.Constant (.int (c : Int)) kk p') pos) (aPoolIx i c) := by
  refine ⟨_, pe_ix ix_list (pe_var (i := i) hN hv hd hcd) pe_int (fun _ _ => rfl), fun G env st σ H Q q er s sl h tE tX => ?_⟩
  obtain ⟨n, m, ns, e, hn, h⟩ := h
  obtain ⟨u, eu, r⟩ := sl.slot i _ e
  cases r with
  | ref ep =>
    rename_i a
    obtain ⟨ga, at_, lf, qa, hp, h1, h2, h3, h4, h5⟩ := s.cell n _ a hn ep
    refine ⟨.ref a, eu, ?_⟩
    match c, hc, h with
    | 0, _, h => exact ⟨a, _, 0, .int at_, rfl, rfl, SqL.of hp, rfl, tE _ _ st G H Post.refl s (.int _) (h at_ h1 h2)⟩
    | 1, _, h => exact ⟨a, _, 1, .int lf, rfl, rfl, SqL.of hp, rfl, tE _ _ st G H Post.refl s (.int _) (h lf h3)⟩
    | 2, _, h => exact ⟨a, _, 2, .ref qa, rfl, rfl, SqL.of hp, rfl, tE _ _ st G H Post.refl s (.lst h4 (Reps.ints _)) (h h5)⟩
def sPoolSet (i : Nat) (c : Nat) (a : AE) : AS := fun env st k => a env st (fun d s1 => ∃ n m ns v, env[i]? = some (.d (.ref n)) ∧ s1[n]? = some (.pool m ns) ∧ d = .int v ∧ 0 ≤ v ∧ match c with
  | 0 => k.nx env (s1.set n (.pool (max m v.toNat) ns))
  | _ => k.nx env (s1.set n (.pool m ns))) (fun e s => k.er e env s)
theorem axs_poolSet {X : Cx} {W : WX} {c : Nat} {kk : Nat} {p p' pos spos : Pos} {x : Str} {a : Expr} {ae : AE} (i : Nat) (ha : AX X W a ae) (hc : c < 2 := by decide) (hN : X.N[i]? = some x := by rfl) (hv : Vis X.env.scope x := by first | exact Or.inl rfl | exact Or.inr (Or.inl rfl)) (hd : (x == ("__debug__" : Str)) = false := by decide) (hcd : (x == ("__classdict__" : Str)) = false := by decide)
    (hg : ∀ v, assign (.Subscript (.Name x p) (.Constant (.int (c : Int)) kk p') spos) X.env v = (do
      let ov ← holding [v] (eval (.Name x p) X.env)
      let iv ← holding [v, ov] (eval (.Constant (.int (c : Int)) kk p') X.env)
      standAt spos
      holding [v, ov, iv] (setItem ov iv v)
      release [v, ov, iv] []) := by intro _; rfl)
    (hs : swapsWithSole [.Subscript (.Name x p) (.Constant (.int (c : Int)) kk p') spos] a pos.line X.env = pure false := by rfl) (hw : swappedStores [.Subscript (.Name x p) (.Constant (.int (c : Int)) kk p') spos] a X.env = pure none := by rfl) (h1 : (assignEach [.Subscript (.Name x p) (.Constant (.int (c : Int)) kk p') spos] X.env).map (·.2) = [assign (.Subscript (.Name x p) (.Constant (.int (c : Int)) kk p') spos) X.env] := by rfl) :
    AXS X W (.Assign [.Subscript (.Name x p) (.Constant (.int (c : Int)) kk p') spos] a pos) (sPoolSet i c ae) := by
  obtain ⟨ta, pa, ra⟩ := ha
  refine ⟨_, ps_asg pa (pg_sub (pe_var (i := i) hN hv hd hcd) pe_int set_list hg) hs hw h1, fun G env st σ H D k s l h t => ?_⟩
  refine ra G env st σ H _ _ _ s l h (fun v d st1 G1 H1 p1 s1 r1 h1 => ?_) (t.x l)
  obtain ⟨n, m, ns, w, e, hn, rfl, h0, h1⟩ := h1
  cases r1
  obtain ⟨u, eu, r⟩ := (l.mono p1.le).slot i _ e
  cases r with
  | ref ep =>
    rename_i ad
    obtain ⟨ga, at_, lf, qa, hp, g1, g2, g3, g4, g5⟩ := s1.cell n _ ad hn ep
    refine ⟨.ref ad, eu, ad, _, (c : Int), c, rfl, rfl, hp, ?_, ?_⟩
    · match c, hc with
      | 0, _ => rfl
      | 1, _ => rfl
    · match c, hc, h1 with
      | 0, _, h1 =>
        obtain ⟨s2, p2⟩ := s1.setCell (n := n) (c' := .pool (max m w.toNat) ns) (o := .lst [.int w, .int lf, .ref qa]) ep ga ⟨ga, w, lf, qa, upd_same, h0, by show w ≤ ((max m w.toNat : Nat) : Int); omega, g3, g4, g5⟩
        exact t.nx _ _ _ G1 _ (p1.trans p2) s2 (l.mono (p1.trans p2).le) h1
      | 1, _, h1 =>
        obtain ⟨s2, p2⟩ := s1.setCell (n := n) (c' := .pool m ns) (o := .lst [.int at_, .int w, .ref qa]) ep ga ⟨ga, at_, w, qa, upd_same, g1, g2, h0, g4, g5⟩
        exact t.nx _ _ _ G1 _ (p1.trans p2) s2 (l.mono (p1.trans p2).le) h1
/-- a cell that is a pool's list is a pool from now on -/
theorem SS.pool {K : PySem.W.Frag} {G : Gh} {st : S} {H : Hp} (s : SS K G st H) {n : Nat} {a l : Int} {ns : List Int} (h : st[n]? = some (.lst [.int a, .int l, .lst (ns.map .int)])) (h0 : 0 ≤ a) (h1 : 0 ≤ l) (h2 : ns.length ≤ 63) : SS K G (st.set n (.pool a.toNat ns)) H := by
  refine ⟨s.ex, by rw [List.length_set]; exact s.len, s.nd, fun m c p e1 e2 => ?_⟩
  rcases get_set e1 with ⟨rfl, rfl, _⟩ | ⟨hj, e1⟩
  · obtain ⟨vs, gp, hp, rs⟩ := s.cell m _ p h e2
    match vs, rs with
    | [_, _, _], .cons (.int _) (.cons (.int _) (.cons (.lst hq rq) .nil)) =>
      have : ∀ {ns : List Int} {vs : List V}, Reps K G (ns.map D.int) vs → vs = ns.map V.int := fun {ns} => by
        induction ns with
        | nil => intro vs r; cases r; rfl
        | cons n ns ih =>
          intro vs r
          cases r with
          | cons h r => cases h; rw [ih r]; rfl
      have e := this rq
      subst e
      exact ⟨gp, a, l, _, hp, h0, by omega, h1, hq, h2⟩
  · exact s.cell m c p e1 e2
end AM
set_option Elab.async false
set_option linter.all false
set_option maxRecDepth 100000
set_option maxHeartbeats 4000000
namespace AM
open PySem PySem.Spec L2 Evl
/-! ### a def's data by its place -/
def fdAt (K : PySem.W.Frag) (a : Addr) : FuncData := match K.lookup a with
  | some ⟨_, _, .func fd, _⟩ => fd
  | _ => PySem.W.fnOf "" "" { posonlyargs := [], args := [], vararg := none, kwonlyargs := [], kw_defaults := [], kwarg := none, defaults := [] } [] { kind := .function, names := [], isGenerator := false, isCoroutine := false } .none .none .none .none none .none .none
theorem fdAt_of {K : PySem.W.Frag} {x qual : Str} {params : Arguments} {body : List Stmt} {scope : Scope} {dvs : List V} {kws : List (Str × V)} {f : Addr} {fd : FuncData} (F : FunD K x qual params body scope dvs kws f fd) : FunD K x qual params body scope dvs kws f (fdAt K f) := by
  have e : fdAt K f = fd := by
    obtain ⟨oc, od, dV, kV, doc, pm, an, cdv, ct, osl, _, lk, _⟩ := F.ex
    unfold fdAt
    rw [lk]
  rw [e]
  exact F
theorem XC.binds {P : Program} {K : PySem.W.Frag} {mg : Str → Option Value} {C f : Addr} {fd : FuncData} {params : Arguments} {body : List Stmt} {scope : Scope} {ps : List Str} (T : XC P K mg C f fd params body scope)
    (h : ∀ (qual : Str) (kV doc pm ct : Value) (an : Option Addr) (cda cc : Addr) (us : List Value), us.length = ps.length → bindArgs (PySem.W.ksFn "__init__" qual params body scope .none kV doc pm an (.ref cda) ct cc) ⟨us, []⟩ = pure (ps.zip us)) : Binds K fd ps [] := by
  obtain ⟨qual, kV, doc, pm, ct, oc, an, od, osl, cc, cda, cl, cld, csl, ccl, cdd, vs, ccs, tf, rfl, _⟩ := T.fn
  exact .all (h qual kV doc pm ct an cda cc)
/-! ### a comprehension's scope, looked at once -/
def blkB (N : List Str) (sc scope : Scope) (own : List (Str × Nat)) : Bool := decide (scope.kind = .function) && (scope.names.all (fun y => decide (scope.names.lookup y.1 = some y.2)) && (own.all (fun p => decide (N[p.2]? = some p.1)) &&
  (scope.names.all (fun y => !decide (y.2 = .free) || (decide (sc.names.lookup y.1 = some .cell) || decide (sc.names.lookup y.1 = some .free))) && scope.names.all (fun y => !(decide (y.2 = .local) || decide (y.2 = .cell)) || (decide (y.1 ∈ own.map (·.1)) || !decide (y.1 ∈ N))))))
theorem blk_of {N : List Str} {sc scope : Scope} {own : List (Str × Nat)} (h : blkB N sc scope own = true) : BlkOk N sc scope own := by
  unfold blkB at h
  simp only [Bool.and_eq_true, decide_eq_true_eq, List.all_eq_true, Bool.or_eq_true, Bool.not_eq_true', decide_eq_false_iff_not] at h
  obtain ⟨h1, h2, h3, h4, h5⟩ := h
  refine ⟨h1, fun y hy => h2 y hy, fun p hp => h3 p hp, fun y hy e => ?_, fun y hy e => ?_⟩
  · exact (h4 y hy).resolve_left fun n => n e
  · rcases h5 y hy with n | n
    · rcases e with e | e <;> simp [e] at n
    · exact n
/-! ### a promise may be weakened -/
theorem FnOk.weak {P : Program} {w : World} {K : PySem.W.Frag} {mg : Str → Option Value} {base : Heap} {CX : CXT} {k : Nat} {f : Addr} {fd : FuncData} {ps : List Str} {m m' : AF} (F : FnOk P w K mg base CX k f fd ps (SpA K m)) (h : ∀ args st q er, m' args st q er → m args st q er) : FnOk P w K mg base CX k f fd ps (SpA K m') := by
  have e : ∀ vs H Q E, SpA K m' vs H Q E → SpA K m vs H Q E := fun vs H Q E ⟨G, st, args, q, er, a, b, c, d⟩ => ⟨G, st, args, q, er, a, b, h _ _ _ _ c, d⟩
  exact ⟨fun vs H Q E z => F.len vs H Q E (e _ _ _ _ z), fun A outer s H args us vs Q E h1 h2 h3 h4 z => F.run A outer s H args us vs Q E h1 h2 h3 h4 (e _ _ _ _ z)⟩
/-! ### the law's own def -/
def aPoolNew : AS := sRetF (fLst (aCons (aC (.int 0)) (aCons (aC (.int 0)) (aCons (fun env st q _ => ∃ ns, env[0]? = some (.d (.scr ns)) ∧ q (.lst (ns.map .int)) st) (aNil)))))
def spLaw (K : PySem.W.Frag) : Sp := fun vs H Q _ => ∃ (a : Addr) (ns : List Int), vs = [.ref a] ∧ SqL K H a (ns.map V.int) ∧ ns.length ≤ 63 ∧ ∀ H', Q (.bl true) H'
/-- the end that a law wants -/
def yes : AK := ⟨fun _ _ => False, fun r _ => r = .d (.bl true), fun _ _ => False, fun _ _ => False, fun _ _ _ => False⟩
theorem law_fn {P : Program} {w : World} {K : PySem.W.Frag} {mg : Str → Option Value} {base : Heap} {x qual : Str} {params : Arguments} {st : Stmt} {rest : List Stmt} {scope : Scope} {dvs : List V} {kws : List (Str × V)} {f : Addr} {fd : FuncData} {p1 p2 : Str} {N : List Str} {k : Nat} {as : AS}
    (F : FunD K x qual params (st :: rest) scope dvs kws f fd) (S : FnScope (p1 :: p2 :: N) [p1] scope)
    (hb : ∀ (cdv : Value) (Ar : Around) (outer : List Env) (s : Shared) (H : Hp) (E : XK), CxS (cxOf (L2N.CX P w) P w K mg base (p1 :: p2 :: N) qual scope f cdv Ar outer s H E) (dE E) k → AXS (cxOf (L2N.CX P w) P w K mg base (p1 :: p2 :: N) qual scope f cdv Ar outer s H E) (dE E) st (sCell (fCall (fnP 1 1 aPoolNew) (aCons (aVar 0) aNil) []) 1) ∧ AXB (cxOf (L2N.CX P w) P w K mg base (p1 :: p2 :: N) qual scope f cdv Ar outer s H E) (dE E) rest as)
    (hm : ∀ (ns : List Int), ns.length ≤ 63 → as (.d (.scr ns) :: .d (.ref 0) :: List.replicate N.length .no) [.pool 0 ns] yes) : FnOk P w K mg base (L2N.CX P w) (k + 1) f fd [p1] (spLaw K) := by
  refine F.ok S (fun vs H Q E h => ?_) (fun cdv Ar outer s H vs Q E hr h => ?_)
  · obtain ⟨a, ns, rfl, _⟩ := h
    rfl
  · obtain ⟨a, ns, rfl, hs, hl, hq⟩ := h
    obtain ⟨⟨t1, q1, r1⟩, t2, q2, r2⟩ := hb cdv Ar outer s H E ⟨⟨rfl, S.nd, hr, L2N.takes_of rfl rfl rfl rfl⟩, passes_of rfl, rfl, rfl⟩
    refine ⟨_, pss_cons q1 q2, ?_⟩
    have G0 : ∃ G : Hp, Ex G H ∧ SqL K G a (ns.map V.int) := by
      rcases hs with hs | hs
      · refine ⟨fun b => if b = a then H a else none, fun b o e => ?_, .inl ?_⟩
        · by_cases hb : b = a
          · subst hb; simpa using e
          · simp [hb] at e
        · rcases hs with hs | ⟨o, hs⟩
          · exact .inl (by show (if a = a then H a else none) = _; rw [if_pos rfl]; exact hs)
          · exact .inr ⟨o, by show (if a = a then H a else none) = _; rw [if_pos rfl]; exact hs⟩
      · exact ⟨fun _ => none, fun _ _ e => (by cases e), .inr hs⟩
    obtain ⟨G, gx, gs⟩ := G0
    have e : L2.start (p1 :: p2 :: N) [V.ref a] = [V.ref a].map some ++ List.replicate (N.length + 1) none := by
      unfold L2.start
      rfl
    have ss : SS K ⟨G, []⟩ [] H := ⟨gx, rfl, List.nodup_nil, fun n c p e => by simp at e⟩
    have rr : Reps K ⟨G, []⟩ [.scr ns] [V.ref a] := .one (.scr gs hl)
    rw [e]
    refine r1 ⟨G, []⟩ _ [] _ H _ ⟨fun env st => env = .d (.scr ns) :: .d (.ref 0) :: List.replicate N.length .no ∧ st = [.lst [.int 0, .int 0, .lst (ns.map .int)]], fun _ _ => False, fun _ _ => False, fun _ _ => False, fun _ _ _ => False⟩ ss (rr.sl (N.length + 1)) ?_ ⟨fun env' σ' st2 G2 H2 _ s2 l2 h2 => ?_, fun _ _ _ _ _ _ _ _ z => z.elim, fun _ _ _ _ _ _ _ _ z => z.elim, fun _ _ _ _ _ _ _ _ z => z.elim, fun _ _ _ _ _ _ _ _ _ _ _ _ z => z.elim⟩
    · refine ⟨rfl, ?_⟩
      refine ⟨ns, rfl, ?_⟩
      exact ⟨by show 3 ≤ 100000; decide, rfl, rfl⟩
    · obtain ⟨rfl, rfl⟩ := h2
      have s3 := s2.pool (n := 0) (a := 0) (l := 0) (ns := ns) rfl (by decide) (by decide) hl
      refine r2 G2 _ _ σ' H2 _ yes s3 l2 (hm ns hl) ⟨fun _ _ _ _ _ _ _ _ z => z.elim, fun v r _ _ H3 _ _ r3 h3 => ?_, fun _ _ _ _ _ _ _ _ z => z.elim, fun _ _ _ _ _ _ _ _ z => z.elim, fun _ _ _ _ _ _ _ _ _ _ _ _ z => z.elim⟩
      have h4 : r = .d (.bl true) := h3
      subst h4
      cases r3
      exact hq H3
end AM
set_option Elab.async false
set_option linter.all false
set_option maxRecDepth 100000
set_option maxHeartbeats 4000000
namespace AM
open PySem PySem.Spec L2 Evl
/-! ### f(k = e, ..): keywords alone, every parameter named or filled up -/
/-- the values in the parameters' order: ix tells where each stands among the keywords -/
def pick {α : Type} (ix : List Nat) (l : List α) : List α := ix.filterMap fun i => l[i]?
theorem pick_vals {zs : List V} {ws : List Value} (r : Vals zs ws) : ∀ ix, Vals (pick ix zs) (pick ix ws)
  | [] => .nil
  | i :: ix => by
    have ih := pick_vals r ix
    unfold pick at ih ⊢
    cases h : zs[i]? with
    | some z =>
      obtain ⟨u, hu, rv⟩ := r.get h
      rw [List.filterMap_cons_some h, List.filterMap_cons_some hu]
      exact .cons rv ih
    | none =>
      have hn : ws[i]? = none := by
        rw [List.getElem?_eq_none_iff] at h ⊢
        rw [← r.length]; exact h
      rw [List.filterMap_cons_none h, List.filterMap_cons_none hn]
      exact ih
theorem pick_reps {K : PySem.W.Frag} {G : Gh} : ∀ {ds : List D} {vs : List V} (i : Nat), Reps K G ds vs → (∀ d, ds[i]? = some d → ∃ v, vs[i]? = some v ∧ Rep K G d v) ∧ (ds[i]? = none → vs[i]? = none)
  | [], _, i, .nil => ⟨fun d h => by simp at h, fun _ => by simp⟩
  | d :: ds, v :: vs, 0, .cons r _ => ⟨fun d' h => ⟨v, rfl, by cases h; exact r⟩, fun h => by simp at h⟩
  | d :: ds, v :: vs, i + 1, .cons _ rs => ⟨fun d' h => (pick_reps i rs).1 d' h, fun h => (pick_reps i rs).2 h⟩
theorem pick_rep {K : PySem.W.Frag} {G : Gh} {ds : List D} {vs : List V} (r : Reps K G ds vs) : ∀ ix, Reps K G (pick ix ds) (pick ix vs)
  | [] => .nil
  | i :: ix => by
    have ih := pick_rep r ix
    unfold pick at ih ⊢
    cases h : ds[i]? with
    | some z =>
      obtain ⟨u, hu, rv⟩ := (pick_reps i r).1 z h
      rw [List.filterMap_cons_some h, List.filterMap_cons_some hu]
      exact .cons rv ih
    | none =>
      rw [List.filterMap_cons_none h, List.filterMap_cons_none ((pick_reps i r).2 h)]
      exact ih
def BindsK (K : PySem.W.Frag) (fd : FuncData) (ps ks : List Str) (ix : List Nat) : Prop := ∀ (s : Shared) (ws : List Value), K.In s.heap → ws.length = ks.length → BindsTo s fd ⟨[], ks.zip ws⟩ (ps.zip (pick ix ws))
section
variable {K : PySem.W.Frag} {x qual : Str} {params : Arguments} {body : List Stmt} {scope : Scope} {dvs : List V} {kws : List (Str × V)} {f : Addr} {fd : FuncData} {ps ks : List Str} {ix : List Nat}
/-- with defaults, none of them read -/
theorem bindsK1 (F : FunD K x qual params body scope dvs kws f fd) (hd : dvs ≠ [])
    (h : ∀ (T : Addr) (kV doc pm : Value) (an : Option Addr) (cdv ct : Value) (ws its : List Value), ws.length = ks.length → its.length = dvs.length → ∃ k, bindArgs (PySem.W.fnOf x qual params body scope (.ref T) kV doc pm an cdv ct) ⟨[], ks.zip ws⟩ = seqItems? (.ref T) >>= k ∧ k (some its.toArray) = pure (ps.zip (pick ix ws))) : BindsK K fd ps ks ix := by
  obtain ⟨oc, od, dV, kV, doc, pm, an, cdv, ct, osl, rfl, lk, hcd, hD, hK⟩ := F.ex
  rcases hD with ⟨e, _⟩ | ⟨_, T, o, its, m, rfl, lT, oT, rT⟩
  · exact absurd e hd
  · intro s ws X hl
    obtain ⟨k, e1, e2⟩ := h T kV doc pm an cdv ct ws its hl rT.length.symm
    refine BindsTo.of_looks fun M => ?_
    rw [e1]
    exact looks_items X lT oT (.of_pure e2)
theorem bindsK0 (F : FunD K x qual params body scope [] kws f fd)
    (h : ∀ (kV doc pm : Value) (an : Option Addr) (cdv ct : Value) (ws : List Value), ws.length = ks.length → bindArgs (PySem.W.fnOf x qual params body scope .none kV doc pm an cdv ct) ⟨[], ks.zip ws⟩ = pure (ps.zip (pick ix ws))) : BindsK K fd ps ks ix := by
  obtain ⟨oc, od, dV, kV, doc, pm, an, cdv, ct, osl, rfl, lk, hcd, hD, hK⟩ := F.ex
  rcases hD with ⟨_, rfl⟩ | ⟨e, _⟩
  · exact fun s ws X hl => .of_eq (h kV doc pm an cdv ct ws hl)
  · exact absurd rfl e
end
def tCallK0 (n : Nat) (sp : Sp) (ix : List Nat) (E : L2.St → XK) (tk : TA) : TE := fun σ H Q => tk σ H fun zs H2 => zs.length = n ∧ sp (pick ix zs) H2 Q (E σ)
section
variable {X : Cx} {CX : CXT} {W : WX} {j k : Nat} {f : Addr} {fd : FuncData} {ps ks : List Str} {ix : List Nat} {sp : Sp} {E : L2.St → XK} {x : Str} {p pos : Pos} {kws : List Keyword} {tk : TA}
theorem pe_callK0 (F : FnOk X.prog X.w X.K X.mg X.base CX k f fd ps sp) (hr : Room k X.A) (hg : Gl X x) (hm : X.mg x = some (.ref f)) (hk : PySem.W.keepIn X.K (.ref f) = true) (hb : BindsK X.K fd ps ks ix) (hx : ∀ σ, PassesAt CX X σ (E σ)) (hkw : PK X kws tk)
    (hall : (backToKw pos (keywordEach kws X.env)).all (·.1.isSome) = true := by rfl) (hks : (backToKw pos (keywordEach kws X.env)).filterMap (·.1) = ks := by rfl) (hdb : (x == ("__debug__" : Str)) = false := by decide)
    (hpl : ((backTo pos (starEach [] X.env)).any (·.1) || (backToKw pos (keywordEach kws X.env)).any (·.1.isNone)) = false := by rfl) : PE X (.Call (.Name x p) [] kws pos) (tCallK0 ks.length sp ix E tk) := by
  refine ⟨fun pins s σ H Q I h => ?_⟩
  refine wpAny_Call_Name_kw (ld_glob I hg hm ?_ hdb)
  refine PySem.W.callWith_KW0 (h₀ := X.base) I.ok.mod.kin hk hall (thn (hkw.run pos pins s σ H _ I h) fun ws s2 ⟨zs, H2, I2, rz, l2, q2⟩ => ⟨I2.kIn, ?_⟩) hpl
  rw [hks]
  refine wpAny_call (codeAny_mono (F.run X.A X.stack s2 H2 ⟨[], ks.zip ws⟩ (pick ix ws) (pick ix zs) Q (E σ) hr I2.env0 (hb s2 ws I2.kIn (rz.length.symm.trans l2)) (pick_vals rz ix) q2) fun r s' hq => ?_)
  cases r with
  | error e => exact hx σ pins H2 s2 e s' I2 hq
  | ok fl =>
    cases fl with
    | ret u => exact I2.after hq
    | _ => exact False.elim hq
def AXK (X : Cx) (W : WX) (kws : List Keyword) (aa : AEs) : Prop := ∃ ta, PK X kws ta ∧ RefA X.K W ta aa
theorem axk_nil : AXK X W [] aNil := ⟨_, pk_nil, refA_nil⟩
theorem axk_cons {e : Expr} {aa : AE} {ar : AEs} {nm : Option Str} {kpos : Pos} (ha : AX X W e aa) (hr : AXK X W kws ar) : AXK X W (⟨nm, e, kpos⟩ :: kws) (aCons aa ar) := by
  obtain ⟨t, p, r⟩ := ha
  obtain ⟨t2, p2, r2⟩ := hr
  exact ⟨_, pk_cons p p2, refA_cons r r2⟩
def aCallK (n : Nat) (m : AF) (ix : List Nat) (as : AEs) : AE := fun env st q er => as env st (fun ds s1 => ds.length = n ∧ m (pick ix ds) s1 (fun r s2 => match r with
  | .d d => q d s2
  | .own xs => q (.lst xs) s2) er) er
theorem refE_callK {K : PySem.W.Frag} {m : AF} {as : AEs} {n : Nat} (ha : RefA K W tk as) : RefE K W (tCallK0 n (SpA K m) ix (fun σ c d H => W c d σ H) tk) (aCallK n m ix as) := fun G env st σ H Q q er s l h tE tX => by
  refine ha G env st σ H _ _ er s l h (fun vs ds st2 G2 H2 p2 s2 r2 h2 => ?_) tX
  obtain ⟨hl, h2⟩ := h2
  refine ⟨by rw [← r2.length]; exact hl, G2, st2, _, _, er, s2, pick_rep r2 ix, h2, fun v r st3 G3 H3 p3 s3 r3 h3 => ?_, fun e c dx st3 G3 H3 p3 s3 ea h3 => tX e c dx st3 G3 H3 (p2.trans p3) s3 ea h3⟩
  cases r with
  | d x => exact tE v x st3 G3 H3 (p2.trans p3) s3 r3 h3
  | own l =>
    obtain ⟨G4, s4, p4, r4⟩ := own_frz s3 p3 r3
    exact tE v _ st3 G4 H3 (p2.trans p4) s4 r4 h3
theorem ax_callK {m : AF} {as : AEs} {C0 : Nat} (C : CxE X W k) (F : FnOk X.prog X.w X.K X.mg X.base (L2N.CX X.prog X.w) j f fd ps (SpA X.K m)) (hm : X.mg x = some (.ref f)) (hk : PySem.W.keepIn X.K (.ref f) = true) (hb : BindsK X.K fd ps ks ix) (ha : AXK X W kws as) (hj : j ≤ k)
    (hg : Gl X x := by rfl) (hall : (backToKw pos (keywordEach kws X.env)).all (·.1.isSome) = true := by rfl) (hks : (backToKw pos (keywordEach kws X.env)).filterMap (·.1) = ks := by rfl) (hdb : (x == ("__debug__" : Str)) = false := by decide)
    (hpl : ((backTo pos (starEach [] X.env)).any (·.1) || (backToKw pos (keywordEach kws X.env)).any (·.1.isNone)) = false := by rfl) : AX X W (.Call (.Name x p) [] kws pos) (aCallK ks.length m ix as) := by
  obtain ⟨t, p, r⟩ := ha
  exact ⟨_, pe_callK0 F (C.room.mono hj) hg hm hk hb (fun σ => L2N.passAt C.takes σ) p hall hks hdb hpl, refE_callK r⟩
end
end AM
set_option Elab.async false
set_option linter.all false
set_option maxRecDepth 100000
set_option maxHeartbeats 4000000
namespace AM
open PySem PySem.Spec L2 Evl
/-! ### defs called within an except suite -/
theorem fn_okH {P : Program} {w : World} {K : PySem.W.Frag} {mg : Str → Option Value} {base : Heap} {x qual : Str} {params : Arguments} {body : List Stmt} {scope : Scope} {dvs : List V} {kws : List (Str × V)} {f : Addr} {fd : FuncData} {N ps : List Str} {k : Nat} {as : AS} {m : AF}
    (F : FunD K x qual params body scope dvs kws f fd) (S : FnScope N ps scope) (L : Leads ps.length N.length as m)
    (hb : ∀ (cdv : Value) (A : Around) (outer : List Env) (s : Shared) (H : Hp) (E : XK) (p : Addr × Obj), AXB (L2H.cxH (L2N.CX P w) P w K mg base N qual scope f cdv A outer s H E p) (dE E) body as) : L2H.FnH P w K mg base (L2N.CX P w) (k + 1) f fd ps (SpA K m) := by
  obtain ⟨oc, od, dV, kV, doc, pm, an, cdv, ct, osl, rfl, lk, hcd, _, _⟩ := F.ex
  refine L2H.fn_ofH lk hcd S (fun vs H Q E h => ?_) (fun A outer s H vs Q E p hot hr h => ?_)
  · obtain ⟨G, st, args, q, er, ss, r, m, _⟩ := h
    rw [← r.length]
    exact L.ar _ _ _ _ m
  · obtain ⟨G, st, args, q, er, ss, r, m, hq, he⟩ := h
    obtain ⟨ts, p1, p2⟩ := hb cdv A outer s H E p
    refine ⟨ts, p1, ?_⟩
    obtain ⟨kk, hk, tk⟩ := L.run ss r m hq he
    have e : L2.start N vs = vs.map some ++ List.replicate (N.length - ps.length) none := by unfold L2.start; rw [← r.length, L.ar _ _ _ _ m]
    rw [e]
    exact p2 G _ st _ H _ kk ss (r.sl _) hk tk
section
variable {X : Cx} {W : WX} {k j : Nat} {x : Str} {p pos : Pos} {e : Expr} {es : List Expr} {aa : AEs} {m : AF} {f : Addr} {fd : FuncData} {ps : List Str} {a : Addr} {oe : Obj} {cls : Value} {d : Option Addr} {pn : List (Addr × Obj)}
theorem ax_callH (C : CxE X W k) (hz : L2N.Zn cls d oe) (hf : ∃ vs, oe.data = .fields vs) (F : L2H.FnH X.prog X.w X.K X.mg X.base (L2N.CX X.prog X.w) j f fd ps (SpA X.K m)) (hm : X.mg x = some (.ref f)) (hk : PySem.W.keepIn X.K (.ref f) = true) (hb : BindsD X.K fd ps []) (ha : AXA (X.suite a ((a, oe) :: pn)) W0 (e :: es) aa) (hj : j ≤ k)
    (hg : Gl X x := by rfl) (hdb : (x == ("__debug__" : Str)) = false := by decide) (he : starEach (e :: es) X.env = (false, eval e X.env) :: starEach es X.env := by rfl) (hpl : (backTo pos (starEach es X.env)).any (·.1) = false := by rfl) : AX (X.suite a ((a, oe) :: pn)) W0 (.Call (.Name x p) (e :: es) [] pos) (aCall m aa []) := by
  obtain ⟨t, pa, r⟩ := ha
  obtain ⟨ds, hv, hb⟩ := hb
  cases hv
  obtain ⟨vs, hvs⟩ := hf
  have hot : L2H.HotC (X.suite a ((a, oe) :: pn)) := ⟨(a, oe), ⟨rfl, vs, hvs, hz.2.2 vs hvs⟩, by simp [Cx.suite]⟩
  have rm : L2H.RoomH j (X.suite a ((a, oe) :: pn)).A := ⟨by have := (C.room.mono hj).dp; exact this, by have := (C.room.mono hj).un; exact this⟩
  refine ⟨_, L2H.pe_callH (X := X.suite a ((a, oe) :: pn)) (E := fun σ c d H => W0 c d σ H) F rm hot hg hm hk hb (fun σ => L2N.passAt (W := W0) takesN0 σ) pa hdb he hpl, fun G env st σ H Q q er s l h tE tX => ?_⟩
  refine r G env st σ H _ _ er s l h (fun vs ds st2 G2 H2 p2 s2 a2 h2 => ?_) tX
  rw [List.append_nil] at h2
  refine ⟨G2, st2, _, _, er, s2, a2, h2, fun v r st3 G3 H3 p3 s3 r3 h3 => ?_, fun e c dx st3 G3 H3 p3 s3 ea h3 => tX e c dx st3 G3 H3 (p2.trans p3) s3 ea h3⟩
  cases r with
  | d x => exact tE v x st3 G3 H3 (p2.trans p3) s3 r3 h3
  | own l =>
    obtain ⟨G4, s4, p4, r4⟩ := own_frz s3 p3 r3
    exact tE v _ st3 G4 H3 (p2.trans p4) s4 r4 h3
end
/-! ### == within an except suite: enough that there is room -/
theorem op_EqR {X : Cx} {k : Nat} (r : Room k X.A) {a : Addr} {pn : List (Addr × Obj)} : OpR (X.suite a pn) (compareOp .Eq) (rEqD X.K) ∧ RefO X.K (rEqD X.K) oEq := ⟨op_eqD (by have := u64 r; show X.A.units + _ < _; omega), ref_eq⟩
end AM
set_option Elab.async false
set_option linter.all false
set_option maxRecDepth 100000
set_option maxHeartbeats 4000000
namespace AM
open PySem L2
/-! ### the readings, as they run (each applied in full, from the outside) -/
section
variable {env : List A} {st : S} {q : D → S → Prop} {qt : Bool → S → Prop} {ql : List D → S → Prop} {er : QX} {k : AK} {a b c : AE} {as : AEs} {s u : AS} {t v : AT} {g : AG} {gs : AGs} {f f2 : O2} {i j : Nat} {d : D} {x y : D} {xs : List D} {it it1 : AI} {qi : List D → Gd → S → Prop} {af bf : AFr} {z : List A → Prop} {o : O1} {fn : ON} {vs vs1 : List Nat} {gd : Gd} {g1 : AG} {t1 : AT} {m : AF} {dd : List D} {ix : List Nat}
end
def bq (x : D) (p : Bool → Prop) : Prop := ∃ c, x = .bl c ∧ p c
def tsQ (q : Bool → S → Prop) (x : D) (s : S) : Prop := ∃ b, x = .bl b ∧ q b s
def trQ (q : Bool → S → Prop) (x : D) (s : S) : Prop := ∃ b, truthD (vw s x) = some b ∧ q b s
def rsQ (q : D → S → Prop) (r : Rs) (s : S) : Prop := match r with
  | .d d => q d s
  | .own l => q (.lst l) s
def rsF (q : List D → S → Prop) (r : Rs) (s : S) : Prop := match r with
  | .own l => q l s
  | _ => False
def parQ (i j : Nat) (env : List A) (k : AK) (ds : List D) (s1 : S) : Prop := match ds with
  | [x, y] => k.nx ((env.set i (.d x)).set j (.d y)) s1
  | _ => False
def rngQ (q : List D → Gd → S → Prop) (d : D) (s1 : S) : Prop := match d with
  | .int j => (-(2 ^ 62) ≤ j ∧ j < 2 ^ 62) ∧ q ((List.range j.toNat).map fun (i : Nat) => D.int (i : Int)) [] s1
  | _ => False
def rngQ2 (q : List D → Gd → S → Prop) (d d2 : D) (s2 : S) : Prop := match d, d2 with
  | .int i, .int j => (-(2 ^ 62) ≤ i ∧ i < 2 ^ 62 ∧ -(2 ^ 62) ≤ j ∧ j < 2 ^ 62) ∧ q ((List.range (j - i).toNat).map fun (n : Nat) => D.int (i + (n : Int))) [] s2
  | _, _ => False
def setQ (env : List A) (k : AK) (d x j : D) (s3 : S) : Prop := match x, j with
  | .ref n, .int i => ∃ l j, s3[n]? = some (.lst l) ∧ ixN l.length i = some j ∧ k.nx env (s3.set n (.lst (l.set j d)))
  | _, _ => False
section
variable {env : List A} {st : S} {q : D → S → Prop} {qt : Bool → S → Prop} {ql : List D → S → Prop} {er : QX} {k : AK} {a b c : AE} {as : AEs} {s u : AS} {t v : AT} {g : AG} {gs : AGs} {f f2 : O2} {i j : Nat} {d : D} {x y : D} {xs : List D} {it it1 : AI} {qi : List D → Gd → S → Prop} {af bf : AFr} {z : List A → Prop} {o : O1} {fn : ON} {vs vs1 : List Nat} {gd : Gd} {g1 : AG} {t1 : AT} {m : AF} {dd : List D} {ix : List Nat}
@[simp] theorem bq_bl {h : Bool} {p : Bool → Prop} : bq (.bl h) p = p h := propext ⟨fun ⟨_, e, w⟩ => by cases e; exact w, fun w => ⟨_, rfl, w⟩⟩
@[simp] theorem tsQ_bl {h : Bool} : tsQ qt (.bl h) st = qt h st := propext ⟨fun ⟨_, e, w⟩ => by cases e; exact w, fun w => ⟨_, rfl, w⟩⟩
theorem trQ_of {h : Bool} (e : truthD (vw st x) = some h) : trQ qt x st = qt h st := propext ⟨fun ⟨_, e2, w⟩ => by rw [e] at e2; cases e2; exact w, fun w => ⟨_, e, w⟩⟩
@[simp] theorem trQ_bl {h : Bool} : trQ qt (.bl h) st = qt h st := trQ_of rfl
@[simp] theorem trQ_int {h : Int} : trQ qt (.int h) st = qt (h != 0) st := trQ_of rfl
@[simp] theorem trQ_non : trQ qt .non st = qt false st := trQ_of rfl
@[simp] theorem trQ_lst {l : List D} : trQ qt (.lst l) st = qt (!l.isEmpty) st := trQ_of rfl
@[simp] theorem trQ_tup {l : List D} : trQ qt (.tup l) st = qt (!l.isEmpty) st := trQ_of rfl
theorem trQ_ref {n : Nat} {l : List D} (e : st[n]? = some (.lst l)) : trQ qt (.ref n) st = qt (!l.isEmpty) st := trQ_of (by unfold vw; simp only [e]; rfl)
@[simp] theorem rsQ_d : rsQ q (.d x) st = q x st := propext Iff.rfl
@[simp] theorem rsQ_own : rsQ q (.own xs) st = q (.lst xs) st := propext Iff.rfl
@[simp] theorem rsF_own : rsF ql (.own xs) st = ql xs st := propext Iff.rfl
@[simp] theorem parQ_2 : parQ i j env k [x, y] st = k.nx ((env.set i (.d x)).set j (.d y)) st := propext Iff.rfl
@[simp] theorem rngQ_int {n : Int} : rngQ qi (.int n) st = ((-(2 ^ 62) ≤ n ∧ n < 2 ^ 62) ∧ qi ((List.range n.toNat).map fun (i : Nat) => D.int (i : Int)) [] st) := propext Iff.rfl
@[simp] theorem rngQ2_int {n h : Int} : rngQ2 qi (.int n) (.int h) st = ((-(2 ^ 62) ≤ n ∧ n < 2 ^ 62 ∧ -(2 ^ 62) ≤ h ∧ h < 2 ^ 62) ∧ qi ((List.range (h - n).toNat).map fun (i : Nat) => D.int (n + (i : Int))) [] st) := propext Iff.rfl
@[simp] theorem setQ_int {n : Nat} {h : Int} : setQ env k d (.ref n) (.int h) st = ∃ l j, st[n]? = some (.lst l) ∧ ixN l.length h = some j ∧ k.nx env (st.set n (.lst (l.set j d))) := propext Iff.rfl
@[simp ↓] theorem ev_aC  : aC d env st q er = q d st := propext Iff.rfl
@[simp ↓] theorem ev_aVar  : env[i]? = some (.d x) → aVar i env st q er = q x st := by intro h; unfold aVar; rw [h]
@[simp ↓] theorem ev_aOp  : aOp f a b env st q er = a env st (fun x s1 => b env s1 (fun y s2 => f (vw s2 x) (vw s2 y) fun z => q z s2) er) er := propext Iff.rfl
@[simp ↓] theorem ev_aChain  : aChain f f2 a b c env st q er = a env st (fun x s1 => b env s1 (fun y s2 => f (vw s2 x) (vw s2 y) fun z => bq z fun k => if k = true then c env s2 (fun w s3 => f2 (vw s3 y) (vw s3 w) fun z => q z s3) er else q (.bl false) s2) er) er := propext Iff.rfl
@[simp ↓] theorem ev_aUn  : aUn o a env st q er = a env st (fun x s1 => o (vw s1 x) fun z => q z s1) er := propext Iff.rfl
@[simp ↓] theorem ev_aIf  : aIf t a b env st q er = t env st (fun c s1 => if c = true then a env s1 q er else b env s1 q er) er := propext Iff.rfl
@[simp ↓] theorem ev_aTest  : aTest a env st qt er = a env st (tsQ qt) er := propext Iff.rfl
@[simp ↓] theorem ev_aTruth  : aTruth a env st qt er = a env st (trQ qt) er := propext Iff.rfl
@[simp ↓] theorem ev_aAnd  : aAnd t v env st qt er = t env st (fun c s1 => if c = true then v env s1 qt er else qt false s1) er := propext Iff.rfl
@[simp ↓] theorem ev_aOr  : aOr t v env st qt er = t env st (fun c s1 => if c = true then qt true s1 else v env s1 qt er) er := propext Iff.rfl
@[simp ↓] theorem ev_aNot  : aNot t env st qt er = t env st (fun c s1 => qt (!c) s1) er := propext Iff.rfl
@[simp ↓] theorem ev_aYes  : aYes env st qt er = qt true st := propext Iff.rfl
@[simp ↓] theorem ev_aAndV  : aAndV a b env st q er = a env st (fun x s1 => bq x fun c => if c = true then b env s1 q er else q (.bl false) s1) er := propext Iff.rfl
@[simp ↓] theorem ev_aOrV  : aOrV a b env st q er = a env st (fun x s1 => bq x fun c => if c = true then q (.bl true) s1 else b env s1 q er) er := propext Iff.rfl
@[simp ↓] theorem ev_aNotV  : aNotV a env st q er = a env st (fun x s1 => bq x fun c => q (.bl (!c)) s1) er := propext Iff.rfl
@[simp ↓] theorem ev_aNil  : aNil env st ql er = ql [] st := propext Iff.rfl
@[simp ↓] theorem ev_aCons  : aCons a as env st ql er = a env st (fun x s1 => as env s1 (fun xs s2 => ql (x :: xs) s2) er) er := propext Iff.rfl
@[simp ↓] theorem ev_aLst  : aLst as env st q er = as env st (fun xs s1 => xs.length ≤ 100000 ∧ q (.lst xs) s1) er := propext Iff.rfl
@[simp ↓] theorem ev_aTup  : aTup as env st q er = as env st (fun xs s1 => xs.length ≤ 100000 ∧ q (.tup xs) s1) er := propext Iff.rfl
@[simp ↓] theorem ev_aB  : aB fn as env st q er = as env st (fun xs s1 => fn (xs.map (vw s1)) fun z => q z s1) er := propext Iff.rfl
@[simp ↓] theorem ev_aFr  : aFr af env st q er = af env st (fun l s1 => q (.lst l) s1) er := propext Iff.rfl
@[simp ↓] theorem ev_aCall  : aCall m as dd env st q er = as env st (fun ds s1 => m (ds ++ dd) s1 (rsQ q) er) er := propext Iff.rfl
@[simp ↓] theorem ev_fCall  : fCall m as dd env st ql er = as env st (fun ds s1 => m (ds ++ dd) s1 (rsF ql) er) er := propext Iff.rfl
@[simp ↓] theorem ev_aCallK  : aCallK i m ix as env st q er = as env st (fun ds s1 => ds.length = i ∧ m (pick ix ds) s1 (rsQ q) er) er := propext Iff.rfl
@[simp ↓] theorem ev_fLc  : fLc it g t a vs env st ql er = it env st (fun ds gd s1 => aLcL gd g t a (wA vs env) ql ds [] s1) er := propext Iff.rfl
@[simp ↓] theorem ev_fLc2  : fLc2 it g t it1 g1 t1 a vs vs1 env st ql er = it env st (fun ds gd s1 => aLc2L gd g t it1 g1 t1 a vs1 (wA vs env) ql ds [] s1) er := propext Iff.rfl
@[simp ↓] theorem ev_fLst  : fLst as env st ql er = as env st (fun xs s1 => xs.length ≤ 100000 ∧ ql xs s1) er := propext Iff.rfl
@[simp ↓] theorem ev_fList  : fList a env st ql er = a env st (fun d s1 => ∃ l, itemsD (vw s1 d) = some l ∧ ql l s1) er := propext Iff.rfl
@[simp ↓] theorem ev_fIf  : fIf t af bf env st ql er = t env st (fun c s1 => if c = true then af env s1 ql er else bf env s1 ql er) er := propext Iff.rfl
@[simp ↓] theorem ev_agName  : agName i d env st z = z (env.set i (.d d)) := propext Iff.rfl
@[simp ↓] theorem ev_agNil  : agNil xs env st z = (xs = [] ∧ z env) := propext Iff.rfl
@[simp ↓] theorem ev_agCons  : agCons g gs (d :: xs) env st z = g d env st fun env2 => gs xs env2 st z := propext Iff.rfl
@[simp ↓] theorem ev_agTup  : agTup i gs (.tup xs) env st z = (xs.length = i ∧ gs xs env st z) := propext Iff.rfl
@[simp ↓] theorem ev_sNext  : sNext env st k = k.nx env st := propext Iff.rfl
@[simp ↓] theorem ev_sSeq  : sSeq s u env st k = s env st { k with nx := fun env2 st2 => u env2 st2 k } := propext Iff.rfl
@[simp ↓] theorem ev_sBreak  : sBreak env st k = k.bk env st := propext Iff.rfl
@[simp ↓] theorem ev_sCont  : sCont env st k = k.ct env st := propext Iff.rfl
@[simp ↓] theorem ev_sDrop  : sDrop a env st k = a env st (fun _ s1 => k.nx env s1) (fun e s1 => k.er e env s1) := propext Iff.rfl
@[simp ↓] theorem ev_sRet  : sRet a env st k = a env st (fun d s1 => k.rt (.d d) s1) (fun e s1 => k.er e env s1) := propext Iff.rfl
@[simp ↓] theorem ev_sRetN  : sRetN env st k = k.rt (.d .non) st := propext Iff.rfl
@[simp ↓] theorem ev_sRetF  : sRetF af env st k = af env st (fun l s1 => k.rt (.own l) s1) (fun e s1 => k.er e env s1) := propext Iff.rfl
@[simp ↓] theorem ev_sIf  : sIf t s u env st k = t env st (fun c s1 => if c = true then s env s1 k else u env s1 k) (fun e s1 => k.er e env s1) := propext Iff.rfl
@[simp ↓] theorem ev_sAsg  : sAsg a g env st k = a env st (fun d s1 => g d env s1 fun env2 => k.nx env2 s1) (fun e s1 => k.er e env s1) := propext Iff.rfl
@[simp ↓] theorem ev_sCell  : sCell af i env st k = af env st (fun l s1 => k.nx (env.set i (.d (.ref s1.length))) (s1 ++ [.lst l])) (fun e s1 => k.er e env s1) := propext Iff.rfl
@[simp ↓] theorem ev_sPar  : sPar i j as env st k = as env st (parQ i j env k) (fun e s1 => k.er e env s1) := propext Iff.rfl
@[simp ↓] theorem ev_sAug  : sAug i f a env st k = ∃ x, env[i]? = some (.d x) ∧ a env st (fun y s1 => f (vw s1 x) (vw s1 y) fun z => k.nx (env.set i (.d z)) s1) (fun e s1 => k.er e env s1) := propext Iff.rfl
@[simp ↓] theorem ev_sFor  : sFor it g s env st k = it env st (fun ds gd s1 => sForL gd g s ds env s1 k) (fun e s1 => k.er e env s1) := propext Iff.rfl
@[simp ↓] theorem ev_aIter  : aIter a env st qi er = a env st (fun d s1 => ∃ l, itemsD (vw s1 d) = some l ∧ qi l (gdOf s1 d) s1) er := propext Iff.rfl
@[simp ↓] theorem ev_aRng1  : aRng1 a env st qi er = a env st (rngQ qi) er := propext Iff.rfl
@[simp ↓] theorem ev_aRng2  : aRng2 a b env st qi er = a env st (fun d s1 => b env s1 (rngQ2 qi d) er) er := propext Iff.rfl
@[simp ↓] theorem ev_aApp  : aApp a b env st q er = a env st (fun x s1 => ∃ n l, x = .ref n ∧ s1[n]? = some (.lst l) ∧ b env s1 (fun y s2 => ∃ l, s2[n]? = some (.lst l) ∧ l.length < 100000 ∧ q .non (s2.set n (.lst (l ++ [y])))) er) er := propext Iff.rfl
@[simp ↓] theorem ev_sSetIx  : sSetIx b c a env st k = a env st (fun d s1 => b env s1 (fun x s2 => c env s2 (setQ env k d x) (fun e s => k.er e env s)) (fun e s => k.er e env s)) (fun e s => k.er e env s) := propext Iff.rfl
@[simp ↓] theorem ev_sFrz  : sFrz i s env st k = ∃ n l, env[i]? = some (.d (.ref n)) ∧ st[n]? = some (.lst l) ∧ s (env.set i (.d (.lst l))) (st.set n .dead) k := propext Iff.rfl
@[simp ↓] theorem ev_sForget  : sForget i s env st k = s (env.set i .no) st k := propext Iff.rfl
@[simp ↓] theorem ev_sRaise0 {c : Str} : sRaise0 c env st k = k.er ⟨c, none⟩ env st := propext Iff.rfl
@[simp ↓] theorem ev_sRaise1 {c h : Str} : sRaise1 c h a env st k = a env st (fun d s1 => k.er ⟨c, some (h, d)⟩ env s1) (fun e s1 => k.er e env s1) := propext Iff.rfl
@[simp ↓] theorem ev_oI {i j : Int} {q : D → Prop} {gg : Int → Int → D} : oI gg (.int i) (.int j) q = q (gg i j) := propext Iff.rfl
@[simp ↓] theorem ev_oIC {i j : Int} {q : D → Prop} {cc : Int → Int → Prop} {gg : Int → Int → D} : oIC cc gg (.int i) (.int j) q = (cc i j ∧ q (gg i j)) := propext Iff.rfl
@[simp ↓] theorem ev_oNeg {i : Int} {q : D → Prop}  : oNeg (.int i) q = q (.int (-i)) := propext Iff.rfl
@[simp ↓] theorem ev_oAddI {i j : Int} {q : D → Prop}  : oAdd (.int i) (.int j) q = q (.int (i + j)) := propext Iff.rfl
@[simp ↓] theorem ev_oAddL {l r : List D} {q : D → Prop}  : oAdd (.lst l) (.lst r) q = (l.length + r.length ≤ 100000 ∧ q (.lst (l ++ r))) := propext Iff.rfl
@[simp ↓] theorem ev_oIxL {l : List D} {i : Int} {q : D → Prop}  : oIx (.lst l) (.int i) q = ∃ d, atI l i = some d ∧ q d := propext Iff.rfl
@[simp ↓] theorem ev_oIxT {l : List D} {i : Int} {q : D → Prop}  : oIx (.tup l) (.int i) q = ∃ d, atI l i = some d ∧ q d := propext Iff.rfl
@[simp ↓] theorem ev_bInt {i : Int} {q : D → Prop}  : bInt [.int i] q = q (.int i) := propext Iff.rfl
@[simp ↓] theorem ev_bIntB {i : Bool} {q : D → Prop}  : bInt [.bl i] q = q (.int (if i then 1 else 0)) := propext Iff.rfl
@[simp ↓] theorem ev_bAbs {i : Int} {q : D → Prop}  : bAbs [.int i] q = q (.int (if i < 0 then -i else i)) := propext Iff.rfl
@[simp ↓] theorem ev_bMax2 {i j : Int} {q : D → Prop}  : bMax2 [.int i, .int j] q = q (.int (if j > i then j else i)) := propext Iff.rfl
@[simp ↓] theorem ev_bMin2 {i j : Int} {q : D → Prop}  : bMin2 [.int i, .int j] q = q (.int (if j < i then j else i)) := propext Iff.rfl
@[simp ↓] theorem ev_bLen {q : D → Prop}  : bLen [x] q = ∃ n, lenD x = some n ∧ q (.int n) := propext Iff.rfl
@[simp ↓] theorem ev_bList {q : D → Prop}  : bList [x] q = ∃ l, itemsD x = some l ∧ q (.lst l) := propext Iff.rfl
@[simp ↓] theorem ev_bTuple {q : D → Prop}  : bTuple [x] q = ∃ l, itemsD x = some l ∧ q (.tup l) := propext Iff.rfl
@[simp ↓] theorem ev_oEqI {i j : Int} {q : D → Prop} : oEq (.int i) (.int j) q = q (.bl (i == j)) := by
  unfold oEq D.shp
  simp [D.plain, D.dep, D.eqv]
@[simp ↓] theorem ev_oNeI {i j : Int} {q : D → Prop} : oNe (.int i) (.int j) q = q (.bl (!(i == j))) := by
  unfold oNe D.shp
  simp [D.plain, D.dep, D.eqv]
@[simp ↓] theorem isi_non_int  {q : D → Prop} : bIsi [.non, .ty "int"] q = q (.bl false) := propext ⟨fun ⟨_, _, e1, e2, w⟩ => by cases e1; rw [show kitB "NoneType" "int" = some false from by decide +kernel] at e2; cases e2; exact w, fun w => ⟨_, _, rfl, by decide +kernel, w⟩⟩
@[simp ↓] theorem isi_non_bool  {q : D → Prop} : bIsi [.non, .ty "bool"] q = q (.bl false) := propext ⟨fun ⟨_, _, e1, e2, w⟩ => by cases e1; rw [show kitB "NoneType" "bool" = some false from by decide +kernel] at e2; cases e2; exact w, fun w => ⟨_, _, rfl, by decide +kernel, w⟩⟩
@[simp ↓] theorem isi_non_list  {q : D → Prop} : bIsi [.non, .ty "list"] q = q (.bl false) := propext ⟨fun ⟨_, _, e1, e2, w⟩ => by cases e1; rw [show kitB "NoneType" "list" = some false from by decide +kernel] at e2; cases e2; exact w, fun w => ⟨_, _, rfl, by decide +kernel, w⟩⟩
@[simp ↓] theorem isi_non_tuple  {q : D → Prop} : bIsi [.non, .ty "tuple"] q = q (.bl false) := propext ⟨fun ⟨_, _, e1, e2, w⟩ => by cases e1; rw [show kitB "NoneType" "tuple" = some false from by decide +kernel] at e2; cases e2; exact w, fun w => ⟨_, _, rfl, by decide +kernel, w⟩⟩
@[simp ↓] theorem isi_non_dict  {q : D → Prop} : bIsi [.non, .ty "dict"] q = q (.bl false) := propext ⟨fun ⟨_, _, e1, e2, w⟩ => by cases e1; rw [show kitB "NoneType" "dict" = some false from by decide +kernel] at e2; cases e2; exact w, fun w => ⟨_, _, rfl, by decide +kernel, w⟩⟩
@[simp ↓] theorem isi_non_str  {q : D → Prop} : bIsi [.non, .ty "str"] q = q (.bl false) := propext ⟨fun ⟨_, _, e1, e2, w⟩ => by cases e1; rw [show kitB "NoneType" "str" = some false from by decide +kernel] at e2; cases e2; exact w, fun w => ⟨_, _, rfl, by decide +kernel, w⟩⟩
@[simp ↓] theorem isi_non_lt  {q : D → Prop} : bIsi [.non, .tup [.ty "list", .ty "tuple"]] q = q (.bl false) := propext ⟨fun ⟨_, cs, _, e1, e2, e3, w⟩ => by
  cases e1
  match cs, e2 with
  | [_, _], e2 =>
    cases e2
    rw [show kitS "NoneType" ["list", "tuple"] = some false from by decide +kernel] at e3; cases e3; exact w, fun w => ⟨_, ["list", "tuple"], _, rfl, rfl, by decide +kernel, w⟩⟩
@[simp ↓] theorem isi_bl_int {h : Bool} {q : D → Prop} : bIsi [.bl h, .ty "int"] q = q (.bl true) := propext ⟨fun ⟨_, _, e1, e2, w⟩ => by cases e1; rw [show kitB "bool" "int" = some true from by decide +kernel] at e2; cases e2; exact w, fun w => ⟨_, _, rfl, by decide +kernel, w⟩⟩
@[simp ↓] theorem isi_bl_bool {h : Bool} {q : D → Prop} : bIsi [.bl h, .ty "bool"] q = q (.bl true) := propext ⟨fun ⟨_, _, e1, e2, w⟩ => by cases e1; rw [show kitB "bool" "bool" = some true from by decide +kernel] at e2; cases e2; exact w, fun w => ⟨_, _, rfl, by decide +kernel, w⟩⟩
@[simp ↓] theorem isi_bl_list {h : Bool} {q : D → Prop} : bIsi [.bl h, .ty "list"] q = q (.bl false) := propext ⟨fun ⟨_, _, e1, e2, w⟩ => by cases e1; rw [show kitB "bool" "list" = some false from by decide +kernel] at e2; cases e2; exact w, fun w => ⟨_, _, rfl, by decide +kernel, w⟩⟩
@[simp ↓] theorem isi_bl_tuple {h : Bool} {q : D → Prop} : bIsi [.bl h, .ty "tuple"] q = q (.bl false) := propext ⟨fun ⟨_, _, e1, e2, w⟩ => by cases e1; rw [show kitB "bool" "tuple" = some false from by decide +kernel] at e2; cases e2; exact w, fun w => ⟨_, _, rfl, by decide +kernel, w⟩⟩
@[simp ↓] theorem isi_bl_dict {h : Bool} {q : D → Prop} : bIsi [.bl h, .ty "dict"] q = q (.bl false) := propext ⟨fun ⟨_, _, e1, e2, w⟩ => by cases e1; rw [show kitB "bool" "dict" = some false from by decide +kernel] at e2; cases e2; exact w, fun w => ⟨_, _, rfl, by decide +kernel, w⟩⟩
@[simp ↓] theorem isi_bl_str {h : Bool} {q : D → Prop} : bIsi [.bl h, .ty "str"] q = q (.bl false) := propext ⟨fun ⟨_, _, e1, e2, w⟩ => by cases e1; rw [show kitB "bool" "str" = some false from by decide +kernel] at e2; cases e2; exact w, fun w => ⟨_, _, rfl, by decide +kernel, w⟩⟩
@[simp ↓] theorem isi_bl_lt {h : Bool} {q : D → Prop} : bIsi [.bl h, .tup [.ty "list", .ty "tuple"]] q = q (.bl false) := propext ⟨fun ⟨_, cs, _, e1, e2, e3, w⟩ => by
  cases e1
  match cs, e2 with
  | [_, _], e2 =>
    cases e2
    rw [show kitS "bool" ["list", "tuple"] = some false from by decide +kernel] at e3; cases e3; exact w, fun w => ⟨_, ["list", "tuple"], _, rfl, rfl, by decide +kernel, w⟩⟩
@[simp ↓] theorem isi_int_int {h : Int} {q : D → Prop} : bIsi [.int h, .ty "int"] q = q (.bl true) := propext ⟨fun ⟨_, _, e1, e2, w⟩ => by cases e1; rw [show kitB "int" "int" = some true from by decide +kernel] at e2; cases e2; exact w, fun w => ⟨_, _, rfl, by decide +kernel, w⟩⟩
@[simp ↓] theorem isi_int_bool {h : Int} {q : D → Prop} : bIsi [.int h, .ty "bool"] q = q (.bl false) := propext ⟨fun ⟨_, _, e1, e2, w⟩ => by cases e1; rw [show kitB "int" "bool" = some false from by decide +kernel] at e2; cases e2; exact w, fun w => ⟨_, _, rfl, by decide +kernel, w⟩⟩
@[simp ↓] theorem isi_int_list {h : Int} {q : D → Prop} : bIsi [.int h, .ty "list"] q = q (.bl false) := propext ⟨fun ⟨_, _, e1, e2, w⟩ => by cases e1; rw [show kitB "int" "list" = some false from by decide +kernel] at e2; cases e2; exact w, fun w => ⟨_, _, rfl, by decide +kernel, w⟩⟩
@[simp ↓] theorem isi_int_tuple {h : Int} {q : D → Prop} : bIsi [.int h, .ty "tuple"] q = q (.bl false) := propext ⟨fun ⟨_, _, e1, e2, w⟩ => by cases e1; rw [show kitB "int" "tuple" = some false from by decide +kernel] at e2; cases e2; exact w, fun w => ⟨_, _, rfl, by decide +kernel, w⟩⟩
@[simp ↓] theorem isi_int_dict {h : Int} {q : D → Prop} : bIsi [.int h, .ty "dict"] q = q (.bl false) := propext ⟨fun ⟨_, _, e1, e2, w⟩ => by cases e1; rw [show kitB "int" "dict" = some false from by decide +kernel] at e2; cases e2; exact w, fun w => ⟨_, _, rfl, by decide +kernel, w⟩⟩
@[simp ↓] theorem isi_int_str {h : Int} {q : D → Prop} : bIsi [.int h, .ty "str"] q = q (.bl false) := propext ⟨fun ⟨_, _, e1, e2, w⟩ => by cases e1; rw [show kitB "int" "str" = some false from by decide +kernel] at e2; cases e2; exact w, fun w => ⟨_, _, rfl, by decide +kernel, w⟩⟩
@[simp ↓] theorem isi_int_lt {h : Int} {q : D → Prop} : bIsi [.int h, .tup [.ty "list", .ty "tuple"]] q = q (.bl false) := propext ⟨fun ⟨_, cs, _, e1, e2, e3, w⟩ => by
  cases e1
  match cs, e2 with
  | [_, _], e2 =>
    cases e2
    rw [show kitS "int" ["list", "tuple"] = some false from by decide +kernel] at e3; cases e3; exact w, fun w => ⟨_, ["list", "tuple"], _, rfl, rfl, by decide +kernel, w⟩⟩
@[simp ↓] theorem isi_str_int {h : Str} {q : D → Prop} : bIsi [.str h, .ty "int"] q = q (.bl false) := propext ⟨fun ⟨_, _, e1, e2, w⟩ => by cases e1; rw [show kitB "str" "int" = some false from by decide +kernel] at e2; cases e2; exact w, fun w => ⟨_, _, rfl, by decide +kernel, w⟩⟩
@[simp ↓] theorem isi_str_bool {h : Str} {q : D → Prop} : bIsi [.str h, .ty "bool"] q = q (.bl false) := propext ⟨fun ⟨_, _, e1, e2, w⟩ => by cases e1; rw [show kitB "str" "bool" = some false from by decide +kernel] at e2; cases e2; exact w, fun w => ⟨_, _, rfl, by decide +kernel, w⟩⟩
@[simp ↓] theorem isi_str_list {h : Str} {q : D → Prop} : bIsi [.str h, .ty "list"] q = q (.bl false) := propext ⟨fun ⟨_, _, e1, e2, w⟩ => by cases e1; rw [show kitB "str" "list" = some false from by decide +kernel] at e2; cases e2; exact w, fun w => ⟨_, _, rfl, by decide +kernel, w⟩⟩
@[simp ↓] theorem isi_str_tuple {h : Str} {q : D → Prop} : bIsi [.str h, .ty "tuple"] q = q (.bl false) := propext ⟨fun ⟨_, _, e1, e2, w⟩ => by cases e1; rw [show kitB "str" "tuple" = some false from by decide +kernel] at e2; cases e2; exact w, fun w => ⟨_, _, rfl, by decide +kernel, w⟩⟩
@[simp ↓] theorem isi_str_dict {h : Str} {q : D → Prop} : bIsi [.str h, .ty "dict"] q = q (.bl false) := propext ⟨fun ⟨_, _, e1, e2, w⟩ => by cases e1; rw [show kitB "str" "dict" = some false from by decide +kernel] at e2; cases e2; exact w, fun w => ⟨_, _, rfl, by decide +kernel, w⟩⟩
@[simp ↓] theorem isi_str_str {h : Str} {q : D → Prop} : bIsi [.str h, .ty "str"] q = q (.bl true) := propext ⟨fun ⟨_, _, e1, e2, w⟩ => by cases e1; rw [show kitB "str" "str" = some true from by decide +kernel] at e2; cases e2; exact w, fun w => ⟨_, _, rfl, by decide +kernel, w⟩⟩
@[simp ↓] theorem isi_str_lt {h : Str} {q : D → Prop} : bIsi [.str h, .tup [.ty "list", .ty "tuple"]] q = q (.bl false) := propext ⟨fun ⟨_, cs, _, e1, e2, e3, w⟩ => by
  cases e1
  match cs, e2 with
  | [_, _], e2 =>
    cases e2
    rw [show kitS "str" ["list", "tuple"] = some false from by decide +kernel] at e3; cases e3; exact w, fun w => ⟨_, ["list", "tuple"], _, rfl, rfl, by decide +kernel, w⟩⟩
@[simp ↓] theorem isi_lst_int {h : List D} {q : D → Prop} : bIsi [.lst h, .ty "int"] q = q (.bl false) := propext ⟨fun ⟨_, _, e1, e2, w⟩ => by cases e1; rw [show kitB "list" "int" = some false from by decide +kernel] at e2; cases e2; exact w, fun w => ⟨_, _, rfl, by decide +kernel, w⟩⟩
@[simp ↓] theorem isi_lst_bool {h : List D} {q : D → Prop} : bIsi [.lst h, .ty "bool"] q = q (.bl false) := propext ⟨fun ⟨_, _, e1, e2, w⟩ => by cases e1; rw [show kitB "list" "bool" = some false from by decide +kernel] at e2; cases e2; exact w, fun w => ⟨_, _, rfl, by decide +kernel, w⟩⟩
@[simp ↓] theorem isi_lst_list {h : List D} {q : D → Prop} : bIsi [.lst h, .ty "list"] q = q (.bl true) := propext ⟨fun ⟨_, _, e1, e2, w⟩ => by cases e1; rw [show kitB "list" "list" = some true from by decide +kernel] at e2; cases e2; exact w, fun w => ⟨_, _, rfl, by decide +kernel, w⟩⟩
@[simp ↓] theorem isi_lst_tuple {h : List D} {q : D → Prop} : bIsi [.lst h, .ty "tuple"] q = q (.bl false) := propext ⟨fun ⟨_, _, e1, e2, w⟩ => by cases e1; rw [show kitB "list" "tuple" = some false from by decide +kernel] at e2; cases e2; exact w, fun w => ⟨_, _, rfl, by decide +kernel, w⟩⟩
@[simp ↓] theorem isi_lst_dict {h : List D} {q : D → Prop} : bIsi [.lst h, .ty "dict"] q = q (.bl false) := propext ⟨fun ⟨_, _, e1, e2, w⟩ => by cases e1; rw [show kitB "list" "dict" = some false from by decide +kernel] at e2; cases e2; exact w, fun w => ⟨_, _, rfl, by decide +kernel, w⟩⟩
@[simp ↓] theorem isi_lst_str {h : List D} {q : D → Prop} : bIsi [.lst h, .ty "str"] q = q (.bl false) := propext ⟨fun ⟨_, _, e1, e2, w⟩ => by cases e1; rw [show kitB "list" "str" = some false from by decide +kernel] at e2; cases e2; exact w, fun w => ⟨_, _, rfl, by decide +kernel, w⟩⟩
@[simp ↓] theorem isi_lst_lt {h : List D} {q : D → Prop} : bIsi [.lst h, .tup [.ty "list", .ty "tuple"]] q = q (.bl true) := propext ⟨fun ⟨_, cs, _, e1, e2, e3, w⟩ => by
  cases e1
  match cs, e2 with
  | [_, _], e2 =>
    cases e2
    rw [show kitS "list" ["list", "tuple"] = some true from by decide +kernel] at e3; cases e3; exact w, fun w => ⟨_, ["list", "tuple"], _, rfl, rfl, by decide +kernel, w⟩⟩
@[simp ↓] theorem isi_tup_int {h : List D} {q : D → Prop} : bIsi [.tup h, .ty "int"] q = q (.bl false) := propext ⟨fun ⟨_, _, e1, e2, w⟩ => by cases e1; rw [show kitB "tuple" "int" = some false from by decide +kernel] at e2; cases e2; exact w, fun w => ⟨_, _, rfl, by decide +kernel, w⟩⟩
@[simp ↓] theorem isi_tup_bool {h : List D} {q : D → Prop} : bIsi [.tup h, .ty "bool"] q = q (.bl false) := propext ⟨fun ⟨_, _, e1, e2, w⟩ => by cases e1; rw [show kitB "tuple" "bool" = some false from by decide +kernel] at e2; cases e2; exact w, fun w => ⟨_, _, rfl, by decide +kernel, w⟩⟩
@[simp ↓] theorem isi_tup_list {h : List D} {q : D → Prop} : bIsi [.tup h, .ty "list"] q = q (.bl false) := propext ⟨fun ⟨_, _, e1, e2, w⟩ => by cases e1; rw [show kitB "tuple" "list" = some false from by decide +kernel] at e2; cases e2; exact w, fun w => ⟨_, _, rfl, by decide +kernel, w⟩⟩
@[simp ↓] theorem isi_tup_tuple {h : List D} {q : D → Prop} : bIsi [.tup h, .ty "tuple"] q = q (.bl true) := propext ⟨fun ⟨_, _, e1, e2, w⟩ => by cases e1; rw [show kitB "tuple" "tuple" = some true from by decide +kernel] at e2; cases e2; exact w, fun w => ⟨_, _, rfl, by decide +kernel, w⟩⟩
@[simp ↓] theorem isi_tup_dict {h : List D} {q : D → Prop} : bIsi [.tup h, .ty "dict"] q = q (.bl false) := propext ⟨fun ⟨_, _, e1, e2, w⟩ => by cases e1; rw [show kitB "tuple" "dict" = some false from by decide +kernel] at e2; cases e2; exact w, fun w => ⟨_, _, rfl, by decide +kernel, w⟩⟩
@[simp ↓] theorem isi_tup_str {h : List D} {q : D → Prop} : bIsi [.tup h, .ty "str"] q = q (.bl false) := propext ⟨fun ⟨_, _, e1, e2, w⟩ => by cases e1; rw [show kitB "tuple" "str" = some false from by decide +kernel] at e2; cases e2; exact w, fun w => ⟨_, _, rfl, by decide +kernel, w⟩⟩
@[simp ↓] theorem isi_tup_lt {h : List D} {q : D → Prop} : bIsi [.tup h, .tup [.ty "list", .ty "tuple"]] q = q (.bl true) := propext ⟨fun ⟨_, cs, _, e1, e2, e3, w⟩ => by
  cases e1
  match cs, e2 with
  | [_, _], e2 =>
    cases e2
    rw [show kitS "tuple" ["list", "tuple"] = some true from by decide +kernel] at e3; cases e3; exact w, fun w => ⟨_, ["list", "tuple"], _, rfl, rfl, by decide +kernel, w⟩⟩
@[simp ↓] theorem isi_dic_int {h : List (D × D)} {q : D → Prop} : bIsi [.dic h, .ty "int"] q = q (.bl false) := propext ⟨fun ⟨_, _, e1, e2, w⟩ => by cases e1; rw [show kitB "dict" "int" = some false from by decide +kernel] at e2; cases e2; exact w, fun w => ⟨_, _, rfl, by decide +kernel, w⟩⟩
@[simp ↓] theorem isi_dic_bool {h : List (D × D)} {q : D → Prop} : bIsi [.dic h, .ty "bool"] q = q (.bl false) := propext ⟨fun ⟨_, _, e1, e2, w⟩ => by cases e1; rw [show kitB "dict" "bool" = some false from by decide +kernel] at e2; cases e2; exact w, fun w => ⟨_, _, rfl, by decide +kernel, w⟩⟩
@[simp ↓] theorem isi_dic_list {h : List (D × D)} {q : D → Prop} : bIsi [.dic h, .ty "list"] q = q (.bl false) := propext ⟨fun ⟨_, _, e1, e2, w⟩ => by cases e1; rw [show kitB "dict" "list" = some false from by decide +kernel] at e2; cases e2; exact w, fun w => ⟨_, _, rfl, by decide +kernel, w⟩⟩
@[simp ↓] theorem isi_dic_tuple {h : List (D × D)} {q : D → Prop} : bIsi [.dic h, .ty "tuple"] q = q (.bl false) := propext ⟨fun ⟨_, _, e1, e2, w⟩ => by cases e1; rw [show kitB "dict" "tuple" = some false from by decide +kernel] at e2; cases e2; exact w, fun w => ⟨_, _, rfl, by decide +kernel, w⟩⟩
@[simp ↓] theorem isi_dic_dict {h : List (D × D)} {q : D → Prop} : bIsi [.dic h, .ty "dict"] q = q (.bl true) := propext ⟨fun ⟨_, _, e1, e2, w⟩ => by cases e1; rw [show kitB "dict" "dict" = some true from by decide +kernel] at e2; cases e2; exact w, fun w => ⟨_, _, rfl, by decide +kernel, w⟩⟩
@[simp ↓] theorem isi_dic_str {h : List (D × D)} {q : D → Prop} : bIsi [.dic h, .ty "str"] q = q (.bl false) := propext ⟨fun ⟨_, _, e1, e2, w⟩ => by cases e1; rw [show kitB "dict" "str" = some false from by decide +kernel] at e2; cases e2; exact w, fun w => ⟨_, _, rfl, by decide +kernel, w⟩⟩
@[simp ↓] theorem isi_dic_lt {h : List (D × D)} {q : D → Prop} : bIsi [.dic h, .tup [.ty "list", .ty "tuple"]] q = q (.bl false) := propext ⟨fun ⟨_, cs, _, e1, e2, e3, w⟩ => by
  cases e1
  match cs, e2 with
  | [_, _], e2 =>
    cases e2
    rw [show kitS "dict" ["list", "tuple"] = some false from by decide +kernel] at e3; cases e3; exact w, fun w => ⟨_, ["list", "tuple"], _, rfl, rfl, by decide +kernel, w⟩⟩
@[simp] theorem vw_non  : vw st (.non) = .non := rfl
@[simp] theorem gdOf_non  : gdOf st (.non) = [] := rfl
@[simp] theorem vw_bl {b : Bool} : vw st (.bl b) = .bl b := rfl
@[simp] theorem gdOf_bl {b : Bool} : gdOf st (.bl b) = [] := rfl
@[simp] theorem vw_int {i : Int} : vw st (.int i) = .int i := rfl
@[simp] theorem gdOf_int {i : Int} : gdOf st (.int i) = [] := rfl
@[simp] theorem vw_str {h : Str} : vw st (.str h) = .str h := rfl
@[simp] theorem gdOf_str {h : Str} : gdOf st (.str h) = [] := rfl
@[simp] theorem vw_lst {l : List D} : vw st (.lst l) = .lst l := rfl
@[simp] theorem gdOf_lst {l : List D} : gdOf st (.lst l) = [] := rfl
@[simp] theorem vw_tup {l : List D} : vw st (.tup l) = .tup l := rfl
@[simp] theorem gdOf_tup {l : List D} : gdOf st (.tup l) = [] := rfl
@[simp] theorem vw_dic {l : List (D × D)} : vw st (.dic l) = .dic l := rfl
@[simp] theorem gdOf_dic {l : List (D × D)} : gdOf st (.dic l) = [] := rfl
@[simp] theorem vw_obj {h : Str} {l : List (Str × D)} : vw st (.obj h l) = .obj h l := rfl
@[simp] theorem gdOf_obj {h : Str} {l : List (Str × D)} : gdOf st (.obj h l) = [] := rfl
@[simp] theorem vw_fn {h : Str} : vw st (.fn h) = .fn h := rfl
@[simp] theorem gdOf_fn {h : Str} : gdOf st (.fn h) = [] := rfl
@[simp] theorem vw_ty {h : String} : vw st (.ty h) = .ty h := rfl
@[simp] theorem gdOf_ty {h : String} : gdOf st (.ty h) = [] := rfl
@[simp] theorem vw_scr {l : List Int} : vw st (.scr l) = .scr l := rfl
@[simp] theorem gdOf_scr {l : List Int} : gdOf st (.scr l) = [] := rfl
theorem vw_ref {n : Nat} {l : List D} (h : st[n]? = some (.lst l)) : vw st (.ref n) = .lst l := by unfold vw; simp only [h]
theorem vw_refO {n : Nat} {c : Str} {l : List (Str × D)} (h : st[n]? = some (.obj c l)) : vw st (.ref n) = .obj c l := by unfold vw; simp only [h]
theorem vw_refD {n : Nat} {l : List (D × D)} (h : st[n]? = some (.dic l)) : vw st (.ref n) = .dic l := by unfold vw; simp only [h]
theorem gdOf_ref {n : Nat} {c : C} (h : st[n]? = some c) : gdOf st (.ref n) = [(n, c)] := by unfold gdOf; simp only [h]
@[simp] theorem gdOk_nil : gdOk [] st = True := by unfold gdOk; simp
@[simp] theorem gdOk_one {n : Nat} {c : C} : gdOk [(n, c)] st = (st[n]? = some c) := by unfold gdOk; simp
@[simp] theorem itemsD_lst {l : List D} : itemsD (.lst l) = some l := rfl
@[simp] theorem itemsD_tup {l : List D} : itemsD (.tup l) = some l := rfl
@[simp] theorem lenD_lst {l : List D} : lenD (.lst l) = some l.length := rfl
@[simp] theorem lenD_tup {l : List D} : lenD (.tup l) = some l.length := rfl
@[simp] theorem truthD_int {h : Int} : truthD (.int h) = some (h != 0) := rfl
@[simp] theorem truthD_bl {h : Bool} : truthD (.bl h) = some h := rfl
@[simp] theorem truthD_non : truthD .non = some false := rfl
@[simp] theorem truthD_lst {l : List D} : truthD (.lst l) = some (!l.isEmpty) := rfl
@[simp] theorem truthD_tup {l : List D} : truthD (.tup l) = some (!l.isEmpty) := rfl
@[simp] theorem wA_nil : wA [] env = env := rfl
@[simp] theorem wA_cons : wA (i :: vs) env = (wA vs env).set i .no := rfl
theorem for_nil : sForL gd g s [] env st k = (gdOk gd st ∧ k.nx env st) := propext Iff.rfl
theorem for_cons : sForL gd g s (x :: xs) env st k = (gdOk gd st ∧ g x env st fun e1 => s e1 st { k with nx := fun e2 s2 => sForL gd g s xs e2 s2 k, ct := fun e2 s2 => sForL gd g s xs e2 s2 k, bk := k.nx }) := propext Iff.rfl
theorem lc_nil : aLcL gd g t a env ql [] xs st = (gdOk gd st ∧ ql xs st) := propext Iff.rfl
theorem lc_cons {acc : List D} : aLcL gd g t a env ql (x :: xs) acc st = (gdOk gd st ∧ g x env st fun e1 => t e1 st (fun b s2 => if b = true then a e1 s2 (fun y s3 => acc.length < 100000 ∧ aLcL gd g t a env ql xs (acc ++ [y]) s3) (fun _ _ => False) else aLcL gd g t a env ql xs acc s2) (fun _ _ => False)) := propext Iff.rfl
theorem wh_succ {n : Nat} : sWhN t s (n + 1) env st k = t env st (fun c s1 => if c = true then s env s1 { k with nx := fun e2 s2 => sWhN t s n e2 s2 k, ct := fun e2 s2 => sWhN t s n e2 s2 k, bk := k.nx } else k.nx env s1) (fun e s1 => k.er e env s1) := propext Iff.rfl
/-- a comprehension whose items come without a change of the store -/
theorem lc_eq {G : D → D} {p : D → Bool} (hg : gdOk gd st) : ∀ (ds acc : List D), (∀ x ∈ ds, ∀ (P1 : D → S → Prop) (P2 : S → Prop), (g x env st fun e1 => t e1 st (fun b s2 => if b = true then a e1 s2 P1 (fun _ _ => False) else P2 s2) (fun _ _ => False)) = if p x = true then P1 (G x) st else P2 st) → acc.length + ds.length ≤ 100000 → aLcL gd g t a env ql ds acc st = ql (acc ++ (ds.filter p).map G) st
  | [], acc, _, _ => by rw [lc_nil]; simp [hg]
  | x :: xs, acc, h, hl => by
    rw [lc_cons, h x (by simp)]
    have hl' : acc.length < 100000 := by simp at hl; omega
    by_cases hp : p x = true
    · rw [if_pos hp, lc_eq hg xs _ (fun y hy => h y (by simp [hy])) (by simp at hl ⊢; omega)]
      simp [hg, hl', hp, List.filter_cons]
    · rw [if_neg hp, lc_eq hg xs _ (fun y hy => h y (by simp [hy])) (by simp at hl ⊢; omega)]
      simp [hg, hp, List.filter_cons]
theorem lc_map {G : D → D} (hg : gdOk gd st) (ds acc : List D) (h : ∀ x ∈ ds, ∀ (P1 : D → S → Prop) (P2 : S → Prop), (g x env st fun e1 => t e1 st (fun b s2 => if b = true then a e1 s2 P1 (fun _ _ => False) else P2 s2) (fun _ _ => False)) = P1 (G x) st) (hl : acc.length + ds.length ≤ 100000) : aLcL gd g t a env ql ds acc st = ql (acc ++ ds.map G) st := by
  rw [lc_eq (G := G) (p := fun _ => true) hg ds acc (fun x hx P1 P2 => by rw [h x hx, if_pos rfl]) hl, List.filter_eq_self.mpr (fun _ _ => rfl)]
/-- loops by what holds ahead of the items that are left -/
theorem for_ind {P : List D → List A → S → Prop} (h0 : ∀ env st, P [] env st → gdOk gd st ∧ k.nx env st) (h1 : ∀ x xs env st, P (x :: xs) env st → ∀ nx : List A → S → Prop, (∀ e s, P xs e s → nx e s) → gdOk gd st ∧ g x env st fun e1 => s e1 st { k with nx := nx, ct := nx, bk := k.nx }) : ∀ ds env st, P ds env st → sForL gd g s ds env st k
  | [], env, st, h => h0 env st h
  | x :: xs, env, st, h => h1 x xs env st h _ fun e s hp => for_ind h0 h1 xs e s hp
theorem wh_ind {P : Nat → List A → S → Prop} (h1 : ∀ n env st, P n env st → ∀ nx : List A → S → Prop, (∀ m e s, m < n → P m e s → nx e s) → t env st (fun c s1 => if c = true then s env s1 { k with nx := nx, ct := nx, bk := k.nx } else k.nx env s1) (fun e s1 => k.er e env s1))
    (mono : ∀ {n env st}, P n env st → ∀ {m}, n ≤ m → P m env st) : ∀ n env st, P n env st → sWhN t s (n + 1) env st k := by
  intro n
  induction n with
  | zero => exact fun env st h => h1 0 env st h _ fun m e s hm _ => absurd hm (by omega)
  | succ n ih => exact fun env st h => h1 (n + 1) env st h _ fun m e s hm hp => ih e s (mono hp (by omega))
end
end AM
set_option Elab.async false
set_option linter.all false
set_option maxRecDepth 100000
set_option maxHeartbeats 4000000
namespace AM
open L2
/-- _law_take -/
def aTake : AS := sSeq (sIf (aTest (aOp oEq (aPoolIx 0 1) (aC (.int 0)))) (sSeq (sAsg (aPoolIx 0 0) (agName 3))
  (sSeq (sPoolSet 0 0 (aOp oAdd (aVar 3) (aC (.int 1))))
  (sSeq (sAsg (aOp oIx (aOp oAdd (aPoolIx 0 2) (aLst (aCons (aC (.int 0)) (aNil)))) (aOp oMod (aB bInt (aCons (aVar 3) (aNil))) (aB bMax2 (aCons (aC (.int 1)) (aCons (aB bLen (aCons (aPoolIx 0 2) (aNil))) (aNil)))))) (agName 4))
  (sSeq (sAsg (aOp oMod (aOp oPow (aOp oAdd (aOp oAdd (aOp oMod (aB bInt (aCons (aVar 4) (aNil))) (aC (.int 2147483647))) (aOp oMul (aC (.int 7919)) (aVar 3))) (aC (.int 13))) (aC (.int 5))) (aC (.int 2147483647))) (agName 5))
  (sSeq (sAsg (aOp oMod (aOp oPow (aOp oAdd (aOp oAdd (aVar 5) (aOp oMul (aC (.int 104729)) (aVar 3))) (aC (.int 29))) (aC (.int 3))) (aC (.int 2147483629))) (agName 5))
  (sSeq (sIf (aTest (aOp oLt (aVar 4) (aOp oPow (aC (.int 10)) (aC (.int 18))))) (sRet (aOp oMod (aOp oFdiv (aVar 5) (aC (.int 11))) (aVar 1))) (sNext))
  (sPoolSet 0 1 (aVar 4)))))))) (sNext))
  (sSeq (sAsg (aOp oMod (aB bInt (aCons (aPoolIx 0 1) (aNil))) (aVar 1)) (agName 2))
  (sSeq (sPoolSet 0 1 (aOp oFdiv (aPoolIx 0 1) (aVar 1)))
  (sRet (aVar 2))))
theorem atI_lt {α : Type} {l : List α} {i : Int} (h0 : 0 ≤ i) (h1 : i < l.length) : ∃ d, atI l i = some d ∧ d ∈ l := by
  have e : ixN l.length i = some i.toNat := by unfold ixN; rw [if_pos h0, if_pos h1]
  have hl : i.toNat < l.length := by omega
  exact ⟨l[i.toNat], by unfold atI; rw [e]; show l[i.toNat]? = _; exact List.getElem?_eq_getElem hl, List.getElem_mem hl⟩
/-- a draw: a number below k; the pool's count may grow by one -/
def mTake : AF := fun args st q _ => ∃ n m ns k, args = [.ref n, .int k] ∧ st[n]? = some (.pool m ns) ∧ 0 < k ∧ k.natAbs.log2 < 9000 ∧ m < 10 ^ 12 ∧
  ∀ (x : Int) (m' : Nat), 0 ≤ x → x < k → m ≤ m' → m' ≤ m + 1 → q (.d (.int x)) (st.set n (.pool m' ns))
section
variable {env : List A} {st : S} {q : D → S → Prop} {er : QX} {n i : Nat} {m : Nat} {ns : List Int}
theorem pool0 (e : env[i]? = some (.d (.ref n))) (h : st[n]? = some (.pool m ns)) : aPoolIx i 0 env st q er = ∀ a : Int, 0 ≤ a → a ≤ m → q (.int a) st := propext ⟨fun ⟨n', m', ns', e', h', k⟩ => by
    rw [e] at e'; cases e'; rw [h] at h'; cases h'; exact k, fun k => ⟨n, m, ns, e, h, k⟩⟩
theorem pool1 (e : env[i]? = some (.d (.ref n))) (h : st[n]? = some (.pool m ns)) : aPoolIx i 1 env st q er = ∀ l : Int, 0 ≤ l → q (.int l) st := propext ⟨fun ⟨n', m', ns', e', h', k⟩ => by
    rw [e] at e'; cases e'; rw [h] at h'; cases h'; exact k, fun k => ⟨n, m, ns, e, h, k⟩⟩
theorem pool2 (e : env[i]? = some (.d (.ref n))) (h : st[n]? = some (.pool m ns)) : aPoolIx i 2 env st q er = (ns.length ≤ 63 → q (.lst (ns.map .int)) st) := propext ⟨fun ⟨n', m', ns', e', h', k⟩ => by
    rw [e] at e'; cases e'; rw [h] at h'; cases h'; exact k, fun k => ⟨n, m, ns, e, h, k⟩⟩
theorem poolS0 {a : AE} {k : AK} (e : env[i]? = some (.d (.ref n))) : sPoolSet i 0 a env st k = a env st (fun d s1 => ∃ m ns v, s1[n]? = some (.pool m ns) ∧ d = .int v ∧ 0 ≤ v ∧ k.nx env (s1.set n (.pool (max m v.toNat) ns))) (fun e s => k.er e env s) := by
  unfold sPoolSet
  congr 1
  funext d s1
  exact propext ⟨fun ⟨n', m', ns', v, e', h', k⟩ => by
    rw [e] at e'; cases e'; exact ⟨m', ns', v, h', k⟩, fun ⟨m, ns, v, h, k⟩ => ⟨n, m, ns, v, e, h, k⟩⟩
theorem poolS1 {a : AE} {k : AK} (e : env[i]? = some (.d (.ref n))) : sPoolSet i 1 a env st k = a env st (fun d s1 => ∃ m ns v, s1[n]? = some (.pool m ns) ∧ d = .int v ∧ 0 ≤ v ∧ k.nx env (s1.set n (.pool m ns))) (fun e s => k.er e env s) := by
  unfold sPoolSet
  congr 1
  funext d s1
  exact propext ⟨fun ⟨n', m', ns', v, e', h', k⟩ => by
    rw [e] at e'; cases e'; exact ⟨m', ns', v, h', k⟩, fun ⟨m, ns, v, h, k⟩ => ⟨n, m, ns, v, e, h, k⟩⟩
end
theorem take_ok : ∀ args st q er, mTake args st q er → fnP 2 6 aTake args st q er := by
  rintro args st q er ⟨n, m, ns, k, rfl, hn, hk, hl, hm, h⟩
  refine ⟨rfl, ?_⟩
  show aTake [.d (.ref n), .d (.int k), .no, .no, .no, .no] st _
  unfold aTake
  have hlt : n < st.length := (List.getElem?_eq_some_iff.mp hn).1
  have fm : ∀ x : Int, 0 ≤ x.fmod k ∧ x.fmod k < k := fun x => ⟨Int.fmod_nonneg_of_pos x hk, Int.fmod_lt_of_pos x hk⟩
  have k0 : k ≠ 0 := by omega
  have cfd : ∀ x, CFd x k := fun x => ⟨k0, hl⟩
  have fd0 : ∀ x : Int, 0 ≤ x → 0 ≤ x.fdiv k := fun x hx => Int.fdiv_nonneg hx (by omega)
  have lg : ∀ a : Int, 0 ≤ a → a ≤ m → a.natAbs.log2 < 100 := fun a h0 h1 => by
    by_cases hz : a.natAbs = 0
    · rw [hz]; decide
    · refine (Nat.log2_lt hz).mpr (Nat.lt_of_le_of_lt (m := 10 ^ 12) (by omega) (by decide))
  have p1 : ∀ {l : List A} {q : D → S → Prop} {er : QX}, aPoolIx 0 1 (A.d (.ref n) :: l) st q er = ∀ l : Int, 0 ≤ l → q (.int l) st := pool1 rfl hn
  have gs : ∀ c, (st.set n c)[n]? = some c := fun c => List.getElem?_set_self hlt
  have pS1 : ∀ {l : List A} {s : S} {a : AE} {k : AK}, sPoolSet 0 1 a (A.d (.ref n) :: l) s k = a (A.d (.ref n) :: l) s (fun d s1 => ∃ m ns v, s1[n]? = some (.pool m ns) ∧ d = .int v ∧ 0 ≤ v ∧ k.nx (A.d (.ref n) :: l) (s1.set n (.pool m ns))) (fun e s => k.er e (A.d (.ref n) :: l) s) := poolS1 rfl
  have pS0 : ∀ {l : List A} {s : S} {a : AE} {k : AK}, sPoolSet 0 0 a (A.d (.ref n) :: l) s k = a (A.d (.ref n) :: l) s (fun d s1 => ∃ m ns v, s1[n]? = some (.pool m ns) ∧ d = .int v ∧ 0 ≤ v ∧ k.nx (A.d (.ref n) :: l) (s1.set n (.pool (max m v.toNat) ns))) (fun e s => k.er e (A.d (.ref n) :: l) s) := poolS0 rfl
  simp only [ev_sSeq, ev_sIf, ev_aTest, ev_aOp, p1, ev_aC]
  intro l hl0
  simp only [vw_int, ev_oEqI, tsQ_bl, beq_iff_eq]
  have tail : ∀ (l3 : List A) (m' : Nat), m ≤ m' → m' ≤ m + 1 → sAsg (aOp oMod (aB bInt (aCons (aPoolIx 0 1) aNil)) (aVar 1)) (agName 2) (.d (.ref n) :: .d (.int k) :: .no :: l3) (st.set n (.pool m' ns)) { nx := fun env2 st2 => sSeq (sPoolSet 0 1 (aOp oFdiv (aPoolIx 0 1) (aVar 1))) (sRet (aVar 2)) env2 st2 ⟨fun _ s => q (.d .non) s, q, fun _ _ => False, fun _ _ => False, fun e _ s => er e s⟩, rt := q, bk := fun _ _ => False, ct := fun _ _ => False, er := fun e _ s => er e s } := fun l3 m' h1 h2 => by
    have p1' : ∀ {l : List A} {q : D → S → Prop} {er : QX}, aPoolIx 0 1 (A.d (.ref n) :: l) (st.set n (.pool m' ns)) q er = ∀ l : Int, 0 ≤ l → q (.int l) (st.set n (.pool m' ns)) := pool1 rfl (gs _)
    simp [p1', and_assoc, pS1, k0, gs, cfd, fd0]
    intro x hx y hy
    exact ⟨fd0 y hy, h _ _ (fm x).1 (fm x).2 h1 h2⟩
  split
  · have p0 : ∀ {l : List A} {q : D → S → Prop} {er : QX}, aPoolIx 0 0 (A.d (.ref n) :: l) st q er = ∀ a : Int, 0 ≤ a → a ≤ m → q (.int a) st := pool0 rfl hn
    simp only [ev_sAsg, p0, ev_agName]
    intro a ha0 ha1
    simp [pS0, hn, and_assoc]
    refine ⟨by omega, ?_⟩
    have mx : m ≤ max m (a + 1).toNat ∧ max m (a + 1).toNat ≤ m + 1 := by omega
    generalize max m (a + 1).toNat = m' at mx ⊢
    have p2 : ∀ {l : List A} {q : D → S → Prop} {er : QX}, aPoolIx 0 2 (A.d (.ref n) :: l) (st.set n (.pool m' ns)) q er = (ns.length ≤ 63 → q (.lst (ns.map .int)) (st.set n (.pool m' ns))) := pool2 rfl (gs _)
    simp [p2, and_assoc]
    intro h63
    refine ⟨by omega, ?_⟩
    have hmax : (0 : Int) < (if (1 : Int) < (ns.length : Int) then (ns.length : Int) else 1) := by split <;> omega
    refine fun _ => ⟨by split <;> omega, ?_⟩
    have b0 := Int.fmod_nonneg_of_pos a hmax
    have b1 := Int.fmod_lt_of_pos a hmax
    obtain ⟨d, hd, dm⟩ := atI_lt (l := ns.map D.int ++ [D.int 0]) b0 (by
      rw [List.length_append, List.length_map]
      show _ < ((ns.length + 1 : Nat) : Int)
      have : (if (1 : Int) < (ns.length : Int) then (ns.length : Int) else 1) ≤ (ns.length : Int) + 1 := by split <;> omega
      omega)
    obtain ⟨v, rfl⟩ : ∃ v, d = D.int v := by
      rcases List.mem_append.mp dm with h | h
      · obtain ⟨v, _, e⟩ := List.mem_map.mp h
        exact ⟨v, e.symm⟩
      · exact ⟨0, by simpa using h⟩
    refine ⟨_, hd, ?_⟩
    have hlg := lg a ha0 ha1
    have c1 : CMulW 7919 a := by show (7919 : Int).natAbs.log2 + a.natAbs.log2 < 1000000; have : (7919 : Int).natAbs.log2 = 12 := by decide
                                 omega
    have c2 : CMulW 104729 a := by show (104729 : Int).natAbs.log2 + a.natAbs.log2 < 1000000; have : (104729 : Int).natAbs.log2 = 16 := by decide
                                   omega
    have r1 : 0 ≤ v.fmod 2147483647 ∧ v.fmod 2147483647 < 2147483647 := ⟨Int.fmod_nonneg_of_pos v (by decide), Int.fmod_lt_of_pos v (by decide)⟩
    have p1 : CPow (v.fmod 2147483647 + 7919 * a + 13) 5 := ⟨by decide, by decide, by omega⟩
    have r2 := fun x : Int => (⟨Int.fmod_nonneg_of_pos x (by decide), Int.fmod_lt_of_pos x (by decide)⟩ : 0 ≤ x.fmod 2147483647 ∧ x.fmod 2147483647 < 2147483647)
    have p2 : ∀ x : Int, CPow (x.fmod 2147483647 + 104729 * a + 29) 3 := fun x => by have := r2 x; exact ⟨by decide, by decide, by omega⟩
    have p3 : CPow 10 18 := ⟨by decide, by decide, by decide⟩
    have c11 : ∀ x, CFd x 11 := fun x => ⟨by decide, by decide⟩
    simp [c1, c2, p1, p2, p3, c11, k0, cfd, pS1, gs, and_assoc]
    split
    · exact h _ _ (fm _).1 (fm _).2 mx.1 mx.2
    · refine ⟨by omega, ?_⟩
      have := tail [.d (.int a), .d (.int v), .d (.int ((((v.fmod 2147483647 + 7919 * a + 13) ^ 5).fmod 2147483647 + 104729 * a + 29) ^ 3 |>.fmod 2147483629))] m' mx.1 mx.2
      simpa [c1, c2, p1, p2, p3, c11, k0, cfd, pS1, gs, and_assoc] using this
  · have e : st.set n (.pool m ns) = st := by
      apply List.ext_getElem?
      intro j
      by_cases hj : n = j
      · subst hj; rw [List.getElem?_set_self hlt, hn]
      · rw [List.getElem?_set_ne hj]
    have := tail [.no, .no, .no] m (Nat.le_refl _) (by omega)
    rw [e] at this
    simp only [ev_sNext]
    exact this
end AM
set_option Elab.async false
set_option linter.all false
set_option maxRecDepth 100000
set_option maxHeartbeats 4000000
namespace AM
open PySem PySem.W L2
/-! ### an error class with its own __init__, read off the top -/
structure XD where
  cls : Str
  params : Arguments
  body : List Stmt
  scope : Scope
abbrev XW : Type := Option (Str × Arguments × FuncBody × Scope × Addr × List Str × Addr)
def xw (K : Frag) (x : Str) : XW := match K.lookup (He.ma K (He.ga K x) "__init__") with
  | some ⟨_, _, .func fd, _⟩ => some (fd.name, fd.params, fd.body, fd.scope, fd.globals, fd.closure.map (·.1), fd.builtins)
  | _ => none
def XD.val (d : XD) : XW := some ("__init__", d.params, .stmts d.body, d.scope, mainGlobals, ["__class__"], builtinsNs)
def oexB (K : Frag) (C : Addr) : Bool := (match K.lookup C with
  | some ⟨.type t, _, .cls cd, sl⟩ => (match cd.mro, sl.toList with
    | .ref C' :: bm, [_, _, _, _, some (.builtin n), _] => decide (t = "type") && (decide (C' = C) && (decide (n = "ValueError.__new__") && (!cd.hasDel && (cd.hasDict && HandSPX.refsVE bm))))
    | _, _ => false)
  | _ => false) && (decide (findIn K (.ref C) "__setattr__" = some (some (.builtin "object.__setattr__"))) && (decide (subIn K (.ref C) (.type "BaseException") = some true) && (decide (typeIn K (.ref C) = some (.type "type")) && keepIn K (.ref C))))
theorem oexB_ok {K : Frag} {C : Addr} (h : oexB K C = true) : OexC K C := by
  unfold oexB at h
  obtain ⟨h, h2⟩ := Bool.and_eq_true_iff.mp h
  obtain ⟨h2, h3⟩ := Bool.and_eq_true_iff.mp h2
  obtain ⟨h3, h4⟩ := Bool.and_eq_true_iff.mp h3
  obtain ⟨h4, h5⟩ := Bool.and_eq_true_iff.mp h4
  refine ⟨?_, of_decide_eq_true h2, of_decide_eq_true h3, of_decide_eq_true h4, h5⟩
  split at h
  · rename_i t dd cd sl ho
    split at h
    · rename_i C' bm k0 k1 k2 k3 n k5 hm hs
      simp only [Bool.and_eq_true, decide_eq_true_eq, Bool.not_eq_true'] at h
      obtain ⟨rfl, rfl, rfl, hdel, hdc, ht⟩ := h
      obtain ⟨nm, bs, mro, ns, qn, hd, sn, sub, ab, col, del⟩ := cd
      dsimp only at hm hdel hdc
      subst hm hdel hdc
      have hsl : sl = #[k0, k1, k2, k3, some (.builtin "ValueError.__new__"), k5] := by
        obtain ⟨l⟩ := sl
        simp only at hs
        rw [hs]
      subst hsl
      exact ⟨nm, qn, ns, bs, bm, sn, sub, ab, col, dd, k0, k1, k2, k3, k5, ho, ht⟩
    · cases h
  · cases h
/-- the def's own part -/
def xfnB (K : Frag) (file : Str) (C f : Addr) : Bool := match K.lookup f with
  | some ⟨_, _, .func fd, _⟩ => (match fd.defaults with
    | .none => true
    | _ => false) && (codeIn K fd.code fd.qualname && ((match fd.closure with
      | [(_, cc)] => (match K.lookup cc with
        | some ⟨_, _, .cell (some (.ref C')), _⟩ => decide (C' = C)
        | _ => false)
      | _ => false) && (match fd.code with
        | .ref cda => (match K.lookup cda with
          | some ⟨_, _, .fields vs, _⟩ => (match (vs[2]? : Option Value) with
            | some (Value.str z _) => decide (z = file)
            | _ => false)
          | _ => false)
        | _ => false)))
  | _ => false
def xcB (K : Frag) (file : Str) (x : Str) : Bool := oexB K (He.ga K x) && (xfnB K file (He.ga K x) (He.ma K (He.ga K x) "__init__") && (decide (ks_superIn K (He.ga K x) (He.ga K x) "__init__" = some (some (.builtin "ValueError.__init__"))) && (decide (subIn K (.ref (He.ga K x)) (.type "ValueError") = some true) && (decide (mroIn K (He.ga K x) (.ref (He.ga K x)) = some true) &&
  (decide (nsIn K cStatics "thirdparty.any" = some none) && (decide (findIn K (.ref (He.ga K x)) "__init__" = some (some (.ref (He.ma K (He.ga K x) "__init__")))) && decide (typeIn K (.ref (He.ma K (He.ga K x) "__init__")) = some (.type "function"))))))))
theorem xcB_ok {P : Program} {K : Frag} {mg : Str → Option Value} {d : XD} (h : xcB K P.main.file d.cls = true) (e : xw K d.cls = d.val) (mgs : mg "super" = none) (top : (P.main.scope.names.lookup ("super" : Str)).isSome = false) :
    XC P K mg (He.ga K d.cls) (He.ma K (He.ga K d.cls) "__init__") (fdAt K (He.ma K (He.ga K d.cls) "__init__")) d.params d.body d.scope := by
  unfold xcB at h
  obtain ⟨h1, h⟩ := Bool.and_eq_true_iff.mp h
  obtain ⟨h2, h⟩ := Bool.and_eq_true_iff.mp h
  obtain ⟨h3, h⟩ := Bool.and_eq_true_iff.mp h
  obtain ⟨h4, h⟩ := Bool.and_eq_true_iff.mp h
  obtain ⟨h5, h⟩ := Bool.and_eq_true_iff.mp h
  obtain ⟨h6, h⟩ := Bool.and_eq_true_iff.mp h
  obtain ⟨h7, h8⟩ := Bool.and_eq_true_iff.mp h
  refine ⟨oexB_ok h1, ?_, of_decide_eq_true h3, of_decide_eq_true h4, of_decide_eq_true h5, of_decide_eq_true h6, mgs, top, of_decide_eq_true h7, of_decide_eq_true h8⟩
  unfold xw at e
  unfold xfnB at h2
  generalize He.ma K (He.ga K d.cls) "__init__" = f at e h2 ⊢
  cases q : K.lookup f with
  | none => rw [q] at e; cases e
  | some o =>
    obtain ⟨oc, od, dt, osl⟩ := o
    rw [q] at e h2
    cases dt with
    | func fd =>
      have ef : fdAt K f = fd := by unfold fdAt; rw [q]
      obtain ⟨n1, n2, n3, n4, n5, n6, n7, n8, n9, n10, n11, n12, n13, n14, n15⟩ := fd
      have e2 : (some (n1, n3, n4, n5, n6, n7.map (·.1), n15) : XW) = (some ("__init__", d.params, .stmts d.body, d.scope, mainGlobals, ["__class__"], builtinsNs) : XW) := e
      simp only [Option.some.injEq, Prod.mk.injEq] at e2
      obtain ⟨g1, g3, g4, g5, g6, g7, g15⟩ := e2
      subst g1 g3 g4 g5 g6 g15
      obtain ⟨k1, h2⟩ := Bool.and_eq_true_iff.mp h2
      obtain ⟨k2, h2⟩ := Bool.and_eq_true_iff.mp h2
      obtain ⟨k3, k4⟩ := Bool.and_eq_true_iff.mp h2
      dsimp only at k1 k3 k4
      clear e h2 h1 h3 h4 h5 h6 h7 h8
      cases n8 with
      | none =>
        match n7, g7, k3, q, ef with
        | [(nm, cc)], g7, k3, q, ef =>
          have e7 : nm = ("__class__" : Str) := by simpa using g7
          subst e7
          dsimp only at k3
          cases hcc : K.lookup cc with
          | none => rw [hcc] at k3; cases k3
          | some oc1 =>
            obtain ⟨cl, cld, cdt, csl⟩ := oc1
            rw [hcc] at k3
            split at k3
            · rename_i C' hC'
              have e8 := of_decide_eq_true k3
              cases n13 with
              | ref cda =>
                dsimp only at k4
                cases hcd : K.lookup cda with
                | none => rw [hcd] at k4; cases k4
                | some oc2 =>
                  obtain ⟨ccl, cdd, cdt2, ccs⟩ := oc2
                  rw [hcd] at k4
                  cases cdt2 with
                  | fields vs =>
                    dsimp only at k4
                    cases hz : (vs[2]? : Option Value) with
                    | none => rw [hz] at k4; cases k4
                    | some z =>
                      rw [hz] at k4
                      cases z with
                      | str z tf =>
                        have e9 : z = P.main.file := of_decide_eq_true k4
                        subst e9
                        simp only [Option.some.injEq, Obj.mk.injEq] at hC'
                        obtain ⟨rfl, rfl, rfl, rfl⟩ := hC'
                        subst e8
                        exact ⟨n2, n9, n10, n11, n14, oc, n12, od, osl, cc, cda, _, _, _, ccl, cdd, vs, ccs, tf, ef, by rw [ef], k2, hcc, hcd, hz⟩
                      | _ => cases k4
                  | _ => cases k4
              | _ => cases k4
            · cases k3
      | _ => cases k1
    | _ => cases e
/-! ### the head's Hook with them -/
abbrev AlX : Type := He.AlD × Bool × List XW
def obsX (fa : List He.Fa) (fn : List He.DefD) (ex : List (Frag → Bool)) (xs : List XD) (K : Frag) : AlX := (He.obsD fa fn K, ex.all (fun c => c K), xs.map fun d => xw K d.cls)
def valX (fn : List He.DefD) (xs : List XD) : AlX := (He.valD fn, true, xs.map XD.val)
def SaysX (fa : List He.Fa) (fn : List He.DefD) (ex : List (Frag → Bool)) (xs : List XD) (K : Frag) : Prop := obsX fa fn ex xs K = valX fn xs
def obsXG (n : Nat) (fa : List He.Fa) (fn : List He.DefD) (ex : List (Frag → Bool)) (xs : List XD) (g : Addr → Option Obj) : AlX := obsX fa fn ex xs (He.frG g (cStatics :: He.asD g n))
def hookX (n : Nat) (fa : List He.Fa) (fn : List He.DefD) (ex : List (Frag → Bool)) (xs : List XD) : Hook where
  α := AlX
  obs := fun s => obsXG n fa fn ex xs s.heap.get?
  val := fun _ => valX fn xs
  says := fun _ h => ∃ K : Frag, K.In h ∧ SaysX fa fn ex xs K
  of := fun _ _ e => ⟨_, He.frG_in, e⟩
  keeps := fun _ _ _ ⟨K, hK, c⟩ k => ⟨K, Frag.In.keeps hK k, c⟩
theorem obsXG_eq {n : Nat} {fa : List He.Fa} {fn : List He.DefD} {ex : List (Frag → Bool)} {xs : List XD} {g : Addr → Option Obj} {s : Shared} (h : ∀ a, g a = s.heap.get? a) : obsXG n fa fn ex xs g = (hookX n fa fn ex xs).obs s := by
  have e : g = s.heap.get? := funext h
  rw [e] <;> rfl
section
variable {fa : List He.Fa} {fn : List He.DefD} {ex : List (Frag → Bool)} {xs : List XD} {K : Frag}
theorem SaysX.d (c : SaysX fa fn ex xs K) : He.SaysD fa fn K := congrArg (fun z : AlX => z.1) c
theorem SaysX.e (c : SaysX fa fn ex xs K) (i : Nat) {f : Frag → Bool} (h : ex[i]? = some f := by rfl) : f K = true := by
  have c1 : ex.all (fun c => c K) = true := congrArg (fun z : AlX => z.2.1) c
  exact List.all_eq_true.mp c1 f (List.mem_of_getElem? h)
theorem SaysX.x (c : SaysX fa fn ex xs K) (i : Nat) {d : XD} (h : xs[i]? = some d := by rfl) : xw K d.cls = d.val := by
  have e : xs.map (fun d => xw K d.cls) = xs.map XD.val := congrArg (fun z : AlX => z.2.2) c
  have e2 : (xs.map fun d => xw K d.cls)[i]? = (xs.map XD.val)[i]? := by rw [e]
  rw [List.getElem?_map, List.getElem?_map, h] at e2
  exact Option.some.inj e2
end
/-- a law lets nothing out -/
theorem law_CX0 {P : Program} {w : World} {K : Frag} {mg : Str → Option Value} {base : Heap} {k : Nat} {f : Addr} {fd : FuncData} {ps : List Str} (F : FnOk P w K mg base (L2N.CX P w) k f fd ps (spLaw K)) : FnOk P w K mg base L2.CX0 k f fd ps (spLaw K) :=
  ⟨F.len, fun A outer s H args us vs Q E a b c d h => PySem.codeAny_mono (F.run A outer s H args us vs Q (fun _ _ _ => False) a b c d h) fun r s' hq => by
    cases r with
    | error e =>
      obtain ⟨_, _, _, _, _, _, _, _, _, _, _, _, z⟩ := hq
      exact z.elim
    | ok fl => cases fl <;> exact hq⟩
end AM
set_option Elab.async false
set_option linter.all false
set_option maxRecDepth 100000
set_option maxHeartbeats 0
namespace LW
open PySem L2 AM
def xm_BadRatio (c : Str) : Option Bool := if c = "BadRatio" then some true else none
def a__law_pool : AS := AM.aPoolNew
def m__law_pool : AF := fnP 1 1 a__law_pool
def a_divisor : AS := sSeq (sAsg (aC (.int 0)) (agName 1))
  (sSeq (sFor (aIter (aVar 0)) (agName 2) (sSeq (sPar 3 4 (aCons (aB bAbs (aCons (aVar 2) (aNil))) (aCons (aVar 1) (aNil))))
  (sSeq (sWhile (aTruth (aVar 4)) (sPar 3 4 (aCons (aVar 4) (aCons (aOp oMod (aVar 3) (aVar 4)) (aNil)))))
  (sAsg (aVar 3) (agName 1)))))
  (sRet (aVar 1)))
def m_divisor : AF := fnP 1 5 a_divisor
def a_lowest : AS := sSeq (sAsg (aCall m_divisor (aCons (aVar 0) (aNil)) []) (agName 1))
  (sRetF (fIf (aTruth (aVar 1)) (fLc (aIter (aVar 0)) (agName 2) (aYes) (aOp oFdiv (aVar 2) (aVar 1)) [2]) (fList (aVar 0))))
def m_lowest : AF := fnP 1 3 a_lowest
def a__law_take : AS := AM.aTake
abbrev m__law_take : AF := mTake
def a__law_divisor : AS := sSeq (sAsg (aC (.int 0)) (agName 1))
  (sSeq (sFor (aIter (aVar 0)) (agName 2) (sSeq (sAsg (aB bAbs (aCons (aVar 2) (aNil))) (agName 3))
  (sSeq (sAsg (aVar 1) (agName 4))
  (sSeq (sWhile (aTest (aOp oNe (aVar 4) (aC (.int 0)))) (sPar 3 4 (aCons (aVar 4) (aCons (aOp oMod (aB bInt (aCons (aVar 3) (aNil))) (aVar 4)) (aNil)))))
  (sAsg (aVar 3) (agName 1))))))
  (sRet (aVar 1)))
def m__law_divisor : AF := fnP 1 5 a__law_divisor
def a__law_least_terms : AS := sSeq (sAsg (aCall m__law_divisor (aCons (aVar 0) (aNil)) []) (agName 1))
  (sSeq (sIf (aTest (aOp oEq (aVar 1) (aC (.int 0)))) (sRetF (fList (aVar 0))) (sNext))
  (sRetF (fLc (aIter (aVar 0)) (agName 2) (aYes) (aOp oFdiv (aVar 2) (aVar 1)) [2])))
def m__law_least_terms : AF := fnP 1 3 a__law_least_terms
def a__law_lowest_right : AS := sSeq (sAsg (aOp oMul (aCall m__law_take (aCons (aVar 0) (aCons (aC (.int 1000)) (aNil))) []) (aOp oIx (aLst (aCons (aC (.int 1)) (aCons (aOp oPow (aC (.int 10)) (aC (.int 25))) (aNil)))) (aB bInt (aCons (aOp oEq (aCall m__law_take (aCons (aVar 0) (aCons (aC (.int 4)) (aNil))) []) (aC (.int 0))) (aNil))))) (agName 1))
  (sSeq (sAsg (aFr (fLc (aRng1 (aCall m__law_take (aCons (aVar 0) (aCons (aC (.int 7)) (aNil))) [])) (agName 5) (aYes) (aOp oMul (aVar 1) (aOp oSub (aCall m__law_take (aCons (aVar 0) (aCons (aC (.int 41)) (aNil))) []) (aC (.int 20)))) [5])) (agName 2))
  (sSeq (sAsg (aB bList (aCons (aVar 2) (aNil))) (agName 3))
  (sSeq (sCell (fCall m_lowest (aCons (aVar 2) (aNil)) []) 4)
  (sSeq (sIf (aOr (aTest (aOp oNe (aVar 4) (aCall m__law_least_terms (aCons (aVar 3) (aNil)) []))) (aTest (aOp oNe (aVar 2) (aVar 3)))) (sRet (aC (.bl false))) (sNext))
  (sSeq (sDrop (aApp (aVar 4) (aC (.int 7))))
  (sRet (aAndV (aOp oEq (aVar 2) (aVar 3)) (aOp oEq (aCall m_lowest (aCons (aB bTuple (aCons (aVar 2) (aNil))) (aNil)) []) (aCall m__law_least_terms (aCons (aVar 3) (aNil)) [])))))))))
def m__law_lowest_right : AF := fnC 1 6 a__law_lowest_right
def a_ratio : AS := sSeq (sIf (aTest (aOp oEq (aVar 1) (aC (.int 0)))) (sRaise1 "BadRatio" "bottom" (aVar 1)) (sNext))
  (sSeq (sAsg (aCall m_divisor (aCons (aLst (aCons (aVar 0) (aCons (aVar 1) (aNil)))) (aNil)) []) (agName 2))
  (sSeq (sIf (aTest (aOp oLt (aVar 1) (aC (.int 0)))) (sAsg (aUn oNeg (aVar 2)) (agName 2)) (sNext))
  (sRet (aTup (aCons (aOp oFdiv (aVar 0) (aVar 2)) (aCons (aOp oFdiv (aVar 1) (aVar 2)) (aNil)))))))
def m_ratio : AF := fnP 2 3 a_ratio
def a__law_integer : AS := sSeq (sAsg (aOp oIx (aLst (aCons (aC (.int 3)) (aCons (aC (.int 12)) (aCons (aC (.int 1000)) (aCons (aOp oPow (aC (.int 10)) (aC (.int 29))) (aNil)))))) (aCall m__law_take (aCons (aVar 0) (aCons (aC (.int 4)) (aNil))) [])) (agName 1))
  (sRet (aOp oSub (aCall m__law_take (aCons (aVar 0) (aCons (aOp oAdd (aOp oMul (aC (.int 2)) (aVar 1)) (aC (.int 1))) (aNil))) []) (aVar 1)))
def m__law_integer : AF := fnP 1 2 a__law_integer
def a_compare : AS := sSeq (sPar 2 3 (aCons (aOp oMul (aOp oIx (aVar 0) (aC (.int 0))) (aOp oIx (aVar 1) (aC (.int 1)))) (aCons (aOp oMul (aOp oIx (aVar 1) (aC (.int 0))) (aOp oIx (aVar 0) (aC (.int 1)))) (aNil))))
  (sRet (aOp oSub (aB bInt (aCons (aOp oGt (aVar 2) (aVar 3)) (aNil))) (aB bInt (aCons (aOp oLt (aVar 2) (aVar 3)) (aNil)))))
def m_compare : AF := fnP 2 4 a_compare
def a__law_ratio : AS := sSeq (sAsg (aCall m__law_divisor (aCons (aLst (aCons (aVar 0) (aCons (aVar 1) (aNil)))) (aNil)) []) (agName 2))
  (sSeq (sIf (aTest (aOp oLt (aVar 1) (aC (.int 0)))) (sAsg (aUn oNeg (aVar 2)) (agName 2)) (sNext))
  (sRet (aTup (aCons (aOp oFdiv (aVar 0) (aVar 2)) (aCons (aOp oFdiv (aVar 1) (aVar 2)) (aNil))))))
def m__law_ratio : AF := fnP 2 3 a__law_ratio
def a__law_is_number : AS := sRet (aAndV (aB bIsi (aCons (aVar 0) (aCons (aC (.ty "int")) (aNil)))) (aNotV (aB bIsi (aCons (aVar 0) (aCons (aC (.ty "bool")) (aNil))))))
def m__law_is_number : AF := fnP 1 1 a__law_is_number
def a__law_in_terms : AS := sSeq (sIf (aOr (aNot (aTruth (aB bIsi (aCons (aVar 0) (aCons (aC (.ty "tuple")) (aNil)))))) (aOr (aTest (aOp oNe (aB bLen (aCons (aVar 0) (aNil))) (aC (.int 2)))) (aOr (aNot (aTruth (aCall m__law_is_number (aCons (aOp oIx (aVar 0) (aC (.int 0))) (aNil)) []))) (aNot (aTruth (aCall m__law_is_number (aCons (aOp oIx (aVar 0) (aC (.int 1))) (aNil)) [])))))) (sRet (aC (.bl false))) (sNext))
  (sRet (aOp oEq (aVar 0) (aCall m__law_ratio (aCons (aVar 1) (aCons (aVar 2) (aNil))) [])))
def m__law_in_terms : AF := fnP 3 3 a__law_in_terms
def a_plus : AS := sRet (aCall m_ratio (aCons (aOp oAdd (aOp oMul (aOp oIx (aVar 0) (aC (.int 0))) (aOp oIx (aVar 1) (aC (.int 1)))) (aOp oMul (aOp oIx (aVar 1) (aC (.int 0))) (aOp oIx (aVar 0) (aC (.int 1))))) (aCons (aOp oMul (aOp oIx (aVar 0) (aC (.int 1))) (aOp oIx (aVar 1) (aC (.int 1)))) (aNil))) [])
def m_plus : AF := fnP 2 2 a_plus
def a_minus : AS := sRet (aCall m_ratio (aCons (aOp oSub (aOp oMul (aOp oIx (aVar 0) (aC (.int 0))) (aOp oIx (aVar 1) (aC (.int 1)))) (aOp oMul (aOp oIx (aVar 1) (aC (.int 0))) (aOp oIx (aVar 0) (aC (.int 1))))) (aCons (aOp oMul (aOp oIx (aVar 0) (aC (.int 1))) (aOp oIx (aVar 1) (aC (.int 1)))) (aNil))) [])
def m_minus : AF := fnP 2 2 a_minus
def a_times : AS := sRet (aCall m_ratio (aCons (aOp oMul (aOp oIx (aVar 0) (aC (.int 0))) (aOp oIx (aVar 1) (aC (.int 0)))) (aCons (aOp oMul (aOp oIx (aVar 0) (aC (.int 1))) (aOp oIx (aVar 1) (aC (.int 1)))) (aNil))) [])
def m_times : AF := fnP 2 2 a_times
def a__law_two_right : AS := sSeq (sAsg (aOp oMul (aOp oIx (aVar 0) (aC (.int 0))) (aOp oIx (aVar 1) (aC (.int 1)))) (agName 2))
  (sSeq (sAsg (aOp oMul (aOp oIx (aVar 1) (aC (.int 0))) (aOp oIx (aVar 0) (aC (.int 1)))) (agName 3))
  (sSeq (sAsg (aOp oMul (aOp oIx (aVar 0) (aC (.int 1))) (aOp oIx (aVar 1) (aC (.int 1)))) (agName 4))
  (sSeq (sIf (aNot (aTruth (aCall m__law_in_terms (aCons (aCall m_plus (aCons (aVar 0) (aCons (aVar 1) (aNil))) []) (aCons (aOp oAdd (aVar 2) (aVar 3)) (aCons (aVar 4) (aNil)))) []))) (sRet (aC (.bl false))) (sNext))
  (sSeq (sIf (aNot (aTruth (aCall m__law_in_terms (aCons (aCall m_minus (aCons (aVar 0) (aCons (aVar 1) (aNil))) []) (aCons (aOp oSub (aVar 2) (aVar 3)) (aCons (aVar 4) (aNil)))) []))) (sRet (aC (.bl false))) (sNext))
  (sSeq (sIf (aNot (aTruth (aCall m__law_in_terms (aCons (aCall m_times (aCons (aVar 0) (aCons (aVar 1) (aNil))) []) (aCons (aOp oMul (aOp oIx (aVar 0) (aC (.int 0))) (aOp oIx (aVar 1) (aC (.int 0)))) (aCons (aVar 4) (aNil)))) []))) (sRet (aC (.bl false))) (sNext))
  (sSeq (sAsg (aCall m_compare (aCons (aVar 0) (aCons (aVar 1) (aNil))) []) (agName 5))
  (sRet (aAndV (aCall m__law_is_number (aCons (aVar 5) (aNil)) []) (aOp oEq (aVar 5) (aOp oSub (aB bInt (aCons (aOp oGt (aVar 2) (aVar 3)) (aNil))) (aB bInt (aCons (aOp oLt (aVar 2) (aVar 3)) (aNil)))))))))))))
def m__law_two_right : AF := fnP 2 6 a__law_two_right
def a__law_near_right : AS := sSeq (sAsg (aOp oPow (aC (.int 10)) (aC (.int 20))) (agName 1))
  (sSeq (sIf (aOr (aTest (aOp oGt (aB bAbs (aCons (aOp oIx (aVar 0) (aC (.int 0))) (aNil))) (aOp oPow (aC (.int 10)) (aC (.int 8))))) (aTest (aOp oGt (aOp oIx (aVar 0) (aC (.int 1))) (aOp oPow (aC (.int 10)) (aC (.int 8)))))) (sRet (aC (.bl true))) (sNext))
  (sSeq (sAsg (aCall m_ratio (aCons (aOp oAdd (aOp oMul (aOp oIx (aVar 0) (aC (.int 0))) (aVar 1)) (aC (.int 1))) (aCons (aOp oMul (aOp oIx (aVar 0) (aC (.int 1))) (aVar 1)) (aNil))) []) (agName 2))
  (sSeq (sIf (aOr (aTest (aOp oNe (aCall m_compare (aCons (aVar 2) (aCons (aVar 0) (aNil))) []) (aC (.int 1)))) (aTest (aOp oNe (aCall m_compare (aCons (aVar 0) (aCons (aVar 2) (aNil))) []) (aUn oNeg (aC (.int 1)))))) (sRet (aC (.bl false))) (sNext))
  (sRet (aAndV (aCall m__law_two_right (aCons (aVar 0) (aCons (aVar 2) (aNil))) []) (aCall m__law_two_right (aCons (aVar 2) (aCons (aVar 0) (aNil))) []))))))
def m__law_near_right : AF := fnP 1 3 a__law_near_right
def a__law_refused : AS := sSeq (sTryAs (xm_BadRatio) 1 (sDrop (aCall m_ratio (aCons (aVar 0) (aCons (aC (.int 0)) (aNil))) [])) (fun a c d => sRet (aAndV (aCall m__law_is_number (aCons (aXf a c d "BadRatio" 1 "bottom") (aNil)) []) (aOp oEq (aXf a c d "BadRatio" 1 "bottom") (aC (.int 0))))))
  (sRet (aC (.bl false)))
def m__law_refused : AF := fnP 1 2 a__law_refused
def a_law : AS := sSeq (sCell (fLst (aNil)) 2)
  (sSeq (sFor (aRng1 (aOp oAdd (aC (.int 1)) (aCall m__law_take (aCons (aVar 1) (aCons (aC (.int 5)) (aNil))) []))) (agName 3) (sSeq (sCell (fLst (aCons (aCall m__law_integer (aCons (aVar 1) (aNil)) []) (aCons (aCall m__law_integer (aCons (aVar 1) (aNil)) []) (aNil)))) 5)
  (sSeq (sIf (aTest (aOp oEq (aOp oIx (aVar 5) (aC (.int 1))) (aC (.int 0)))) (sSetIx (aVar 5) (aC (.int 1)) (aOp oSub (aUn oNeg (aC (.int 1))) (aVar 3))) (sNext))
  (sSeq (sAsg (aCall m_ratio (aCons (aOp oIx (aVar 5) (aC (.int 0))) (aCons (aOp oIx (aVar 5) (aC (.int 1))) (aNil))) []) (agName 4))
  (sSeq (sIf (aOr (aNot (aTruth (aCall m__law_in_terms (aCons (aVar 4) (aCons (aOp oIx (aVar 5) (aC (.int 0))) (aCons (aOp oIx (aVar 5) (aC (.int 1))) (aNil)))) []))) (aNot (aTruth (aCall m__law_in_terms (aCons (aCall m_ratio (aCons (aOp oIx (aVar 5) (aC (.int 0))) (aNil)) [.int 1]) (aCons (aOp oIx (aVar 5) (aC (.int 0))) (aCons (aC (.int 1)) (aNil)))) [])))) (sRet (aC (.bl false))) (sNext))
  (sSeq (sIf (aOr (aTest (aOp oNe (aCallK 2 m_ratio [1, 0] (aCons (aOp oIx (aVar 5) (aC (.int 1))) (aCons (aOp oIx (aVar 5) (aC (.int 0))) (aNil)))) (aVar 4))) (aNot (aTruth (aCall m__law_refused (aCons (aOp oIx (aVar 5) (aC (.int 0))) (aNil)) [])))) (sRet (aC (.bl false))) (sNext))
  (sDrop (aApp (aVar 2) (aVar 4)))))))))
  (sSeq (sFor (aIter (aVar 2)) (agName 4) (sSeq (sIf (aNot (aTruth (aCall m__law_near_right (aCons (aVar 4) (aNil)) []))) (sRet (aC (.bl false))) (sNext))
  (sFor (aIter (aOp oAdd (aVar 2) (aLst (aCons (aTup (aCons (aC (.int 0)) (aCons (aC (.int 1)) (aNil)))) (aNil))))) (agName 6) (sIf (aNot (aTruth (aCall m__law_two_right (aCons (aVar 4) (aCons (aVar 6) (aNil))) []))) (sRet (aC (.bl false))) (sNext)))))
  (sRet (aCall m__law_lowest_right (aCons (aVar 1) (aNil)) []))))
end LW
set_option Elab.async false
set_option linter.all false
set_option maxRecDepth 100000
set_option maxHeartbeats 1000000
namespace LW
open PySem L2 AM
theorem gdOk_of {st : S} {d : D} : gdOk (gdOf st d) st := by
  cases d with
  | ref n =>
    cases h : st[n]? with
    | none => unfold gdOf; simp [h]
    | some c => rw [gdOf_ref h]; simp [h]
  | _ => simp
/-- a list of ints, as it is seen -/
def isInts (st : S) (d : D) (ns : List Int) : Prop := itemsD (vw st d) = some (ns.map .int)
def gcdL (ns : List Int) : Int := (ns.foldl (fun (g : Nat) n => Nat.gcd n.natAbs g) 0 : Nat)
theorem gcd_step (a b : Nat) (h : b ≠ 0) : Nat.gcd a b = Nat.gcd b (a % b) := by rw [Nat.gcd_comm a b, Nat.gcd_rec b a, Nat.gcd_comm]
/-- Euclid's loop, either form of its test -/
theorem euclid {t : AT} {b : AS} {k : AK} {e0 e1 e2 : A} {st : S}
    (ht : ∀ (x y : Int) (q : Bool → S → Prop) (er : QX), t [e0, e1, e2, .d (.int x), .d (.int y)] st q er = q (y != 0) st)
    (hb : ∀ (x y : Int) (k : AK), y ≠ 0 → b [e0, e1, e2, .d (.int x), .d (.int y)] st k = k.nx [e0, e1, e2, .d (.int y), .d (.int (x.fmod y))] st)
    (n m : Nat) (h : k.nx [e0, e1, e2, .d (.int (Nat.gcd n m)), .d (.int 0)] st) : sWhile t b [e0, e1, e2, .d (.int n), .d (.int m)] st k := by
  refine ⟨m + 1, ?_⟩
  induction m using Nat.strongRecOn generalizing n with
  | _ m ih =>
    rw [wh_succ, ht]
    by_cases hm : m = 0
    · subst hm
      simpa using h
    · have hm' : (m : Int) ≠ 0 := by omega
      rw [if_pos (by simpa using hm), hb _ _ _ hm']
      have e : (n : Int).fmod (m : Int) = ((n % m : Nat) : Int) := by
        rw [Int.fmod_eq_emod_of_nonneg _ (by omega)]; rfl
      rw [e]
      have hlt : n % m < m := Nat.mod_lt _ (by omega)
      have := ih (n % m) hlt m (by rw [← gcd_step n m hm]; exact h)
      -- more turns do no harm
      have mono : ∀ (j i : Nat) (x y : Int), i ≤ j → sWhN t b i [e0, e1, e2, .d (.int x), .d (.int y)] st k → sWhN t b j [e0, e1, e2, .d (.int x), .d (.int y)] st k := by
        intro j
        induction j with
        | zero => intro i x y hi h; have : i = 0 := by omega
                  subst this; exact h
        | succ j ihj =>
          intro i x y hi h
          cases i with
          | zero => exact h.elim
          | succ i =>
            rw [wh_succ, ht] at h ⊢
            by_cases hy : y = 0
            · subst hy; simpa using h
            · rw [if_pos (by simpa using hy), hb _ _ _ hy] at h ⊢
              exact ihj i _ _ (by omega) h
      exact mono m (n % m + 1) _ _ (by omega) this
theorem abs_int (n : Int) : (if n < 0 then -n else n) = (n.natAbs : Int) := by omega
/-- the loop over the numbers -/
theorem div_loop {b : AS} {k : AK} {d : D} {st : S} {gd : Gd} (hg : gdOk gd st)
    (hb : ∀ (n : Int) (g : Nat) (e3 e4 : A) (k : AK), k.nx [.d d, .d (.int (Nat.gcd n.natAbs g)), .d (.int n), .d (.int (Nat.gcd n.natAbs g)), .d (.int 0)] st → b [.d d, .d (.int g), .d (.int n), e3, e4] st k) :
    ∀ (ns : List Int) (g : Nat) (e2 e3 e4 : A), (∀ e2 e3 e4, k.nx [.d d, .d (.int (ns.foldl (fun (g : Nat) n => Nat.gcd n.natAbs g) g : Nat)), e2, e3, e4] st) → sForL gd (agName 2) b (ns.map .int) [.d d, .d (.int g), e2, e3, e4] st k
  | [], g, e2, e3, e4, h => ⟨hg, h e2 e3 e4⟩
  | n :: ns, g, e2, e3, e4, h => by
    rw [List.map_cons, for_cons]
    exact ⟨hg, hb n g e3 e4 _ (div_loop hg hb ns _ _ _ _ h)⟩
theorem divisor_spec {d : D} {ns : List Int} {st : S} {q : Rs → S → Prop} {er : QX} (hd : isInts st d ns) (h : q (.d (.int (gcdL ns))) st) : m_divisor [d] st q er := by
  refine ⟨rfl, ?_⟩
  show a_divisor [.d d, .no, .no, .no, .no] st _
  unfold a_divisor
  simp
  refine ⟨_, hd, ?_⟩
  refine div_loop gdOk_of (fun n g e3 e4 k hk => ?_) ns 0 _ _ _ (fun e2 e3 e4 => by simp; exact h)
  simp [abs_int]
  refine euclid (fun x y q er => by simp) (fun x y k hy => by simp [hy]) _ _ ?_
  simpa using hk
theorem law_divisor_spec {d : D} {ns : List Int} {st : S} {q : Rs → S → Prop} {er : QX} (hd : isInts st d ns) (h : q (.d (.int (gcdL ns))) st) : m__law_divisor [d] st q er := by
  refine ⟨rfl, ?_⟩
  show a__law_divisor [.d d, .no, .no, .no, .no] st _
  unfold a__law_divisor
  simp
  refine ⟨_, hd, ?_⟩
  refine div_loop gdOk_of (fun n g e3 e4 k hk => ?_) ns 0 _ _ _ (fun e2 e3 e4 => by simp; exact h)
  simp [abs_int]
  refine euclid (fun x y q er => by simp; rfl) (fun x y k hy => by simp [hy]) _ _ ?_
  simpa using hk
end LW
set_option Elab.async false
set_option linter.all false
set_option maxRecDepth 100000
set_option maxHeartbeats 1000000
namespace LW
open PySem L2 AM
/-! ### ratios -/
def gsg (a b : Int) : Int := if b < 0 then -gcdL [a, b] else gcdL [a, b]
def rt (a b : Int) : Int := a.fdiv (gsg a b)
def rb (a b : Int) : Int := b.fdiv (gsg a b)
def ratD (a b : Int) : D := .tup [.int (rt a b), .int (rb a b)]
theorem gcdL_two (a b : Int) : gcdL [a, b] = (Nat.gcd b.natAbs a.natAbs : Nat) := by
  unfold gcdL
  simp
theorem gcdL_pos {a b : Int} (hb : b ≠ 0) : 0 < gcdL [a, b] := by
  rw [gcdL_two]
  have : 0 < Nat.gcd b.natAbs a.natAbs := Nat.gcd_pos_of_pos_left _ (by omega)
  omega
theorem gcdL_dvdL (a b : Int) : gcdL [a, b] ∣ a := by
  rw [gcdL_two]
  exact Int.ofNat_dvd_left.mpr (Nat.gcd_dvd_right _ _)
theorem gcdL_dvdR (a b : Int) : gcdL [a, b] ∣ b := by
  rw [gcdL_two]
  exact Int.ofNat_dvd_left.mpr (Nat.gcd_dvd_left _ _)
theorem gcdL_le {a b : Int} (hb : b ≠ 0) : (gcdL [a, b]).natAbs ≤ b.natAbs := by
  rw [gcdL_two]
  exact Nat.le_of_dvd (by omega) (Nat.gcd_dvd_left _ _)
theorem gsg_ne {a b : Int} (hb : b ≠ 0) : gsg a b ≠ 0 := by
  have := gcdL_pos (a := a) hb
  unfold gsg
  split <;> omega
theorem gsg_le {a b : Int} (hb : b ≠ 0) : (gsg a b).natAbs ≤ b.natAbs := by
  have := gcdL_le (a := a) hb
  unfold gsg
  split
  · rw [Int.natAbs_neg]; exact this
  · exact this
theorem gsg_dvdL (a b : Int) : gsg a b ∣ a := by
  unfold gsg
  split
  · exact Int.neg_dvd.mpr (gcdL_dvdL a b)
  · exact gcdL_dvdL a b
theorem gsg_dvdR (a b : Int) : gsg a b ∣ b := by
  unfold gsg
  split
  · exact Int.neg_dvd.mpr (gcdL_dvdR a b)
  · exact gcdL_dvdR a b
theorem rt_mul {a b : Int} : rt a b * gsg a b = a := Int.fdiv_mul_cancel (gsg_dvdL a b)
theorem rb_mul {a b : Int} : rb a b * gsg a b = b := Int.fdiv_mul_cancel (gsg_dvdR a b)
theorem gsg_sign {a b : Int} (hb : b ≠ 0) : (0 < b → 0 < gsg a b) ∧ (b < 0 → gsg a b < 0) := by
  have := gcdL_pos (a := a) hb
  unfold gsg
  constructor
  · intro h; rw [if_neg (by omega)]; exact this
  · intro h; rw [if_pos h]; omega
theorem rb_pos {a b : Int} (hb : b ≠ 0) : 0 < rb a b := by
  have e := rb_mul (a := a) (b := b)
  have s := gsg_sign (a := a) hb
  rcases Int.lt_or_lt_of_ne hb with h | h
  · have g := s.2 h
    rcases Int.lt_trichotomy (rb a b) 0 with z | z | z
    · have := Int.mul_pos_of_neg_of_neg z g; omega
    · rw [z] at e; omega
    · exact z
  · have g := s.1 h
    rcases Int.lt_trichotomy (rb a b) 0 with z | z | z
    · have := Int.mul_neg_of_neg_of_pos z g; omega
    · rw [z] at e; omega
    · exact z
theorem le_of_mul {x g a : Int} (e : x * g = a) (hg : g ≠ 0) : x.natAbs ≤ a.natAbs := by
  rw [← e, Int.natAbs_mul]
  exact Nat.le_mul_of_pos_right _ (by omega)
theorem rt_le {a b : Int} (hb : b ≠ 0) : (rt a b).natAbs ≤ a.natAbs := le_of_mul rt_mul (gsg_ne hb)
theorem rb_le {a b : Int} (hb : b ≠ 0) : (rb a b).natAbs ≤ b.natAbs := le_of_mul rb_mul (gsg_ne hb)
/-! ### sizes -/
theorem log_lt {n k : Nat} (h : n < 2 ^ k) (hk : 0 < k) : n.log2 < k := by
  by_cases hz : n = 0
  · subst hz; simpa using hk
  · exact (Nat.log2_lt hz).mpr h
theorem cfd_of {x y : Int} (h0 : y ≠ 0) (h : y.natAbs < 2 ^ 8000) : CFd x y := ⟨h0, Nat.lt_of_lt_of_le (log_lt h (by decide)) (by decide)⟩
theorem cmul_of {x y : Int} (hx : x.natAbs < 2 ^ 8000) (hy : y.natAbs < 2 ^ 8000) : CMulW x y := by
  have h1 := log_lt hx (by decide)
  have h2 := log_lt hy (by decide)
  show x.natAbs.log2 + y.natAbs.log2 < 1000000
  omega
theorem mul_bd {x y : Int} {a b : Nat} (hx : x.natAbs < 2 ^ a) (hy : y.natAbs < 2 ^ b) : (x * y).natAbs < 2 ^ (a + b) := by
  rw [Int.natAbs_mul, Nat.pow_add]
  exact Nat.mul_lt_mul_of_lt_of_le hx (Nat.le_of_lt hy) (Nat.lt_of_le_of_lt (Nat.zero_le _) hy)
theorem bd_le {x : Int} {a b : Nat} (hx : x.natAbs < 2 ^ a) (h : a ≤ b) : x.natAbs < 2 ^ b := Nat.lt_of_lt_of_le hx (Nat.pow_le_pow_right (by decide) h)
theorem isInts_lst {st : S} {ns : List Int} : isInts st (.lst (ns.map .int)) ns := rfl
theorem isInts_tup {st : S} {ns : List Int} : isInts st (.tup (ns.map .int)) ns := rfl
/-! ### the defs -/
section
variable {st : S} {q : Rs → S → Prop} {er : QX}
theorem ratio_spec {a b : Int} (hb : b ≠ 0) (hs : b.natAbs < 2 ^ 8000) (h : q (.d (ratD a b)) st) : m_ratio [.int a, .int b] st q er := by
  refine ⟨rfl, ?_⟩
  show a_ratio [.d (.int a), .d (.int b), .no] st _
  unfold a_ratio
  have hc : ∀ x, CFd x (gsg a b) := fun x => cfd_of (gsg_ne hb) (Nat.lt_of_le_of_lt (gsg_le hb) hs)
  simp [hb]
  refine divisor_spec (ns := [a, b]) rfl ?_
  have e : gsg a b = if b < 0 then -gcdL [a, b] else gcdL [a, b] := rfl
  by_cases hlt : b < 0
  · rw [if_pos hlt] at e
    have hc' := hc
    rw [e] at hc'
    simp [hlt, hc']
    rw [← e]; exact h
  · rw [if_neg hlt] at e
    have hc' := hc
    rw [e] at hc'
    simp [hlt, hc']
    rw [← e]; exact h
theorem ratio_zero {a : Int} (h : er ⟨"BadRatio", some ("bottom", .int 0)⟩ st) : m_ratio [.int a, .int 0] st q er := by
  refine ⟨rfl, ?_⟩
  show a_ratio [.d (.int a), .d (.int 0), .no] st _
  unfold a_ratio
  simp
  exact h
theorem law_ratio_spec {a b : Int} (hb : b ≠ 0) (hs : b.natAbs < 2 ^ 8000) (h : q (.d (ratD a b)) st) : m__law_ratio [.int a, .int b] st q er := by
  refine ⟨rfl, ?_⟩
  show a__law_ratio [.d (.int a), .d (.int b), .no] st _
  unfold a__law_ratio
  have hc : ∀ x, CFd x (gsg a b) := fun x => cfd_of (gsg_ne hb) (Nat.lt_of_le_of_lt (gsg_le hb) hs)
  simp
  refine law_divisor_spec (ns := [a, b]) rfl ?_
  have e : gsg a b = if b < 0 then -gcdL [a, b] else gcdL [a, b] := rfl
  by_cases hlt : b < 0
  · rw [if_pos hlt] at e
    have hc' := hc
    rw [e] at hc'
    simp [hlt, hc']
    rw [← e]; exact h
  · rw [if_neg hlt] at e
    have hc' := hc
    rw [e] at hc'
    simp [hlt, hc']
    rw [← e]; exact h
theorem isnum_int {a : Int} (h : q (.d (.bl true)) st) : m__law_is_number [.int a] st q er := by
  refine ⟨rfl, ?_⟩
  show a__law_is_number [.d (.int a)] st _
  unfold a__law_is_number
  simp
  exact h
end
end LW
set_option Elab.async false
set_option linter.all false
set_option maxRecDepth 100000
set_option maxHeartbeats 1000000
namespace LW
open PySem L2 AM
@[simp] theorem atI0 {α : Type} {x : α} {l : List α} : atI (x :: l) 0 = some x := by
  have e : ixN (x :: l).length 0 = some 0 := by unfold ixN; rw [if_pos (by decide), if_pos (by simp)]; rfl
  unfold atI; rw [e]; rfl
@[simp] theorem atI1 {α : Type} {x y : α} {l : List α} : atI (x :: y :: l) 1 = some y := by
  have e : ixN (x :: y :: l).length 1 = some 1 := by unfold ixN; rw [if_pos (by decide), if_pos (by simp only [List.length_cons]; omega)]; rfl
  unfold atI; rw [e]; rfl
theorem eqv_pair {a b : Int} : D.eqv (.tup [.int a, .int b]) (.tup [.int a, .int b]) = true := by simp [D.eqv, D.eqvs]
theorem shp_pair {a b : Int} : (D.tup [.int a, .int b]).shp := by
  unfold D.shp
  simp [D.plain, D.plains, D.dep, D.deps]
theorem eq_pair {a b : Int} {q : D → Prop} : oEq (.tup [.int a, .int b]) (.tup [.int a, .int b]) q = q (.bl true) := by
  unfold oEq
  simp [shp_pair, eqv_pair]
theorem ne_pair {a b : Int} {q : D → Prop} : oNe (.tup [.int a, .int b]) (.tup [.int a, .int b]) q = q (.bl false) := by
  unfold oNe
  simp [shp_pair, eqv_pair]
section
variable {st : S} {q : Rs → S → Prop} {er : QX}
theorem in_terms_spec {a b : Int} (hb : b ≠ 0) (hs : b.natAbs < 2 ^ 8000) (h : q (.d (.bl true)) st) : m__law_in_terms [ratD a b, .int a, .int b] st q er := by
  refine ⟨rfl, ?_⟩
  show a__law_in_terms [.d (ratD a b), .d (.int a), .d (.int b)] st _
  unfold a__law_in_terms ratD
  simp
  refine isnum_int ?_
  simp
  refine isnum_int ?_
  simp
  refine law_ratio_spec hb hs ?_
  simp [ratD, eq_pair]
  exact h
/-- a ratio of moderate size -/
def RatOk (d : D) (k : Nat) (p b : Int) : Prop := d = .tup [.int p, .int b] ∧ 0 < b ∧ p.natAbs < 2 ^ k ∧ b.natAbs < 2 ^ k
theorem plus_spec {p b p' b' : Int} (hb : 0 < b) (hb' : 0 < b') (h1 : p.natAbs < 2 ^ 1000) (h2 : b.natAbs < 2 ^ 1000) (h3 : p'.natAbs < 2 ^ 1000) (h4 : b'.natAbs < 2 ^ 1000) (h : q (.d (ratD (p * b' + p' * b) (b * b'))) st) : m_plus [.tup [.int p, .int b], .tup [.int p', .int b']] st q er := by
  refine ⟨rfl, ?_⟩
  show a_plus [.d (.tup [.int p, .int b]), .d (.tup [.int p', .int b'])] st _
  unfold a_plus
  have c : ∀ {x y : Int}, x.natAbs < 2 ^ 1000 → y.natAbs < 2 ^ 1000 → CMulW x y := fun hx hy => cmul_of (bd_le hx (by decide)) (bd_le hy (by decide))
  simp [c h1 h4, c h3 h2, c h2 h4]
  refine ratio_spec (Int.ne_of_gt (Int.mul_pos hb hb')) (bd_le (mul_bd h2 h4) (by decide)) ?_
  simpa using h
theorem minus_spec {p b p' b' : Int} (hb : 0 < b) (hb' : 0 < b') (h1 : p.natAbs < 2 ^ 1000) (h2 : b.natAbs < 2 ^ 1000) (h3 : p'.natAbs < 2 ^ 1000) (h4 : b'.natAbs < 2 ^ 1000) (h : q (.d (ratD (p * b' - p' * b) (b * b'))) st) : m_minus [.tup [.int p, .int b], .tup [.int p', .int b']] st q er := by
  refine ⟨rfl, ?_⟩
  show a_minus [.d (.tup [.int p, .int b]), .d (.tup [.int p', .int b'])] st _
  unfold a_minus
  have c : ∀ {x y : Int}, x.natAbs < 2 ^ 1000 → y.natAbs < 2 ^ 1000 → CMulW x y := fun hx hy => cmul_of (bd_le hx (by decide)) (bd_le hy (by decide))
  simp [c h1 h4, c h3 h2, c h2 h4]
  refine ratio_spec (Int.ne_of_gt (Int.mul_pos hb hb')) (bd_le (mul_bd h2 h4) (by decide)) ?_
  simpa using h
theorem times_spec {p b p' b' : Int} (hb : 0 < b) (hb' : 0 < b') (h1 : p.natAbs < 2 ^ 1000) (h2 : b.natAbs < 2 ^ 1000) (h3 : p'.natAbs < 2 ^ 1000) (h4 : b'.natAbs < 2 ^ 1000) (h : q (.d (ratD (p * p') (b * b'))) st) : m_times [.tup [.int p, .int b], .tup [.int p', .int b']] st q er := by
  refine ⟨rfl, ?_⟩
  show a_times [.d (.tup [.int p, .int b]), .d (.tup [.int p', .int b'])] st _
  unfold a_times
  have c : ∀ {x y : Int}, x.natAbs < 2 ^ 1000 → y.natAbs < 2 ^ 1000 → CMulW x y := fun hx hy => cmul_of (bd_le hx (by decide)) (bd_le hy (by decide))
  simp [c h1 h3, c h2 h4]
  refine ratio_spec (Int.ne_of_gt (Int.mul_pos hb hb')) (bd_le (mul_bd h2 h4) (by decide)) ?_
  simpa using h
def cmpI (x y : Int) : Int := (if y < x then 1 else 0) - (if x < y then 1 else 0)
theorem compare_spec {p b p' b' : Int} (h1 : p.natAbs < 2 ^ 1000) (h2 : b.natAbs < 2 ^ 1000) (h3 : p'.natAbs < 2 ^ 1000) (h4 : b'.natAbs < 2 ^ 1000) (h : q (.d (.int (cmpI (p * b') (p' * b)))) st) : m_compare [.tup [.int p, .int b], .tup [.int p', .int b']] st q er := by
  refine ⟨rfl, ?_⟩
  show a_compare [.d (.tup [.int p, .int b]), .d (.tup [.int p', .int b']), .no, .no] st _
  unfold a_compare
  have c : ∀ {x y : Int}, x.natAbs < 2 ^ 1000 → y.natAbs < 2 ^ 1000 → CMulW x y := fun hx hy => cmul_of (bd_le hx (by decide)) (bd_le hy (by decide))
  simp [c h1 h4, c h3 h2]
  simpa [cmpI] using h
theorem two_right_spec {p b p' b' : Int} (hb : 0 < b) (hb' : 0 < b') (h1 : p.natAbs < 2 ^ 1000) (h2 : b.natAbs < 2 ^ 1000) (h3 : p'.natAbs < 2 ^ 1000) (h4 : b'.natAbs < 2 ^ 1000) (h : q (.d (.bl true)) st) : m__law_two_right [.tup [.int p, .int b], .tup [.int p', .int b']] st q er := by
  refine ⟨rfl, ?_⟩
  show a__law_two_right [.d (.tup [.int p, .int b]), .d (.tup [.int p', .int b']), .no, .no, .no, .no] st _
  unfold a__law_two_right
  have c : ∀ {x y : Int}, x.natAbs < 2 ^ 1000 → y.natAbs < 2 ^ 1000 → CMulW x y := fun hx hy => cmul_of (bd_le hx (by decide)) (bd_le hy (by decide))
  have nz : b * b' ≠ 0 := Int.ne_of_gt (Int.mul_pos hb hb')
  have sz : (b * b').natAbs < 2 ^ 8000 := bd_le (mul_bd h2 h4) (by decide)
  simp [c h1 h4, c h3 h2, c h2 h4]
  refine plus_spec hb hb' h1 h2 h3 h4 ?_
  simp
  refine in_terms_spec nz sz ?_
  simp
  refine minus_spec hb hb' h1 h2 h3 h4 ?_
  simp
  refine in_terms_spec nz sz ?_
  simp
  refine times_spec hb hb' h1 h2 h3 h4 ?_
  simp [c h1 h3]
  refine in_terms_spec nz sz ?_
  simp
  refine compare_spec h1 h2 h3 h4 ?_
  simp
  refine isnum_int ?_
  simp [cmpI]
  exact h
theorem near_gt {p b : Int} (hb : 0 < b) {F : Int} (hF : 0 < F) : p * rb (p * F + 1) (b * F) < rt (p * F + 1) (b * F) * b := by
  have nz : b * F ≠ 0 := Int.ne_of_gt (Int.mul_pos hb hF)
  have g := (gsg_sign (a := p * F + 1) nz).1 (Int.mul_pos hb hF)
  have e1 := rt_mul (a := p * F + 1) (b := b * F)
  have e2 := rb_mul (a := p * F + 1) (b := b * F)
  generalize rt (p * F + 1) (b * F) = x at *
  generalize rb (p * F + 1) (b * F) = y at *
  generalize gsg (p * F + 1) (b * F) = z at *
  have k1 : (p * y) * z = p * (b * F) := by rw [Int.mul_assoc, e2]
  have k2 : (x * b) * z = (p * F + 1) * b := by rw [Int.mul_right_comm, e1]
  have k3 : p * (b * F) < (p * F + 1) * b := by
    have : (p * F + 1) * b = p * (b * F) + b := by rw [Int.add_mul, Int.one_mul, Int.mul_assoc, Int.mul_comm F b]
    omega
  rw [← k1, ← k2] at k3
  exact Int.lt_of_mul_lt_mul_right k3 (Int.le_of_lt g)
theorem near_spec {p b : Int} (hb : 0 < b) (h1 : p.natAbs < 2 ^ 200) (h2 : b.natAbs < 2 ^ 200) (h : q (.d (.bl true)) st) : m__law_near_right [.tup [.int p, .int b]] st q er := by
  refine ⟨rfl, ?_⟩
  show a__law_near_right [.d (.tup [.int p, .int b]), .no, .no] st _
  unfold a__law_near_right
  have p1 : CPow 10 20 := ⟨by decide, by decide, by decide⟩
  have p2 : CPow 10 8 := ⟨by decide, by decide, by decide⟩
  have F0 : (100000000000000000000 : Int).natAbs < 2 ^ 100 := by decide
  have c1 : CMulW p 100000000000000000000 := cmul_of (bd_le h1 (by decide)) (bd_le F0 (by decide))
  have c2 : CMulW b 100000000000000000000 := cmul_of (bd_le h2 (by decide)) (bd_le F0 (by decide))
  have FP : (0 : Int) < 100000000000000000000 := by decide
  have nz : b * 100000000000000000000 ≠ 0 := Int.ne_of_gt (Int.mul_pos hb FP)
  have sb : (b * 100000000000000000000).natAbs < 2 ^ 300 := mul_bd h2 F0
  have sp : (p * 100000000000000000000 + 1).natAbs < 2 ^ 301 := by
    have := mul_bd h1 F0
    have e : (2 : Nat) ^ 301 = 2 ^ 300 + 2 ^ 300 := by decide
    have e' : (2 : Nat) ^ (200 + 100) = 2 ^ 300 := by decide
    omega
  have g := near_gt (p := p) hb FP
  have k1 := rb_pos (a := p * 100000000000000000000 + 1) nz
  have k2 : (rt (p * 100000000000000000000 + 1) (b * 100000000000000000000)).natAbs < 2 ^ 1000 := bd_le (Nat.lt_of_le_of_lt (rt_le nz) sp) (by decide)
  have k3 : (rb (p * 100000000000000000000 + 1) (b * 100000000000000000000)).natAbs < 2 ^ 1000 := bd_le (Nat.lt_of_le_of_lt (rb_le nz) sb) (by decide)
  have j1 : p.natAbs < 2 ^ 1000 := bd_le h1 (by decide)
  have j2 : b.natAbs < 2 ^ 1000 := bd_le h2 (by decide)
  simp [p1, p2, c1, c2, abs_int]
  split
  · exact h
  split
  · exact h
  refine ratio_spec nz (bd_le sb (by decide)) ?_
  simp [ratD]
  refine compare_spec k2 k3 j1 j2 ?_
  have v1 : cmpI (rt (p * 100000000000000000000 + 1) (b * 100000000000000000000) * b) (p * rb (p * 100000000000000000000 + 1) (b * 100000000000000000000)) = 1 := by
    unfold cmpI; rw [if_pos g, if_neg (by omega)]; rfl
  have v2 : cmpI (p * rb (p * 100000000000000000000 + 1) (b * 100000000000000000000)) (rt (p * 100000000000000000000 + 1) (b * 100000000000000000000) * b) = -1 := by
    unfold cmpI; rw [if_neg (by omega), if_pos g]; rfl
  simp [v1]
  refine compare_spec j1 j2 k2 k3 ?_
  simp [v2]
  refine two_right_spec hb k1 j1 j2 k2 k3 ?_
  simp
  refine two_right_spec k1 hb k2 k3 j1 j2 ?_
  simpa using h
end
end LW
set_option Elab.async false
set_option linter.all false
set_option maxRecDepth 100000
set_option maxHeartbeats 1000000
namespace LW
open PySem L2 AM
def intF (f : Int → Int) : D → D
  | .int i => .int (f i)
  | d => d
theorem map_intF (f : Int → Int) (ns : List Int) : (ns.map D.int).map (intF f) = (ns.map f).map D.int := by
  rw [List.map_map, List.map_map]; rfl
def lowL (ns : List Int) : List Int := if gcdL ns = 0 then ns else ns.map fun n => n.fdiv (gcdL ns)
theorem gcd_fold_lt {B : Nat} : ∀ (ns : List Int) (g : Nat), g < B → (∀ n ∈ ns, n.natAbs < B) → ns.foldl (fun (g : Nat) n => Nat.gcd n.natAbs g) g < B
  | [], g, hg, _ => hg
  | n :: ns, g, hg, h => by
    refine gcd_fold_lt ns _ ?_ (fun x hx => h x (by simp [hx]))
    show Nat.gcd n.natAbs g < B
    by_cases hn : n.natAbs = 0
    · rw [hn, Nat.gcd_zero_left]; exact hg
    · exact Nat.lt_of_le_of_lt (Nat.gcd_le_left _ (by omega)) (h n (by simp))
theorem gcdL_lt {B : Nat} {ns : List Int} (hB : 0 < B) (h : ∀ n ∈ ns, n.natAbs < B) : (gcdL ns).natAbs < B := by
  unfold gcdL
  rw [Int.natAbs_natCast]
  exact gcd_fold_lt ns 0 hB h
theorem two_pos {k : Nat} : 0 < 2 ^ k := Nat.pow_pos (by decide)
section
variable {st : S} {q : Rs → S → Prop} {er : QX}
theorem divs {d : D} {g : Int} {ns : List Int} {gd : Gd} {ql : List D → S → Prop} (hg : gdOk gd st) (hl : ns.length ≤ 100000) (hc : ∀ x, CFd x g) (h : ql ((ns.map fun n => n.fdiv g).map .int) st) : aLcL gd (agName 2) aYes (aOp oFdiv (aVar 2) (aVar 1)) [.d d, .d (.int g), .no] ql (ns.map .int) [] st := by
  rw [lc_map (G := intF fun i => i.fdiv g) hg _ _ (fun x hx P1 P2 => ?_) (by simpa using hl)]
  · rw [map_intF]; simpa using h
  · obtain ⟨n, _, rfl⟩ := List.mem_map.mp hx
    simp [hc, intF]
theorem lowest_spec {d : D} {ns : List Int} (hd : isInts st d ns) (hl : ns.length ≤ 100000) (hs : ∀ n ∈ ns, n.natAbs < 2 ^ 8000) (h : q (.own ((lowL ns).map .int)) st) : m_lowest [d] st q er := by
  refine ⟨rfl, ?_⟩
  show a_lowest [.d d, .no, .no] st _
  unfold a_lowest
  simp
  refine divisor_spec hd ?_
  simp
  unfold lowL at h
  by_cases hz : gcdL ns = 0
  · rw [if_pos hz] at h
    simp [hz]
    exact ⟨_, hd, h⟩
  · rw [if_neg hz] at h
    simp [hz]
    exact ⟨_, hd, divs gdOk_of hl (fun x => cfd_of hz (gcdL_lt two_pos hs)) h⟩
theorem least_spec {d : D} {ns : List Int} (hd : isInts st d ns) (hl : ns.length ≤ 100000) (hs : ∀ n ∈ ns, n.natAbs < 2 ^ 8000) (h : q (.own ((lowL ns).map .int)) st) : m__law_least_terms [d] st q er := by
  refine ⟨rfl, ?_⟩
  show a__law_least_terms [.d d, .no, .no] st _
  unfold a__law_least_terms
  simp
  refine law_divisor_spec hd ?_
  simp
  unfold lowL at h
  by_cases hz : gcdL ns = 0
  · rw [if_pos hz] at h
    simp [hz]
    exact ⟨_, hd, h⟩
  · rw [if_neg hz] at h
    simp [hz]
    exact ⟨_, hd, divs gdOk_of hl (fun x => cfd_of hz (gcdL_lt two_pos hs)) h⟩
/-! ### draws -/
theorem take_spec {n m : Nat} {ns : List Int} {k : Int} (hn : st[n]? = some (.pool m ns)) (hk : 0 < k) (hl : k.natAbs < 2 ^ 8000) (hm : m < 10 ^ 12) (h : ∀ (x : Int) (m' : Nat), 0 ≤ x → x < k → m ≤ m' → m' ≤ m + 1 → q (.d (.int x)) (st.set n (.pool m' ns))) : mTake [.ref n, .int k] st q er :=
  ⟨n, m, ns, k, rfl, hn, hk, Nat.lt_of_lt_of_le (log_lt hl (by decide)) (by decide), hm, h⟩
theorem set_get {n : Nat} {c c' : C} (hn : st[n]? = some c) : (st.set n c')[n]? = some c' := List.getElem?_set_self (List.getElem?_eq_some_iff.mp hn).1
theorem integer_spec {n m : Nat} {ns : List Int} (hn : st[n]? = some (.pool m ns)) (hm : m + 10 < 10 ^ 12) (h : ∀ (x : Int) (m' : Nat), x.natAbs < 2 ^ 100 → m ≤ m' → m' ≤ m + 2 → q (.d (.int x)) (st.set n (.pool m' ns))) : m__law_integer [.ref n] st q er := by
  refine ⟨rfl, ?_⟩
  show a__law_integer [.d (.ref n), .no] st _
  unfold a__law_integer
  have p1 : CPow 10 29 := ⟨by decide, by decide, by decide⟩
  simp [p1]
  refine take_spec hn (by decide) (by decide) (by omega) fun x m1 x0 x1 h1 h2 => ?_
  simp
  have key : ∀ s : Int, 0 < s → s.natAbs < 2 ^ 99 → CMulW 2 s ∧ mTake [.ref n, .int (2 * s + 1)] (st.set n (.pool m1 ns)) (rsQ fun x s2 => oSub (vw s2 x) (.int s) fun z => q (.d z) s2) (fun e s => er e s) := fun s s0 s1 => by
    have e99 : (2 : Nat) ^ 99 + 2 ^ 99 + 1 < 2 ^ 8000 := Nat.lt_of_lt_of_le (m := 2 ^ 101) (by decide) (Nat.pow_le_pow_right (by decide) (by decide))
    refine ⟨cmul_of (bd_le (a := 2) (by decide) (by decide)) (bd_le s1 (by decide)), take_spec (set_get hn) (by omega) (by omega) (by omega) fun y m2 y0 y1 h3 h4 => ?_⟩
    simp
    have e100 : (2 : Nat) ^ 100 = 2 ^ 99 + 2 ^ 99 := by decide
    exact h _ _ (by omega) (by omega) (by omega)
  have four : x = 0 ∨ x = 1 ∨ x = 2 ∨ x = 3 := by omega
  have a2 : atI [D.int 3, D.int 12, D.int 1000, D.int 100000000000000000000000000000] 2 = some (.int 1000) := rfl
  have a3 : atI [D.int 3, D.int 12, D.int 1000, D.int 100000000000000000000000000000] 3 = some (.int 100000000000000000000000000000) := rfl
  rcases four with rfl | rfl | rfl | rfl
  · simpa using key 3 (by decide) (by decide)
  · simpa using key 12 (by decide) (by decide)
  · simpa [a2] using key 1000 (by decide) (by decide)
  · simpa [a3] using key 100000000000000000000000000000 (by decide) (by decide)
end
end LW
set_option Elab.async false
set_option linter.all false
set_option maxRecDepth 100000
set_option maxHeartbeats 1000000
namespace LW
open PySem L2 AM
theorem plains_ints : ∀ ns : List Int, D.plains (ns.map D.int) = true
  | [] => rfl
  | n :: ns => by rw [List.map_cons]; unfold D.plains; rw [plains_ints ns]; rfl
theorem deps_ints : ∀ ns : List Int, D.deps (ns.map D.int) = 0
  | [] => rfl
  | n :: ns => by rw [List.map_cons]; unfold D.deps; rw [deps_ints ns]; rfl
theorem eqvs_ints : ∀ ns : List Int, D.eqvs (ns.map D.int) (ns.map D.int) = true
  | [] => rfl
  | n :: ns => by rw [List.map_cons]; unfold D.eqvs; rw [eqvs_ints ns]; simp [D.eqv]
theorem shp_ints (ns : List Int) : (D.lst (ns.map .int)).shp := by
  unfold D.shp
  constructor
  · unfold D.plain; exact plains_ints ns
  · unfold D.dep; rw [deps_ints]; decide
theorem eq_ints {ns : List Int} {q : D → Prop} : oEq (.lst (ns.map .int)) (.lst (ns.map .int)) q = q (.bl true) := by
  have : D.eqv (.lst (ns.map .int)) (.lst (ns.map .int)) = true := by unfold D.eqv; exact eqvs_ints ns
  unfold oEq
  simp [shp_ints, this]
theorem ne_ints {ns : List Int} {q : D → Prop} : oNe (.lst (ns.map .int)) (.lst (ns.map .int)) q = q (.bl false) := by
  have : D.eqv (.lst (ns.map .int)) (.lst (ns.map .int)) = true := by unfold D.eqv; exact eqvs_ints ns
  unfold oNe
  simp [shp_ints, this]
theorem ltL_ints {k : Nat} : ∀ ns : List Int, ltL k (ns.map D.int)
  | [] => by unfold List.map ltL; trivial
  | n :: ns => by rw [List.map_cons]; unfold ltL; exact ⟨by unfold D.lt; trivial, ltL_ints ns⟩
theorem ltS_set {k n m : Nat} {st : S} {ns : List Int} (h : ltS k st) : ltS k (st.set n (.pool m ns)) := fun c hc => by
  rcases List.mem_or_eq_of_mem_set hc with hc | rfl
  · exact h c hc
  · trivial
section
variable {st : S} {q : Rs → S → Prop} {er : QX}
theorem refused_spec {a : Int} (h : q (.d (.bl true)) st) : m__law_refused [.int a] st q er := by
  refine ⟨rfl, ?_⟩
  show a__law_refused [.d (.int a), .no] st _
  unfold a__law_refused sTryAs
  simp
  refine ratio_zero ?_
  refine ⟨true, rfl, fun _ ad c dx => ?_, fun z => by cases z⟩
  have xf : ∀ {q : D → S → Prop} {er : QX}, aXf ad c dx "BadRatio" 1 "bottom" [.d (.int a), .exc ad c dx ⟨"BadRatio", some ("bottom", .int 0)⟩] st q er = q (.int 0) st := propext ⟨fun ⟨_, _, _, _, x, e, w⟩ => by cases e; exact w, fun w => ⟨rfl, rfl, rfl, rfl, _, rfl, w⟩⟩
  simp [xf]
  refine isnum_int ?_
  simp [xf]
  exact h
/-- drawn numbers times a factor -/
theorem drawn {n : Nat} {ns : List Int} {f : Int} {e2 e3 e4 : A} {ql : List D → S → Prop} (hf : f.natAbs < 2 ^ 200) (hn : n < st.length) : ∀ (ds : List D) (acc : List Int) (m : Nat), m + ds.length < 10 ^ 6 → acc.length + ds.length ≤ 1000 → (∀ x ∈ acc, x.natAbs < 2 ^ 300) → (∀ (l : List Int) (m' : Nat), l.length ≤ acc.length + ds.length → (∀ x ∈ l, x.natAbs < 2 ^ 300) → m' ≤ m + ds.length → ql (l.map .int) (st.set n (.pool m' ns))) →
    aLcL [] (agName 5) aYes (aOp oMul (aVar 1) (aOp oSub (aCall m__law_take (aCons (aVar 0) (aCons (aC (.int 41)) (aNil))) []) (aC (.int 20)))) [.d (.ref n), .d (.int f), e2, e3, e4, .no] ql ds (acc.map .int) (st.set n (.pool m ns))
  | [], acc, m, hm, hl, ha, h => by
    rw [lc_nil]
    exact ⟨by simp, h acc m (by simp) ha (by simp)⟩
  | d :: ds, acc, m, hm, hl, ha, h => by
    rw [lc_cons]
    have hg : (st.set n (.pool m ns))[n]? = some (.pool m ns) := List.getElem?_set_self hn
    simp at hm hl
    simp
    refine take_spec hg (by decide) (by decide) (by omega) fun x m1 x0 x1 h1 h2 => ?_
    have hx : (x - 20).natAbs < 2 ^ 100 := by
      have : (100 : Nat) < 2 ^ 100 := by decide
      omega
    have hc : CMulW f (x - 20) := cmul_of (bd_le hf (by decide)) (bd_le hx (by decide))
    simp [hc]
    refine ⟨by omega, ?_⟩
    have := drawn (e2 := e2) (e3 := e3) (e4 := e4) hf hn ds (acc ++ [f * (x - 20)]) m1 (by omega) (by simp; omega) (fun y hy => by
      rcases List.mem_append.mp hy with hy | hy
      · exact ha y hy
      · have : y = f * (x - 20) := by simpa using hy
        subst this
        exact mul_bd hf hx) (fun l m' hl1 hl2 hl3 => h l m' (by simp at hl1 ⊢; omega) hl2 (by simp; omega))
    simpa using this
theorem lowest_right_spec {n m : Nat} {ns : List Int} (hn : st[n]? = some (.pool m ns)) (hm : m < 1000) (h : ∀ m', q (.d (.bl true)) (st.set n (.pool m' ns))) : m__law_lowest_right [.ref n] st q er := by
  refine ⟨rfl, fun _ hw => ?_⟩
  show a__law_lowest_right [.d (.ref n), .no, .no, .no, .no, .no] st _
  unfold a__law_lowest_right
  have hlt : n < st.length := (List.getElem?_eq_some_iff.mp hn).1
  have p1 : CPow 10 25 := ⟨by decide, by decide, by decide⟩
  simp
  refine take_spec hn (by decide) (by decide) (by omega) fun x m1 x0 x1 h1 h2 => ?_
  simp [p1]
  refine take_spec (set_get hn) (by decide) (by decide) (by omega) fun y m2 y0 y1 h3 h4 => ?_
  simp
  have hx : x.natAbs < 2 ^ 10 := by
    have : (2 : Nat) ^ 10 = 1024 := by decide
    omega
  obtain ⟨z, hz, hzb⟩ : ∃ z : Int, atI [D.int 1, D.int 10000000000000000000000000] (if y = 0 then 1 else 0) = some (.int z) ∧ z.natAbs < 2 ^ 100 := by
    split
    · exact ⟨_, atI1, by decide⟩
    · exact ⟨_, atI0, by decide⟩
  refine ⟨_, hz, ?_⟩
  have hc : CMulW x z := cmul_of (bd_le hx (by decide)) (bd_le hzb (by decide))
  simp [hc]
  refine take_spec (set_get hn) (by decide) (by decide) (by omega) fun w m3 w0 w1 h5 h6 => ?_
  simp
  refine ⟨⟨by omega, by omega⟩, ?_⟩
  refine drawn (st := st) (bd_le (mul_bd hx hzb) (by decide)) hlt _ [] m3 (by simp; omega) (by simp; omega) (by simp) fun l m' hl hlb hm' => ?_
  simp at hl
  have hb : ∀ n ∈ l, n.natAbs < 2 ^ 8000 := fun n hn => bd_le (hlb n hn) (by decide)
  refine lowest_spec isInts_lst (by omega) hb ?_
  simp
  refine least_spec isInts_lst (by omega) hb ?_
  have hS : ltS st.length (st.set n (.pool m' ns)) := ltS_set hw
  have hL : (st.set n (C.pool m' ns)).length = st.length := by simp
  generalize hs : st.set n (C.pool m' ns) = s at hS hL ⊢
  have hq : q (.d (.bl true)) s := by rw [← hs]; exact h m'
  have g : ∀ L, (s ++ [C.lst L])[st.length]? = some (C.lst L) := fun L => by rw [← hL]; simp
  have g2 : ∀ L L', (s ++ [C.lst L]).set st.length (C.lst L') = s ++ [C.lst L'] := fun L L' => by rw [← hL]; simp
  simp [vw_ref (g _), ne_ints, eq_ints, g, g2]
  have hll : (lowL l).length = l.length := by unfold lowL; split <;> simp
  refine ⟨by omega, ?_⟩
  refine lowest_spec isInts_tup (by omega) hb ?_
  simp
  refine least_spec isInts_lst (by omega) hb ?_
  simp [eq_ints]
  refine ⟨?_, .inl ⟨by unfold Rs.lt D.lt; trivial, ?_⟩⟩
  · rw [← hL, List.take_left]; rw [hL]; exact hS
  · rw [← hL, List.take_left]; exact hq
end
/-! ### the law -/
def Good (d : D) : Prop := ∃ p b : Int, d = .tup [.int p, .int b] ∧ 0 < b ∧ p.natAbs < 2 ^ 200 ∧ b.natAbs < 2 ^ 200
theorem good_rat {a b : Int} (hb : b ≠ 0) (h1 : a.natAbs < 2 ^ 100) (h2 : b.natAbs < 2 ^ 100) : Good (ratD a b) :=
  ⟨_, _, rfl, rb_pos hb, bd_le (Nat.lt_of_le_of_lt (rt_le hb) h1) (by decide), bd_le (Nat.lt_of_le_of_lt (rb_le hb) h2) (by decide)⟩
theorem law_true (ns : List Int) (hns : ns.length ≤ 63) : a_law (.d (.scr ns) :: .d (.ref 0) :: List.replicate 5 .no) [.pool 0 ns] yes := by
  show a_law [.d (.scr ns), .d (.ref 0), .no, .no, .no, .no, .no] [.pool 0 ns] yes
  unfold a_law
  simp
  refine take_spec rfl (by decide) (by decide) (by decide) fun x m x0 x1 h1 h2 => ?_
  simp
  refine ⟨⟨by omega, by omega⟩, ?_⟩
  refine for_ind (P := fun ds env st => ∃ m made ext e3 e4 e5 e6, env = [.d (.scr ns), .d (.ref 0), .d (.ref 1), e3, e4, e5, e6] ∧ st = .pool m ns :: .lst made :: ext ∧ m + 10 * ds.length ≤ 900 ∧ made.length + ds.length ≤ 100 ∧ (∀ d ∈ made, Good d) ∧ ∀ d ∈ ds, ∃ i : Nat, d = .int i ∧ i < 10) ?h0 ?h1 _ _ _ ⟨m, [], [], _, _, _, _, rfl, rfl, by simp; omega, by simp; omega, by simp, ?hd⟩
  case hd =>
    intro d hd
    obtain ⟨i, hi, rfl⟩ := List.mem_map.mp hd
    exact ⟨i, rfl, by have := List.mem_range.mp hi; omega⟩
  case h1 =>
    rintro x xs env st ⟨m, made, ext, e3, e4, e5, e6, rfl, rfl, hm, hl, hg, hd⟩ nx hnx
    obtain ⟨i, rfl, hi⟩ := hd x (by simp)
    simp at hm hl
    simp
    refine integer_spec (n := 0) rfl (by omega) fun a m1 ha h3 h4 => ?_
    simp
    refine integer_spec (n := 0) rfl (by omega) fun b m2 hb h5 h6 => ?_
    have g : ∀ L, (C.pool m2 ns :: C.lst made :: (ext ++ [C.lst L]))[ext.length + 1 + 1]? = some (C.lst L) := fun L => by simp
    have ix : ixN 2 1 = some 1 := rfl
    have rest : ∀ b' : Int, b' ≠ 0 → b'.natAbs < 2 ^ 100 → nx [.d (.scr ns), .d (.ref 0), .d (.ref 1), .d (.int i), .d (ratD a b'), .d (.ref (ext.length + 1 + 1)), e6] (C.pool m2 ns :: C.lst (made ++ [ratD a b']) :: (ext ++ [C.lst [D.int a, D.int b']])) := fun b' hb0 hb1 => by
      refine hnx _ _ ⟨m2, made ++ [ratD a b'], ext ++ [C.lst [D.int a, D.int b']], _, _, _, _, rfl, rfl, by omega, by simp; omega, fun d hd' => ?_, fun d hd' => hd d (by simp [hd'])⟩
      rcases List.mem_append.mp hd' with hd' | hd'
      · exact hg d hd'
      · have : d = ratD a b' := by simpa using hd'
        subst this
        exact good_rat hb0 ha hb1
    have one : (1 : Int).natAbs < 2 ^ 8000 := Nat.lt_of_lt_of_le (m := 2 ^ 1) (by decide) (Nat.pow_le_pow_right (by decide) (by decide))
    simp [vw_ref (g _), g, ix]
    split
    · have hb0 : (-1 - (i : Int)) ≠ 0 := by omega
      have hb1 : (-1 - (i : Int)).natAbs < 2 ^ 100 := Nat.lt_of_lt_of_le (m := 100) (by omega) (by decide)
      have rr := rest _ hb0 hb1
      generalize (-1 - (i : Int)) = b' at hb0 hb1 rr ⊢
      have hb2 : b'.natAbs < 2 ^ 8000 := bd_le hb1 (by decide)
      refine ratio_spec hb0 hb2 ?_
      simp [vw_ref (g _), g]
      refine in_terms_spec hb0 hb2 ?_
      simp [vw_ref (g _), g]
      refine ratio_spec (by decide) one ?_
      simp [vw_ref (g _), g]
      refine in_terms_spec (by decide) one ?_
      simp [vw_ref (g _), g, pick]
      refine ratio_spec hb0 hb2 ?_
      simp [vw_ref (g _), g, ratD, ne_pair]
      refine refused_spec ?_
      simp
      exact ⟨by omega, rr⟩
    · rename_i hb0
      have rr := rest _ hb0 hb
      have hb2 : b.natAbs < 2 ^ 8000 := bd_le hb (by decide)
      refine ratio_spec hb0 hb2 ?_
      simp [vw_ref (g _), g]
      refine in_terms_spec hb0 hb2 ?_
      simp [vw_ref (g _), g]
      refine ratio_spec (by decide) one ?_
      simp [vw_ref (g _), g]
      refine in_terms_spec (by decide) one ?_
      simp [vw_ref (g _), g, pick]
      refine ratio_spec hb0 hb2 ?_
      simp [vw_ref (g _), g, ratD, ne_pair]
      refine refused_spec ?_
      simp
      exact ⟨by omega, rr⟩
  case h0 =>
    rintro env st ⟨m, made, ext, e3, e4, e5, e6, rfl, rfl, hm, hl, hg, _⟩
    simp at hm hl
    have g1 : (C.pool m ns :: C.lst made :: ext)[1]? = some (C.lst made) := rfl
    have z1 : (0 : Int).natAbs < 2 ^ 1000 := Nat.pow_pos (by decide)
    have z2 : (1 : Int).natAbs < 2 ^ 1000 := Nat.lt_of_lt_of_le (m := 2 ^ 1) (by decide) (Nat.pow_le_pow_right (by decide) (by decide))
    simp [vw_ref g1, gdOf_ref g1]
    refine for_ind (P := fun ds env st => ∃ e4 e6, env = [.d (.scr ns), .d (.ref 0), .d (.ref 1), e3, e4, e5, e6] ∧ st = .pool m ns :: .lst made :: ext ∧ ∀ d ∈ ds, Good d) ?k0 ?k1 _ _ _ ⟨e4, e6, rfl, rfl, hg⟩
    case k0 =>
      rintro env st ⟨e4, e6, rfl, rfl, _⟩
      refine ⟨by simp, ?_⟩
      simp
      refine lowest_right_spec (n := 0) rfl (by omega) fun m' => ?_
      simp [yes]
    case k1 =>
      rintro d ds env st ⟨e4, e6, rfl, rfl, hds⟩ nx hnx
      obtain ⟨p, b, rfl, hb, h1, h2⟩ := hds d (by simp)
      simp
      refine near_spec hb h1 h2 ?_
      simp [vw_ref g1]
      refine ⟨by omega, ?_⟩
      refine for_ind (P := fun ds env st => ∃ e6, env = [.d (.scr ns), .d (.ref 0), .d (.ref 1), e3, .d (.tup [.int p, .int b]), e5, e6] ∧ st = .pool m ns :: .lst made :: ext ∧ ∀ d ∈ ds, Good d) ?j0 ?j1 _ _ _ ⟨e6, rfl, rfl, fun d hd => ?_⟩
      case j0 =>
        rintro env st ⟨e6, rfl, rfl, _⟩
        exact ⟨by simp, hnx _ _ ⟨_, _, rfl, rfl, fun d hd => hds d (by simp [hd])⟩⟩
      case j1 =>
        rintro d ds env st ⟨e6, rfl, rfl, hds⟩ nx hnx
        obtain ⟨p', b', rfl, hb', h3, h4⟩ := hds d (by simp)
        simp
        refine two_right_spec hb hb' (bd_le h1 (by decide)) (bd_le h2 (by decide)) (bd_le h3 (by decide)) (bd_le h4 (by decide)) ?_
        simp
        exact hnx _ _ ⟨_, rfl, rfl, fun d hd => hds d (by simp [hd])⟩
      · rcases List.mem_append.mp hd with hd | hd
        · exact hg d hd
        · have : d = .tup [.int 0, .int 1] := by simpa using hd
          subst this
          exact ⟨0, 1, rfl, by decide, by decide, by decide⟩
end LW
set_option Elab.async false
set_option linter.all false
set_option maxRecDepth 100000
set_option maxHeartbeats 0
namespace LW
open PySem PySem.Spec PyProof.Rows L2 AM
def top (i : Nat) : Stmt := PySem.Challenge.pw_everyhint_k11_ratios.main.body.getD i (.Pass ⟨0, 0, 0, 0⟩)
abbrev s__law_pool : Stmt := top 12
abbrev s_divisor : Stmt := top 4
abbrev s_lowest : Stmt := top 5
abbrev s__law_take : Stmt := top 13
abbrev s__law_divisor : Stmt := top 15
abbrev s__law_least_terms : Stmt := top 17
abbrev s__law_lowest_right : Stmt := top 23
abbrev s_ratio : Stmt := top 6
abbrev s__law_integer : Stmt := top 18
abbrev s_compare : Stmt := top 10
abbrev s__law_ratio : Stmt := top 16
abbrev s__law_is_number : Stmt := top 14
abbrev s__law_in_terms : Stmt := top 20
abbrev s_plus : Stmt := top 7
abbrev s_minus : Stmt := top 8
abbrev s_times : Stmt := top 9
abbrev s__law_two_right : Stmt := top 21
abbrev s__law_near_right : Stmt := top 22
abbrev s__law_refused : Stmt := top 19
abbrev s_law : Stmt := top 24
abbrev sx_BadRatio : Stmt := inClass (top 2) 0
structure Fcs (P : Program) (K : PySem.W.Frag) (mg : Str → Option Value) : Prop where
  g__law_pool : mg "_law_pool" = some (.ref (He.ga K "_law_pool"))
  F__law_pool : FunD K "_law_pool" "_law_pool" (defArgs s__law_pool) (defBody s__law_pool) (defScope s__law_pool) [] [] (He.ga K "_law_pool") (fdAt K (He.ga K "_law_pool"))
  g_divisor : mg "divisor" = some (.ref (He.ga K "divisor"))
  F_divisor : FunD K "divisor" "divisor" (defArgs s_divisor) (defBody s_divisor) (defScope s_divisor) [] [] (He.ga K "divisor") (fdAt K (He.ga K "divisor"))
  g_lowest : mg "lowest" = some (.ref (He.ga K "lowest"))
  F_lowest : FunD K "lowest" "lowest" (defArgs s_lowest) (defBody s_lowest) (defScope s_lowest) [] [] (He.ga K "lowest") (fdAt K (He.ga K "lowest"))
  g__law_take : mg "_law_take" = some (.ref (He.ga K "_law_take"))
  F__law_take : FunD K "_law_take" "_law_take" (defArgs s__law_take) (defBody s__law_take) (defScope s__law_take) [] [] (He.ga K "_law_take") (fdAt K (He.ga K "_law_take"))
  g__law_divisor : mg "_law_divisor" = some (.ref (He.ga K "_law_divisor"))
  F__law_divisor : FunD K "_law_divisor" "_law_divisor" (defArgs s__law_divisor) (defBody s__law_divisor) (defScope s__law_divisor) [] [] (He.ga K "_law_divisor") (fdAt K (He.ga K "_law_divisor"))
  g__law_least_terms : mg "_law_least_terms" = some (.ref (He.ga K "_law_least_terms"))
  F__law_least_terms : FunD K "_law_least_terms" "_law_least_terms" (defArgs s__law_least_terms) (defBody s__law_least_terms) (defScope s__law_least_terms) [] [] (He.ga K "_law_least_terms") (fdAt K (He.ga K "_law_least_terms"))
  g__law_lowest_right : mg "_law_lowest_right" = some (.ref (He.ga K "_law_lowest_right"))
  F__law_lowest_right : FunD K "_law_lowest_right" "_law_lowest_right" (defArgs s__law_lowest_right) (defBody s__law_lowest_right) (defScope s__law_lowest_right) [] [] (He.ga K "_law_lowest_right") (fdAt K (He.ga K "_law_lowest_right"))
  g_ratio : mg "ratio" = some (.ref (He.ga K "ratio"))
  F_ratio : FunD K "ratio" "ratio" (defArgs s_ratio) (defBody s_ratio) (defScope s_ratio) [.int 1] [] (He.ga K "ratio") (fdAt K (He.ga K "ratio"))
  g__law_integer : mg "_law_integer" = some (.ref (He.ga K "_law_integer"))
  F__law_integer : FunD K "_law_integer" "_law_integer" (defArgs s__law_integer) (defBody s__law_integer) (defScope s__law_integer) [] [] (He.ga K "_law_integer") (fdAt K (He.ga K "_law_integer"))
  g_compare : mg "compare" = some (.ref (He.ga K "compare"))
  F_compare : FunD K "compare" "compare" (defArgs s_compare) (defBody s_compare) (defScope s_compare) [] [] (He.ga K "compare") (fdAt K (He.ga K "compare"))
  g__law_ratio : mg "_law_ratio" = some (.ref (He.ga K "_law_ratio"))
  F__law_ratio : FunD K "_law_ratio" "_law_ratio" (defArgs s__law_ratio) (defBody s__law_ratio) (defScope s__law_ratio) [] [] (He.ga K "_law_ratio") (fdAt K (He.ga K "_law_ratio"))
  g__law_is_number : mg "_law_is_number" = some (.ref (He.ga K "_law_is_number"))
  F__law_is_number : FunD K "_law_is_number" "_law_is_number" (defArgs s__law_is_number) (defBody s__law_is_number) (defScope s__law_is_number) [] [] (He.ga K "_law_is_number") (fdAt K (He.ga K "_law_is_number"))
  g__law_in_terms : mg "_law_in_terms" = some (.ref (He.ga K "_law_in_terms"))
  F__law_in_terms : FunD K "_law_in_terms" "_law_in_terms" (defArgs s__law_in_terms) (defBody s__law_in_terms) (defScope s__law_in_terms) [] [] (He.ga K "_law_in_terms") (fdAt K (He.ga K "_law_in_terms"))
  g_plus : mg "plus" = some (.ref (He.ga K "plus"))
  F_plus : FunD K "plus" "plus" (defArgs s_plus) (defBody s_plus) (defScope s_plus) [] [] (He.ga K "plus") (fdAt K (He.ga K "plus"))
  g_minus : mg "minus" = some (.ref (He.ga K "minus"))
  F_minus : FunD K "minus" "minus" (defArgs s_minus) (defBody s_minus) (defScope s_minus) [] [] (He.ga K "minus") (fdAt K (He.ga K "minus"))
  g_times : mg "times" = some (.ref (He.ga K "times"))
  F_times : FunD K "times" "times" (defArgs s_times) (defBody s_times) (defScope s_times) [] [] (He.ga K "times") (fdAt K (He.ga K "times"))
  g__law_two_right : mg "_law_two_right" = some (.ref (He.ga K "_law_two_right"))
  F__law_two_right : FunD K "_law_two_right" "_law_two_right" (defArgs s__law_two_right) (defBody s__law_two_right) (defScope s__law_two_right) [] [] (He.ga K "_law_two_right") (fdAt K (He.ga K "_law_two_right"))
  g__law_near_right : mg "_law_near_right" = some (.ref (He.ga K "_law_near_right"))
  F__law_near_right : FunD K "_law_near_right" "_law_near_right" (defArgs s__law_near_right) (defBody s__law_near_right) (defScope s__law_near_right) [] [] (He.ga K "_law_near_right") (fdAt K (He.ga K "_law_near_right"))
  g__law_refused : mg "_law_refused" = some (.ref (He.ga K "_law_refused"))
  F__law_refused : FunD K "_law_refused" "_law_refused" (defArgs s__law_refused) (defBody s__law_refused) (defScope s__law_refused) [] [] (He.ga K "_law_refused") (fdAt K (He.ga K "_law_refused"))
  g_law : mg "law" = some (.ref (He.ga K "law"))
  F_law : FunD K "law" "law" (defArgs s_law) (defBody s_law) (defScope s_law) [] [] (He.ga K "law") (fdAt K (He.ga K "law"))
  n_list : mg "list" = none
  n_abs : mg "abs" = none
  n_int : mg "int" = none
  n_len : mg "len" = none
  n_max : mg "max" = none
  n_tuple : mg "tuple" = none
  n_range : mg "range" = none
  g_BadRatio : mg "BadRatio" = some (.ref (He.ga K "BadRatio"))
  X_BadRatio : XC P K mg (He.ga K "BadRatio") (He.ma K (He.ga K "BadRatio") "__init__") (fdAt K (He.ma K (He.ga K "BadRatio") "__init__")) (defArgs sx_BadRatio) (defBody sx_BadRatio) (defScope sx_BadRatio)
  NX_BadRatio : PySem.W.findIn K (.ref (He.ga K "BadRatio")) "bottom" = some none
  n_isinstance : mg "isinstance" = none
  n_bool : mg "bool" = none
  M_BadRatio_BadRatio : PySem.W.exmOne K (.ref (He.ga K "BadRatio")) (.ref (He.ga K "BadRatio")) = some true
  XF_BadRatio : XfC K (He.ga K "BadRatio")
  NF_BadRatio_bottom : PySem.W.findIn K (.ref (He.ga K "BadRatio")) "bottom" = some none
section
variable {P : Program} {w : World} {K : PySem.W.Frag} {mg : Str → Option Value} {base : Heap}
theorem okx_BadRatio (T : Fcs P K mg) : FnOk P w K mg base CX0 1 (He.ma K (He.ga K "BadRatio") "__init__") (fdAt K (He.ma K (He.ga K "BadRatio") "__init__")) ["self", "bottom"] (spX1 (He.ga K "BadRatio") "bottom") := xfn1 T.X_BadRatio (fun env => ⟨_, rfl⟩) rfl rfl rfl rfl rfl rfl rfl (by decide +kernel) rfl rfl T.NX_BadRatio (by decide) (by decide) (fun _ => rfl)
theorem bx_BadRatio (T : Fcs P K mg) : Binds K (fdAt K (He.ma K (He.ga K "BadRatio") "__init__")) ["self", "bottom"] [] := T.X_BadRatio.binds fun _ _ _ _ _ _ _ _ us hl => match us, hl with | [_, _], _ => rfl
theorem xm_BadRatio_ok (T : Fcs P K mg) : ∀ c b, xm_BadRatio c = some b → PySem.W.exmOne K (.ref (He.ga K c)) (.ref (He.ga K "BadRatio")) = some b := fun c b h => by
  unfold xm_BadRatio at h
  split at h
  · rename_i e; subst e; rw [T.M_BadRatio_BadRatio]; exact h
  cases h
theorem b_divisor_0 (T : Fcs P K mg) : BindsD K (fdAt K (He.ga K "divisor")) ["numbers"] [] := .no (T.F_divisor.bindsN fun _ _ _ _ _ _ us hl => match us, hl with | [_], _ => rfl)
theorem b__law_divisor_0 (T : Fcs P K mg) : BindsD K (fdAt K (He.ga K "_law_divisor")) ["_law_numbers"] [] := .no (T.F__law_divisor.bindsN fun _ _ _ _ _ _ us hl => match us, hl with | [_], _ => rfl)
theorem b_lowest_0 (T : Fcs P K mg) : BindsD K (fdAt K (He.ga K "lowest")) ["numbers"] [] := .no (T.F_lowest.bindsN fun _ _ _ _ _ _ us hl => match us, hl with | [_], _ => rfl)
theorem b__law_least_terms_0 (T : Fcs P K mg) : BindsD K (fdAt K (He.ga K "_law_least_terms")) ["_law_numbers"] [] := .no (T.F__law_least_terms.bindsN fun _ _ _ _ _ _ us hl => match us, hl with | [_], _ => rfl)
theorem b__law_take_0 (T : Fcs P K mg) : BindsD K (fdAt K (He.ga K "_law_take")) ["_law_pool_here", "_law_many"] [] := .no (T.F__law_take.bindsN fun _ _ _ _ _ _ us hl => match us, hl with | [_, _], _ => rfl)
theorem b__law_ratio_0 (T : Fcs P K mg) : BindsD K (fdAt K (He.ga K "_law_ratio")) ["_law_up", "_law_down"] [] := .no (T.F__law_ratio.bindsN fun _ _ _ _ _ _ us hl => match us, hl with | [_, _], _ => rfl)
theorem b__law_is_number_0 (T : Fcs P K mg) : BindsD K (fdAt K (He.ga K "_law_is_number")) ["_law_thing"] [] := .no (T.F__law_is_number.bindsN fun _ _ _ _ _ _ us hl => match us, hl with | [_], _ => rfl)
theorem b_ratio_0 (T : Fcs P K mg) : BindsD K (fdAt K (He.ga K "ratio")) ["top", "bottom"] [] := T.F_ratio.binds1 2 1 (fun z => nomatch z) rfl fun _ _ _ _ _ _ _ us its h1 h2 => match us, its, h1, h2 with | [_, _], [_], _, _ => ⟨_, rfl, rfl⟩
theorem b_compare_0 (T : Fcs P K mg) : BindsD K (fdAt K (He.ga K "compare")) ["one", "other"] [] := .no (T.F_compare.bindsN fun _ _ _ _ _ _ us hl => match us, hl with | [_, _], _ => rfl)
theorem b_times_0 (T : Fcs P K mg) : BindsD K (fdAt K (He.ga K "times")) ["one", "other"] [] := .no (T.F_times.bindsN fun _ _ _ _ _ _ us hl => match us, hl with | [_, _], _ => rfl)
theorem b__law_in_terms_0 (T : Fcs P K mg) : BindsD K (fdAt K (He.ga K "_law_in_terms")) ["_law_one", "_law_up", "_law_down"] [] := .no (T.F__law_in_terms.bindsN fun _ _ _ _ _ _ us hl => match us, hl with | [_, _, _], _ => rfl)
theorem b_minus_0 (T : Fcs P K mg) : BindsD K (fdAt K (He.ga K "minus")) ["one", "other"] [] := .no (T.F_minus.bindsN fun _ _ _ _ _ _ us hl => match us, hl with | [_, _], _ => rfl)
theorem b_plus_0 (T : Fcs P K mg) : BindsD K (fdAt K (He.ga K "plus")) ["one", "other"] [] := .no (T.F_plus.bindsN fun _ _ _ _ _ _ us hl => match us, hl with | [_, _], _ => rfl)
theorem b__law_two_right_0 (T : Fcs P K mg) : BindsD K (fdAt K (He.ga K "_law_two_right")) ["_law_one", "_law_other"] [] := .no (T.F__law_two_right.bindsN fun _ _ _ _ _ _ us hl => match us, hl with | [_, _], _ => rfl)
theorem b__law_lowest_right_0 (T : Fcs P K mg) : BindsD K (fdAt K (He.ga K "_law_lowest_right")) ["_law_pool_here"] [] := .no (T.F__law_lowest_right.bindsN fun _ _ _ _ _ _ us hl => match us, hl with | [_], _ => rfl)
theorem b__law_near_right_0 (T : Fcs P K mg) : BindsD K (fdAt K (He.ga K "_law_near_right")) ["_law_one"] [] := .no (T.F__law_near_right.bindsN fun _ _ _ _ _ _ us hl => match us, hl with | [_], _ => rfl)
theorem b__law_refused_0 (T : Fcs P K mg) : BindsD K (fdAt K (He.ga K "_law_refused")) ["_law_up"] [] := .no (T.F__law_refused.bindsN fun _ _ _ _ _ _ us hl => match us, hl with | [_], _ => rfl)
theorem b_ratio_1 (T : Fcs P K mg) : BindsD K (fdAt K (He.ga K "ratio")) ["top", "bottom"] [.int 1] := T.F_ratio.binds1 1 0 (fun z => nomatch z) rfl fun _ _ _ _ _ _ _ us its h1 h2 => match us, its, h1, h2 with | [_], [_], _, _ => ⟨_, rfl, rfl⟩
theorem b__law_integer_0 (T : Fcs P K mg) : BindsD K (fdAt K (He.ga K "_law_integer")) ["_law_pool_here"] [] := .no (T.F__law_integer.bindsN fun _ _ _ _ _ _ us hl => match us, hl with | [_], _ => rfl)
theorem b__law_pool_0 (T : Fcs P K mg) : BindsD K (fdAt K (He.ga K "_law_pool")) ["_law_script"] [] := .no (T.F__law_pool.bindsN fun _ _ _ _ _ _ us hl => match us, hl with | [_], _ => rfl)
theorem bk_ratio_0 (T : Fcs P K mg) : BindsK K (fdAt K (He.ga K "ratio")) ["top", "bottom"] ["bottom", "top"] [1, 0] := bindsK1 T.F_ratio (fun z => nomatch z) fun _ _ _ _ _ _ _ ws its h1 h2 => match ws, its, h1, h2 with | [_, _], [_], _, _ => ⟨_, rfl, rfl⟩
theorem sc__law_pool : FnScope ["_law_script"] ["_law_script"] (defScope s__law_pool) := ⟨rfl, rfl, rfl, by decide +kernel, rfl, by decide +kernel, by decide +kernel⟩
theorem ok__law_pool (T : Fcs P K mg) : FnOk P w K mg base (L2N.CX P w) 1 (He.ga K "_law_pool") (fdAt K (He.ga K "_law_pool")) ["_law_script"] (SpA K m__law_pool) :=
  fn_ok (k := 0) T.F__law_pool sc__law_pool leadsP fun cdv A outer s H E C =>
    axb_one (axs_retF (axf_lst (axa_cons (ax_int) (axa_cons (ax_int) (axa_cons (ax_listScr 0 T.n_list) (axa_nil))))))
theorem sc_divisor : FnScope ["numbers", "found", "number", "one", "other"] ["numbers"] (defScope s_divisor) := ⟨rfl, rfl, rfl, by decide +kernel, rfl, by decide +kernel, by decide +kernel⟩
theorem ok_divisor (T : Fcs P K mg) : FnOk P w K mg base (L2N.CX P w) 1 (He.ga K "divisor") (fdAt K (He.ga K "divisor")) ["numbers"] (SpA K m_divisor) :=
  fn_ok (k := 0) T.F_divisor sc_divisor leadsP fun cdv A outer s H E C =>
    axb_cons (axs_set (i := 1) C.nd (ax_int))
    (axb_cons (axs_for C (axi_seq (ax_var 0)) (axg_name (i := 2) C.toCxE.nd) (axb_cons (axs_par (i := 3) (j := 4) C.calm C.nd (axa_cons (ax_callB cb_abs T.n_abs rfl (axa_cons (ax_var 2) (axa_nil))) (axa_cons (ax_var 1) (axa_nil))))
    (axb_cons (axs_while C (axt_val (ax_var 4)) (axb_one (axs_par (i := 3) (j := 4) C.calm C.nd (axa_cons (ax_var 4) (axa_cons (ax_op op_Mod (ax_var 3) (ax_var 4)) (axa_nil))))))
    (axb_one (axs_set (i := 1) C.nd (ax_var 3))))))
    (axb_one (axs_ret (ax_var 1))))
theorem sc_lowest : FnScope ["numbers", "part", "number"] ["numbers"] (defScope s_lowest) := ⟨rfl, rfl, rfl, by decide +kernel, rfl, by decide +kernel, by decide +kernel⟩
theorem ok_lowest (T : Fcs P K mg) : FnOk P w K mg base (L2N.CX P w) 2 (He.ga K "lowest") (fdAt K (He.ga K "lowest")) ["numbers"] (SpA K m_lowest) :=
  fn_ok (k := 1) T.F_lowest sc_lowest leadsP fun cdv A outer s H E C =>
    axb_cons (axs_set (i := 1) C.nd (ax_call C.toCxE (ok_divisor T) T.g_divisor T.F_divisor.kp (b_divisor_0 T) (fun _ => .nil) (axa_cons (ax_var 0) (axa_nil)) (by decide)))
    (axb_one (axs_retF (axf_if (axt_val (ax_var 1)) (axf_lc [("number", 2)] C.toCxE (blk_of rfl) (axi_seq (ax_var 0)) (fun s H _ _ fp => axgc_name (i := 2) (CxE.blk C.toCxE s H _ _ fp).nd) (fun s H _ _ fp => axts_nil) (fun s H _ _ fp => ax_op op_Fdiv (ax_var 2) (ax_var 1))) (axf_list T.n_list (ax_var 0)))))
theorem sc__law_take : FnScope ["_law_pool_here", "_law_many", "_law_digit", "_law_at", "_law_drawn", "_law_mixed"] ["_law_pool_here", "_law_many"] (defScope s__law_take) := ⟨rfl, rfl, rfl, by decide +kernel, rfl, by decide +kernel, by decide +kernel⟩
theorem ok__law_take (T : Fcs P K mg) : FnOk P w K mg base (L2N.CX P w) 1 (He.ga K "_law_take") (fdAt K (He.ga K "_law_take")) ["_law_pool_here", "_law_many"] (SpA K m__law_take) :=
  FnOk.weak (m := fnP 2 6 aTake) (fn_ok (k := 0) T.F__law_take sc__law_take leadsP fun cdv A outer s H E C =>
    axb_cons (axs_if (axt_cmp (op_Eq C.toCxE) (ax_poolIx (c := 1) 0) (ax_int)) (axb_cons (axs_set (i := 3) C.nd (ax_poolIx (c := 0) 0))
    (axb_cons (axs_poolSet (c := 0) 0 (ax_op op_Add (ax_var 3) (ax_int)))
    (axb_cons (axs_set (i := 4) C.nd (ax_ix op_Ix (ax_op op_Add (ax_poolIx (c := 2) 0) (ax_lst (axa_cons (ax_int) (axa_nil)))) (ax_op op_Mod (ax_callTy cb_int T.n_int rfl (axa_cons (ax_var 3) (axa_nil))) (ax_callB (cb_max2 C.toCxE) T.n_max rfl (axa_cons (ax_int) (axa_cons (ax_callB cb_len T.n_len rfl (axa_cons (ax_poolIx (c := 2) 0) (axa_nil))) (axa_nil)))))))
    (axb_cons (axs_set (i := 5) C.nd (ax_op op_Mod (ax_op op_Pow (ax_op op_Add (ax_op op_Add (ax_op op_Mod (ax_callTy cb_int T.n_int rfl (axa_cons (ax_var 4) (axa_nil))) (ax_int)) (ax_op op_Mul (ax_int) (ax_var 3))) (ax_int)) (ax_int)) (ax_int)))
    (axb_cons (axs_set (i := 5) C.nd (ax_op op_Mod (ax_op op_Pow (ax_op op_Add (ax_op op_Add (ax_var 5) (ax_op op_Mul (ax_int) (ax_var 3))) (ax_int)) (ax_int)) (ax_int)))
    (axb_cons (axs_if (axt_cmp op_Lt (ax_var 4) (ax_op op_Pow (ax_int) (ax_int))) (axb_one (axs_ret (ax_op op_Mod (ax_op op_Fdiv (ax_var 5) (ax_int)) (ax_var 1)))) (axb_nil))
    (axb_one (axs_poolSet (c := 1) 0 (ax_var 4))))))))) (axb_nil))
    (axb_cons (axs_set (i := 2) C.nd (ax_op op_Mod (ax_callTy cb_int T.n_int rfl (axa_cons (ax_poolIx (c := 1) 0) (axa_nil))) (ax_var 1)))
    (axb_cons (axs_poolSet (c := 1) 0 (ax_op op_Fdiv (ax_poolIx (c := 1) 0) (ax_var 1)))
    (axb_one (axs_ret (ax_var 2)))))) take_ok
theorem sc__law_divisor : FnScope ["_law_numbers", "_law_found", "_law_number", "_law_one", "_law_other"] ["_law_numbers"] (defScope s__law_divisor) := ⟨rfl, rfl, rfl, by decide +kernel, rfl, by decide +kernel, by decide +kernel⟩
theorem ok__law_divisor (T : Fcs P K mg) : FnOk P w K mg base (L2N.CX P w) 1 (He.ga K "_law_divisor") (fdAt K (He.ga K "_law_divisor")) ["_law_numbers"] (SpA K m__law_divisor) :=
  fn_ok (k := 0) T.F__law_divisor sc__law_divisor leadsP fun cdv A outer s H E C =>
    axb_cons (axs_set (i := 1) C.nd (ax_int))
    (axb_cons (axs_for C (axi_seq (ax_var 0)) (axg_name (i := 2) C.toCxE.nd) (axb_cons (axs_set (i := 3) C.nd (ax_callB cb_abs T.n_abs rfl (axa_cons (ax_var 2) (axa_nil))))
    (axb_cons (axs_set (i := 4) C.nd (ax_var 1))
    (axb_cons (axs_while C (axt_cmp (op_Ne C.toCxE) (ax_var 4) (ax_int)) (axb_one (axs_par (i := 3) (j := 4) C.calm C.nd (axa_cons (ax_var 4) (axa_cons (ax_op op_Mod (ax_callTy cb_int T.n_int rfl (axa_cons (ax_var 3) (axa_nil))) (ax_var 4)) (axa_nil))))))
    (axb_one (axs_set (i := 1) C.nd (ax_var 3)))))))
    (axb_one (axs_ret (ax_var 1))))
theorem sc__law_least_terms : FnScope ["_law_numbers", "_law_part", "_law_number"] ["_law_numbers"] (defScope s__law_least_terms) := ⟨rfl, rfl, rfl, by decide +kernel, rfl, by decide +kernel, by decide +kernel⟩
theorem ok__law_least_terms (T : Fcs P K mg) : FnOk P w K mg base (L2N.CX P w) 2 (He.ga K "_law_least_terms") (fdAt K (He.ga K "_law_least_terms")) ["_law_numbers"] (SpA K m__law_least_terms) :=
  fn_ok (k := 1) T.F__law_least_terms sc__law_least_terms leadsP fun cdv A outer s H E C =>
    axb_cons (axs_set (i := 1) C.nd (ax_call C.toCxE (ok__law_divisor T) T.g__law_divisor T.F__law_divisor.kp (b__law_divisor_0 T) (fun _ => .nil) (axa_cons (ax_var 0) (axa_nil)) (by decide)))
    (axb_cons (axs_if (axt_cmp (op_Eq C.toCxE) (ax_var 1) (ax_int)) (axb_one (axs_retF (axf_list T.n_list (ax_var 0)))) (axb_nil))
    (axb_one (axs_retF (axf_lc [("_law_number", 2)] C.toCxE (blk_of rfl) (axi_seq (ax_var 0)) (fun s H _ _ fp => axgc_name (i := 2) (CxE.blk C.toCxE s H _ _ fp).nd) (fun s H _ _ fp => axts_nil) (fun s H _ _ fp => ax_op op_Fdiv (ax_var 2) (ax_var 1))))))
theorem sc__law_lowest_right : FnScope ["_law_pool_here", "_law_factor", "_law_numbers", "_law_saved", "_law_says", "_law_k"] ["_law_pool_here"] (defScope s__law_lowest_right) := ⟨rfl, rfl, rfl, by decide +kernel, rfl, by decide +kernel, by decide +kernel⟩
theorem ok__law_lowest_right (T : Fcs P K mg) : FnOk P w K mg base (L2N.CX P w) 3 (He.ga K "_law_lowest_right") (fdAt K (He.ga K "_law_lowest_right")) ["_law_pool_here"] (SpA K m__law_lowest_right) :=
  fn_ok (k := 2) T.F__law_lowest_right sc__law_lowest_right leadsC fun cdv A outer s H E C =>
    axb_cons (axs_set (i := 1) C.nd (ax_op op_Mul (ax_call C.toCxE (ok__law_take T) T.g__law_take T.F__law_take.kp (b__law_take_0 T) (fun _ => .nil) (axa_cons (ax_var 0) (axa_cons (ax_int) (axa_nil))) (by decide)) (ax_ix op_Ix (ax_lst (axa_cons (ax_int) (axa_cons (ax_op op_Pow (ax_int) (ax_int)) (axa_nil)))) (ax_callTy cb_int T.n_int rfl (axa_cons (ax_cmp (op_Eq C.toCxE) (ax_call C.toCxE (ok__law_take T) T.g__law_take T.F__law_take.kp (b__law_take_0 T) (fun _ => .nil) (axa_cons (ax_var 0) (axa_cons (ax_int) (axa_nil))) (by decide)) (ax_int)) (axa_nil))))))
    (axb_cons ((axs_setLc (i := 2) [("_law_k", 5)] C.toCxE (blk_of rfl) (axi_rng1 T.n_range (ax_call C.toCxE (ok__law_take T) T.g__law_take T.F__law_take.kp (b__law_take_0 T) (fun _ => .nil) (axa_cons (ax_var 0) (axa_cons (ax_int) (axa_nil))) (by decide))) (fun s H _ _ fp => axgc_name (i := 5) (CxE.blk C.toCxE s H _ _ fp).nd) (fun s H _ _ fp => axts_nil) (fun s H _ _ fp => ax_op op_Mul (ax_var 1) (ax_op op_Sub (ax_call (CxE.blk C.toCxE s H _ _ fp) (ok__law_take T) T.g__law_take T.F__law_take.kp (b__law_take_0 T) (fun _ => .nil) (axa_cons (ax_var 0) (axa_cons (ax_int) (axa_nil))) (by decide)) (ax_int)))).1)
    (axb_cons (axs_set (i := 3) C.nd (ax_callTy cb_list T.n_list rfl (axa_cons (ax_var 2) (axa_nil))))
    (axb_cons (axs_cell (i := 4) C.nd (axf_call C.toCxE (ok_lowest T) T.g_lowest T.F_lowest.kp (b_lowest_0 T) (fun _ => .nil) (axa_cons (ax_var 2) (axa_nil)) (by decide)))
    (axb_cons (axs_if (axt_w (axw_or (axt_cmp (op_Ne C.toCxE) (ax_var 4) (ax_call C.toCxE (ok__law_least_terms T) T.g__law_least_terms T.F__law_least_terms.kp (b__law_least_terms_0 T) (fun _ => .nil) (axa_cons (ax_var 3) (axa_nil)) (by decide))) (axw_or1 (axt_cmp (op_Ne C.toCxE) (ax_var 2) (ax_var 3))))) (axb_one (axs_ret (ax_bl))) (axb_nil))
    (axb_cons (axs_expr (ax_app (ax_var 4) (ax_int)))
    (axb_one (axs_ret (ax_and (ax_cmp (op_Eq C.toCxE) (ax_var 2) (ax_var 3)) (ax_one (ax_cmp (op_Eq C.toCxE) (ax_call C.toCxE (ok_lowest T) T.g_lowest T.F_lowest.kp (b_lowest_0 T) (fun _ => .nil) (axa_cons (ax_callTy cb_tuple T.n_tuple rfl (axa_cons (ax_var 2) (axa_nil))) (axa_nil)) (by decide)) (ax_call C.toCxE (ok__law_least_terms T) T.g__law_least_terms T.F__law_least_terms.kp (b__law_least_terms_0 T) (fun _ => .nil) (axa_cons (ax_var 3) (axa_nil)) (by decide))))))))))))
theorem sc_ratio : FnScope ["top", "bottom", "part"] ["top", "bottom"] (defScope s_ratio) := ⟨rfl, rfl, rfl, by decide +kernel, rfl, by decide +kernel, by decide +kernel⟩
theorem ok_ratio (T : Fcs P K mg) : FnOk P w K mg base (L2N.CX P w) 3 (He.ga K "ratio") (fdAt K (He.ga K "ratio")) ["top", "bottom"] (SpA K m_ratio) :=
  fn_ok (k := 2) T.F_ratio sc_ratio leadsP fun cdv A outer s H E C =>
    axb_cons (axs_if (axt_cmp (op_Eq C.toCxE) (ax_var 1) (ax_int)) (axb_one (axs_raise1 (k := 1) (C.mono (by decide)) T.X_BadRatio.ox T.X_BadRatio.ini T.X_BadRatio.tyf (okx_BadRatio T) (bx_BadRatio T) T.g_BadRatio (ax_var 1))) (axb_nil))
    (axb_cons (axs_set (i := 2) C.nd (ax_call C.toCxE (ok_divisor T) T.g_divisor T.F_divisor.kp (b_divisor_0 T) (fun _ => .nil) (axa_cons (ax_lst (axa_cons (ax_var 0) (axa_cons (ax_var 1) (axa_nil)))) (axa_nil)) (by decide)))
    (axb_cons (axs_if (axt_cmp op_Lt (ax_var 1) (ax_int)) (axb_one (axs_set (i := 2) C.nd (ax_un op_Neg (ax_var 2)))) (axb_nil))
    (axb_one (axs_ret (ax_tup (axa_cons (ax_op op_Fdiv (ax_var 0) (ax_var 2)) (axa_cons (ax_op op_Fdiv (ax_var 1) (ax_var 2)) (axa_nil))))))))
theorem sc__law_integer : FnScope ["_law_pool_here", "_law_size"] ["_law_pool_here"] (defScope s__law_integer) := ⟨rfl, rfl, rfl, by decide +kernel, rfl, by decide +kernel, by decide +kernel⟩
theorem ok__law_integer (T : Fcs P K mg) : FnOk P w K mg base (L2N.CX P w) 2 (He.ga K "_law_integer") (fdAt K (He.ga K "_law_integer")) ["_law_pool_here"] (SpA K m__law_integer) :=
  fn_ok (k := 1) T.F__law_integer sc__law_integer leadsP fun cdv A outer s H E C =>
    axb_cons (axs_set (i := 1) C.nd (ax_ix op_Ix (ax_lst (axa_cons (ax_int) (axa_cons (ax_int) (axa_cons (ax_int) (axa_cons (ax_op op_Pow (ax_int) (ax_int)) (axa_nil)))))) (ax_call C.toCxE (ok__law_take T) T.g__law_take T.F__law_take.kp (b__law_take_0 T) (fun _ => .nil) (axa_cons (ax_var 0) (axa_cons (ax_int) (axa_nil))) (by decide))))
    (axb_one (axs_ret (ax_op op_Sub (ax_call C.toCxE (ok__law_take T) T.g__law_take T.F__law_take.kp (b__law_take_0 T) (fun _ => .nil) (axa_cons (ax_var 0) (axa_cons (ax_op op_Add (ax_op op_Mul (ax_int) (ax_var 1)) (ax_int)) (axa_nil))) (by decide)) (ax_var 1))))
theorem sc_compare : FnScope ["one", "other", "left", "right"] ["one", "other"] (defScope s_compare) := ⟨rfl, rfl, rfl, by decide +kernel, rfl, by decide +kernel, by decide +kernel⟩
theorem ok_compare (T : Fcs P K mg) : FnOk P w K mg base (L2N.CX P w) 1 (He.ga K "compare") (fdAt K (He.ga K "compare")) ["one", "other"] (SpA K m_compare) :=
  fn_ok (k := 0) T.F_compare sc_compare leadsP fun cdv A outer s H E C =>
    axb_cons (axs_par (i := 2) (j := 3) C.calm C.nd (axa_cons (ax_op op_Mul (ax_ix op_Ix (ax_var 0) (ax_int)) (ax_ix op_Ix (ax_var 1) (ax_int))) (axa_cons (ax_op op_Mul (ax_ix op_Ix (ax_var 1) (ax_int)) (ax_ix op_Ix (ax_var 0) (ax_int))) (axa_nil))))
    (axb_one (axs_ret (ax_op op_Sub (ax_callTy cb_int T.n_int rfl (axa_cons (ax_cmp op_Gt (ax_var 2) (ax_var 3)) (axa_nil))) (ax_callTy cb_int T.n_int rfl (axa_cons (ax_cmp op_Lt (ax_var 2) (ax_var 3)) (axa_nil))))))
theorem sc__law_ratio : FnScope ["_law_up", "_law_down", "_law_part"] ["_law_up", "_law_down"] (defScope s__law_ratio) := ⟨rfl, rfl, rfl, by decide +kernel, rfl, by decide +kernel, by decide +kernel⟩
theorem ok__law_ratio (T : Fcs P K mg) : FnOk P w K mg base (L2N.CX P w) 2 (He.ga K "_law_ratio") (fdAt K (He.ga K "_law_ratio")) ["_law_up", "_law_down"] (SpA K m__law_ratio) :=
  fn_ok (k := 1) T.F__law_ratio sc__law_ratio leadsP fun cdv A outer s H E C =>
    axb_cons (axs_set (i := 2) C.nd (ax_call C.toCxE (ok__law_divisor T) T.g__law_divisor T.F__law_divisor.kp (b__law_divisor_0 T) (fun _ => .nil) (axa_cons (ax_lst (axa_cons (ax_var 0) (axa_cons (ax_var 1) (axa_nil)))) (axa_nil)) (by decide)))
    (axb_cons (axs_if (axt_cmp op_Lt (ax_var 1) (ax_int)) (axb_one (axs_set (i := 2) C.nd (ax_un op_Neg (ax_var 2)))) (axb_nil))
    (axb_one (axs_ret (ax_tup (axa_cons (ax_op op_Fdiv (ax_var 0) (ax_var 2)) (axa_cons (ax_op op_Fdiv (ax_var 1) (ax_var 2)) (axa_nil)))))))
theorem sc__law_is_number : FnScope ["_law_thing"] ["_law_thing"] (defScope s__law_is_number) := ⟨rfl, rfl, rfl, by decide +kernel, rfl, by decide +kernel, by decide +kernel⟩
theorem ok__law_is_number (T : Fcs P K mg) : FnOk P w K mg base (L2N.CX P w) 1 (He.ga K "_law_is_number") (fdAt K (He.ga K "_law_is_number")) ["_law_thing"] (SpA K m__law_is_number) :=
  fn_ok (k := 0) T.F__law_is_number sc__law_is_number leadsP fun cdv A outer s H E C =>
    axb_one (axs_ret (ax_and (ax_callB cb_isi T.n_isinstance rfl (axa_cons (ax_var 0) (axa_cons (ax_ty T.n_int rfl) (axa_nil)))) (ax_one (ax_not (ax_callB cb_isi T.n_isinstance rfl (axa_cons (ax_var 0) (axa_cons (ax_ty T.n_bool rfl) (axa_nil))))))))
theorem okh__law_is_number (T : Fcs P K mg) : L2H.FnH P w K mg base (L2N.CX P w) 1 (He.ga K "_law_is_number") (fdAt K (He.ga K "_law_is_number")) ["_law_thing"] (SpA K m__law_is_number) :=
  fn_okH (k := 0) T.F__law_is_number sc__law_is_number leadsP fun cdv A outer s H E p =>
    axb_one (axs_ret (ax_and (ax_callB cb_isi T.n_isinstance rfl (axa_cons (ax_var 0) (axa_cons (ax_ty T.n_int rfl) (axa_nil)))) (ax_one (ax_not (ax_callB cb_isi T.n_isinstance rfl (axa_cons (ax_var 0) (axa_cons (ax_ty T.n_bool rfl) (axa_nil))))))))
theorem sc__law_in_terms : FnScope ["_law_one", "_law_up", "_law_down"] ["_law_one", "_law_up", "_law_down"] (defScope s__law_in_terms) := ⟨rfl, rfl, rfl, by decide +kernel, rfl, by decide +kernel, by decide +kernel⟩
theorem ok__law_in_terms (T : Fcs P K mg) : FnOk P w K mg base (L2N.CX P w) 3 (He.ga K "_law_in_terms") (fdAt K (He.ga K "_law_in_terms")) ["_law_one", "_law_up", "_law_down"] (SpA K m__law_in_terms) :=
  fn_ok (k := 2) T.F__law_in_terms sc__law_in_terms leadsP fun cdv A outer s H E C =>
    axb_cons (axs_if (axt_w (axw_or (axt_not (axt_val (ax_callB cb_isi T.n_isinstance rfl (axa_cons (ax_var 0) (axa_cons (ax_ty T.n_tuple rfl) (axa_nil)))))) (axw_or (axt_cmp (op_Ne C.toCxE) (ax_callB cb_len T.n_len rfl (axa_cons (ax_var 0) (axa_nil))) (ax_int)) (axw_or (axt_not (axt_val (ax_call C.toCxE (ok__law_is_number T) T.g__law_is_number T.F__law_is_number.kp (b__law_is_number_0 T) (fun _ => .nil) (axa_cons (ax_ix op_Ix (ax_var 0) (ax_int)) (axa_nil)) (by decide)))) (axw_or1 (axt_not (axt_val (ax_call C.toCxE (ok__law_is_number T) T.g__law_is_number T.F__law_is_number.kp (b__law_is_number_0 T) (fun _ => .nil) (axa_cons (ax_ix op_Ix (ax_var 0) (ax_int)) (axa_nil)) (by decide))))))))) (axb_one (axs_ret (ax_bl))) (axb_nil))
    (axb_one (axs_ret (ax_cmp (op_Eq C.toCxE) (ax_var 0) (ax_call C.toCxE (ok__law_ratio T) T.g__law_ratio T.F__law_ratio.kp (b__law_ratio_0 T) (fun _ => .nil) (axa_cons (ax_var 1) (axa_cons (ax_var 2) (axa_nil))) (by decide)))))
theorem sc_plus : FnScope ["one", "other"] ["one", "other"] (defScope s_plus) := ⟨rfl, rfl, rfl, by decide +kernel, rfl, by decide +kernel, by decide +kernel⟩
theorem ok_plus (T : Fcs P K mg) : FnOk P w K mg base (L2N.CX P w) 4 (He.ga K "plus") (fdAt K (He.ga K "plus")) ["one", "other"] (SpA K m_plus) :=
  fn_ok (k := 3) T.F_plus sc_plus leadsP fun cdv A outer s H E C =>
    axb_one (axs_ret (ax_call C.toCxE (ok_ratio T) T.g_ratio T.F_ratio.kp (b_ratio_0 T) (fun _ => .nil) (axa_cons (ax_op op_Add (ax_op op_Mul (ax_ix op_Ix (ax_var 0) (ax_int)) (ax_ix op_Ix (ax_var 1) (ax_int))) (ax_op op_Mul (ax_ix op_Ix (ax_var 1) (ax_int)) (ax_ix op_Ix (ax_var 0) (ax_int)))) (axa_cons (ax_op op_Mul (ax_ix op_Ix (ax_var 0) (ax_int)) (ax_ix op_Ix (ax_var 1) (ax_int))) (axa_nil))) (by decide)))
theorem sc_minus : FnScope ["one", "other"] ["one", "other"] (defScope s_minus) := ⟨rfl, rfl, rfl, by decide +kernel, rfl, by decide +kernel, by decide +kernel⟩
theorem ok_minus (T : Fcs P K mg) : FnOk P w K mg base (L2N.CX P w) 4 (He.ga K "minus") (fdAt K (He.ga K "minus")) ["one", "other"] (SpA K m_minus) :=
  fn_ok (k := 3) T.F_minus sc_minus leadsP fun cdv A outer s H E C =>
    axb_one (axs_ret (ax_call C.toCxE (ok_ratio T) T.g_ratio T.F_ratio.kp (b_ratio_0 T) (fun _ => .nil) (axa_cons (ax_op op_Sub (ax_op op_Mul (ax_ix op_Ix (ax_var 0) (ax_int)) (ax_ix op_Ix (ax_var 1) (ax_int))) (ax_op op_Mul (ax_ix op_Ix (ax_var 1) (ax_int)) (ax_ix op_Ix (ax_var 0) (ax_int)))) (axa_cons (ax_op op_Mul (ax_ix op_Ix (ax_var 0) (ax_int)) (ax_ix op_Ix (ax_var 1) (ax_int))) (axa_nil))) (by decide)))
theorem sc_times : FnScope ["one", "other"] ["one", "other"] (defScope s_times) := ⟨rfl, rfl, rfl, by decide +kernel, rfl, by decide +kernel, by decide +kernel⟩
theorem ok_times (T : Fcs P K mg) : FnOk P w K mg base (L2N.CX P w) 4 (He.ga K "times") (fdAt K (He.ga K "times")) ["one", "other"] (SpA K m_times) :=
  fn_ok (k := 3) T.F_times sc_times leadsP fun cdv A outer s H E C =>
    axb_one (axs_ret (ax_call C.toCxE (ok_ratio T) T.g_ratio T.F_ratio.kp (b_ratio_0 T) (fun _ => .nil) (axa_cons (ax_op op_Mul (ax_ix op_Ix (ax_var 0) (ax_int)) (ax_ix op_Ix (ax_var 1) (ax_int))) (axa_cons (ax_op op_Mul (ax_ix op_Ix (ax_var 0) (ax_int)) (ax_ix op_Ix (ax_var 1) (ax_int))) (axa_nil))) (by decide)))
theorem sc__law_two_right : FnScope ["_law_one", "_law_other", "_law_across", "_law_back", "_law_down", "_law_says"] ["_law_one", "_law_other"] (defScope s__law_two_right) := ⟨rfl, rfl, rfl, by decide +kernel, rfl, by decide +kernel, by decide +kernel⟩
theorem ok__law_two_right (T : Fcs P K mg) : FnOk P w K mg base (L2N.CX P w) 5 (He.ga K "_law_two_right") (fdAt K (He.ga K "_law_two_right")) ["_law_one", "_law_other"] (SpA K m__law_two_right) :=
  fn_ok (k := 4) T.F__law_two_right sc__law_two_right leadsP fun cdv A outer s H E C =>
    axb_cons (axs_set (i := 2) C.nd (ax_op op_Mul (ax_ix op_Ix (ax_var 0) (ax_int)) (ax_ix op_Ix (ax_var 1) (ax_int))))
    (axb_cons (axs_set (i := 3) C.nd (ax_op op_Mul (ax_ix op_Ix (ax_var 1) (ax_int)) (ax_ix op_Ix (ax_var 0) (ax_int))))
    (axb_cons (axs_set (i := 4) C.nd (ax_op op_Mul (ax_ix op_Ix (ax_var 0) (ax_int)) (ax_ix op_Ix (ax_var 1) (ax_int))))
    (axb_cons (axs_if (axt_not (axt_val (ax_call C.toCxE (ok__law_in_terms T) T.g__law_in_terms T.F__law_in_terms.kp (b__law_in_terms_0 T) (fun _ => .nil) (axa_cons (ax_call C.toCxE (ok_plus T) T.g_plus T.F_plus.kp (b_plus_0 T) (fun _ => .nil) (axa_cons (ax_var 0) (axa_cons (ax_var 1) (axa_nil))) (by decide)) (axa_cons (ax_op op_Add (ax_var 2) (ax_var 3)) (axa_cons (ax_var 4) (axa_nil)))) (by decide)))) (axb_one (axs_ret (ax_bl))) (axb_nil))
    (axb_cons (axs_if (axt_not (axt_val (ax_call C.toCxE (ok__law_in_terms T) T.g__law_in_terms T.F__law_in_terms.kp (b__law_in_terms_0 T) (fun _ => .nil) (axa_cons (ax_call C.toCxE (ok_minus T) T.g_minus T.F_minus.kp (b_minus_0 T) (fun _ => .nil) (axa_cons (ax_var 0) (axa_cons (ax_var 1) (axa_nil))) (by decide)) (axa_cons (ax_op op_Sub (ax_var 2) (ax_var 3)) (axa_cons (ax_var 4) (axa_nil)))) (by decide)))) (axb_one (axs_ret (ax_bl))) (axb_nil))
    (axb_cons (axs_if (axt_not (axt_val (ax_call C.toCxE (ok__law_in_terms T) T.g__law_in_terms T.F__law_in_terms.kp (b__law_in_terms_0 T) (fun _ => .nil) (axa_cons (ax_call C.toCxE (ok_times T) T.g_times T.F_times.kp (b_times_0 T) (fun _ => .nil) (axa_cons (ax_var 0) (axa_cons (ax_var 1) (axa_nil))) (by decide)) (axa_cons (ax_op op_Mul (ax_ix op_Ix (ax_var 0) (ax_int)) (ax_ix op_Ix (ax_var 1) (ax_int))) (axa_cons (ax_var 4) (axa_nil)))) (by decide)))) (axb_one (axs_ret (ax_bl))) (axb_nil))
    (axb_cons (axs_set (i := 5) C.nd (ax_call C.toCxE (ok_compare T) T.g_compare T.F_compare.kp (b_compare_0 T) (fun _ => .nil) (axa_cons (ax_var 0) (axa_cons (ax_var 1) (axa_nil))) (by decide)))
    (axb_one (axs_ret (ax_and (ax_call C.toCxE (ok__law_is_number T) T.g__law_is_number T.F__law_is_number.kp (b__law_is_number_0 T) (fun _ => .nil) (axa_cons (ax_var 5) (axa_nil)) (by decide)) (ax_one (ax_cmp (op_Eq C.toCxE) (ax_var 5) (ax_op op_Sub (ax_callTy cb_int T.n_int rfl (axa_cons (ax_cmp op_Gt (ax_var 2) (ax_var 3)) (axa_nil))) (ax_callTy cb_int T.n_int rfl (axa_cons (ax_cmp op_Lt (ax_var 2) (ax_var 3)) (axa_nil)))))))))))))))
theorem sc__law_near_right : FnScope ["_law_one", "_law_far", "_law_near"] ["_law_one"] (defScope s__law_near_right) := ⟨rfl, rfl, rfl, by decide +kernel, rfl, by decide +kernel, by decide +kernel⟩
theorem ok__law_near_right (T : Fcs P K mg) : FnOk P w K mg base (L2N.CX P w) 6 (He.ga K "_law_near_right") (fdAt K (He.ga K "_law_near_right")) ["_law_one"] (SpA K m__law_near_right) :=
  fn_ok (k := 5) T.F__law_near_right sc__law_near_right leadsP fun cdv A outer s H E C =>
    axb_cons (axs_set (i := 1) C.nd (ax_op op_Pow (ax_int) (ax_int)))
    (axb_cons (axs_if (axt_w (axw_or (axt_cmp op_Gt (ax_callB cb_abs T.n_abs rfl (axa_cons (ax_ix op_Ix (ax_var 0) (ax_int)) (axa_nil))) (ax_op op_Pow (ax_int) (ax_int))) (axw_or1 (axt_cmp op_Gt (ax_ix op_Ix (ax_var 0) (ax_int)) (ax_op op_Pow (ax_int) (ax_int)))))) (axb_one (axs_ret (ax_bl))) (axb_nil))
    (axb_cons (axs_set (i := 2) C.nd (ax_call C.toCxE (ok_ratio T) T.g_ratio T.F_ratio.kp (b_ratio_0 T) (fun _ => .nil) (axa_cons (ax_op op_Add (ax_op op_Mul (ax_ix op_Ix (ax_var 0) (ax_int)) (ax_var 1)) (ax_int)) (axa_cons (ax_op op_Mul (ax_ix op_Ix (ax_var 0) (ax_int)) (ax_var 1)) (axa_nil))) (by decide)))
    (axb_cons (axs_if (axt_w (axw_or (axt_cmp (op_Ne C.toCxE) (ax_call C.toCxE (ok_compare T) T.g_compare T.F_compare.kp (b_compare_0 T) (fun _ => .nil) (axa_cons (ax_var 2) (axa_cons (ax_var 0) (axa_nil))) (by decide)) (ax_int)) (axw_or1 (axt_cmp (op_Ne C.toCxE) (ax_call C.toCxE (ok_compare T) T.g_compare T.F_compare.kp (b_compare_0 T) (fun _ => .nil) (axa_cons (ax_var 0) (axa_cons (ax_var 2) (axa_nil))) (by decide)) (ax_un op_Neg (ax_int)))))) (axb_one (axs_ret (ax_bl))) (axb_nil))
    (axb_one (axs_ret (ax_and (ax_call C.toCxE (ok__law_two_right T) T.g__law_two_right T.F__law_two_right.kp (b__law_two_right_0 T) (fun _ => .nil) (axa_cons (ax_var 0) (axa_cons (ax_var 2) (axa_nil))) (by decide)) (ax_one (ax_call C.toCxE (ok__law_two_right T) T.g__law_two_right T.F__law_two_right.kp (b__law_two_right_0 T) (fun _ => .nil) (axa_cons (ax_var 2) (axa_cons (ax_var 0) (axa_nil))) (by decide)))))))))
theorem sc__law_refused : FnScope ["_law_up", "e"] ["_law_up"] (defScope s__law_refused) := ⟨rfl, rfl, rfl, by decide +kernel, rfl, by decide +kernel, by decide +kernel⟩
theorem ok__law_refused (T : Fcs P K mg) : FnOk P w K mg base (L2N.CX P w) 4 (He.ga K "_law_refused") (fdAt K (He.ga K "_law_refused")) ["_law_up"] (SpA K m__law_refused) :=
  fn_ok (k := 3) T.F__law_refused sc__law_refused leadsP fun cdv A outer s H E C =>
    axb_cons (axs_tryAs (i := 1) C T.g_BadRatio (xm_BadRatio_ok T) (fun _ _ _ C1 => axb_one (axs_expr (ax_call C1.toCxE (ok_ratio T) T.g_ratio T.F_ratio.kp (b_ratio_0 T) (fun _ => .nil) (axa_cons (ax_var 0) (axa_cons (ax_int) (axa_nil))) (by decide)))) (fun a oe c d pn hz hf => axb_one (axs_ret (ax_and (ax_callH C.toCxE hz hf (okh__law_is_number T) T.g__law_is_number T.F__law_is_number.kp (b__law_is_number_0 T) (axa_cons (ax_xf (i := 1) T.XF_BadRatio T.NF_BadRatio_bottom hz hf) (axa_nil)) (by decide)) (ax_one (ax_cmp (op_EqR C.room) (ax_xf (i := 1) T.XF_BadRatio T.NF_BadRatio_bottom hz hf) (ax_int)))))))
    (axb_one (axs_ret (ax_bl)))
theorem sc_law : FnScope ["_law_script", "_law_pool_here", "_law_made", "_law_k", "_law_one", "_law_pair", "_law_other"] ["_law_script"] (defScope s_law) := ⟨rfl, rfl, rfl, by decide +kernel, rfl, by decide +kernel, by decide +kernel⟩
theorem ok_law (T : Fcs P K mg) (hm : ∀ (ns : List Int), ns.length ≤ 63 → a_law (.d (.scr ns) :: .d (.ref 0) :: List.replicate 5 .no) [.pool 0 ns] yes) : FnOk P w K mg base (L2N.CX P w) 7 (He.ga K "law") (fdAt K (He.ga K "law")) ["_law_script"] (spLaw K) :=
  law_fn (k := 6) T.F_law sc_law (fun cdv A outer s H E C => ⟨axs_cell (i := 1) C.nd (axf_call C.toCxE (ok__law_pool T) T.g__law_pool T.F__law_pool.kp (b__law_pool_0 T) (fun _ => .nil) (axa_cons (ax_var 0) (axa_nil)) (by decide)),
    axb_cons (axs_cell (i := 2) C.nd (axf_lst (axa_nil)))
    (axb_cons (axs_for C (axi_rng1 T.n_range (ax_op op_Add (ax_int) (ax_call C.toCxE (ok__law_take T) T.g__law_take T.F__law_take.kp (b__law_take_0 T) (fun _ => .nil) (axa_cons (ax_var 1) (axa_cons (ax_int) (axa_nil))) (by decide)))) (axg_name (i := 3) C.toCxE.nd) (axb_cons (axs_cell (i := 5) C.nd (axf_lst (axa_cons (ax_call C.toCxE (ok__law_integer T) T.g__law_integer T.F__law_integer.kp (b__law_integer_0 T) (fun _ => .nil) (axa_cons (ax_var 1) (axa_nil)) (by decide)) (axa_cons (ax_call C.toCxE (ok__law_integer T) T.g__law_integer T.F__law_integer.kp (b__law_integer_0 T) (fun _ => .nil) (axa_cons (ax_var 1) (axa_nil)) (by decide)) (axa_nil)))))
    (axb_cons (axs_if (axt_cmp (op_Eq C.toCxE) (ax_ix op_Ix (ax_var 5) (ax_int)) (ax_int)) (axb_one (axs_setIx (ax_op op_Sub (ax_un op_Neg (ax_int)) (ax_var 3)) (ax_var 5) (ax_int))) (axb_nil))
    (axb_cons (axs_set (i := 4) C.nd (ax_call C.toCxE (ok_ratio T) T.g_ratio T.F_ratio.kp (b_ratio_0 T) (fun _ => .nil) (axa_cons (ax_ix op_Ix (ax_var 5) (ax_int)) (axa_cons (ax_ix op_Ix (ax_var 5) (ax_int)) (axa_nil))) (by decide)))
    (axb_cons (axs_if (axt_w (axw_or (axt_not (axt_val (ax_call C.toCxE (ok__law_in_terms T) T.g__law_in_terms T.F__law_in_terms.kp (b__law_in_terms_0 T) (fun _ => .nil) (axa_cons (ax_var 4) (axa_cons (ax_ix op_Ix (ax_var 5) (ax_int)) (axa_cons (ax_ix op_Ix (ax_var 5) (ax_int)) (axa_nil)))) (by decide)))) (axw_or1 (axt_not (axt_val (ax_call C.toCxE (ok__law_in_terms T) T.g__law_in_terms T.F__law_in_terms.kp (b__law_in_terms_0 T) (fun _ => .nil) (axa_cons (ax_call C.toCxE (ok_ratio T) T.g_ratio T.F_ratio.kp (b_ratio_1 T) (fun _ => Reps.ints [1]) (axa_cons (ax_ix op_Ix (ax_var 5) (ax_int)) (axa_nil)) (by decide)) (axa_cons (ax_ix op_Ix (ax_var 5) (ax_int)) (axa_cons (ax_int) (axa_nil)))) (by decide))))))) (axb_one (axs_ret (ax_bl))) (axb_nil))
    (axb_cons (axs_if (axt_w (axw_or (axt_cmp (op_Ne C.toCxE) (ax_callK (C0 := 0) C.toCxE (ok_ratio T) T.g_ratio T.F_ratio.kp (bk_ratio_0 T) (axk_cons (ax_ix op_Ix (ax_var 5) (ax_int)) (axk_cons (ax_ix op_Ix (ax_var 5) (ax_int)) (axk_nil))) (by decide)) (ax_var 4)) (axw_or1 (axt_not (axt_val (ax_call C.toCxE (ok__law_refused T) T.g__law_refused T.F__law_refused.kp (b__law_refused_0 T) (fun _ => .nil) (axa_cons (ax_ix op_Ix (ax_var 5) (ax_int)) (axa_nil)) (by decide))))))) (axb_one (axs_ret (ax_bl))) (axb_nil))
    (axb_one (axs_expr (ax_app (ax_var 2) (ax_var 4))))))))))
    (axb_cons (axs_for C (axi_seq (ax_var 2)) (axg_name (i := 4) C.toCxE.nd) (axb_cons (axs_if (axt_not (axt_val (ax_call C.toCxE (ok__law_near_right T) T.g__law_near_right T.F__law_near_right.kp (b__law_near_right_0 T) (fun _ => .nil) (axa_cons (ax_var 4) (axa_nil)) (by decide)))) (axb_one (axs_ret (ax_bl))) (axb_nil))
    (axb_one (axs_for C (axi_seq (ax_op op_Add (ax_var 2) (ax_lst (axa_cons (ax_tup (axa_cons (ax_int) (axa_cons (ax_int) (axa_nil)))) (axa_nil))))) (axg_name (i := 6) C.toCxE.nd) (axb_one (axs_if (axt_not (axt_val (ax_call C.toCxE (ok__law_two_right T) T.g__law_two_right T.F__law_two_right.kp (b__law_two_right_0 T) (fun _ => .nil) (axa_cons (ax_var 4) (axa_cons (ax_var 6) (axa_nil))) (by decide)))) (axb_one (axs_ret (ax_bl))) (axb_nil)))))))
    (axb_one (axs_ret (ax_call C.toCxE (ok__law_lowest_right T) T.g__law_lowest_right T.F__law_lowest_right.kp (b__law_lowest_right_0 T) (fun _ => .nil) (axa_cons (ax_var 1) (axa_nil)) (by decide))))))⟩) hm
end
end LW
set_option Elab.async false
set_option linter.all false
set_option maxRecDepth 100000
set_option maxHeartbeats 0
namespace LW
open PySem PySem.Spec PyProof.Rows L2 AM
def d0 : He.DefD := ⟨("_law_pool", none), "_law_pool", "_law_pool", defArgs s__law_pool, defBody s__law_pool, defScope s__law_pool, [], []⟩
def d1 : He.DefD := ⟨("divisor", none), "divisor", "divisor", defArgs s_divisor, defBody s_divisor, defScope s_divisor, [], []⟩
def d2 : He.DefD := ⟨("lowest", none), "lowest", "lowest", defArgs s_lowest, defBody s_lowest, defScope s_lowest, [], []⟩
def d3 : He.DefD := ⟨("_law_take", none), "_law_take", "_law_take", defArgs s__law_take, defBody s__law_take, defScope s__law_take, [], []⟩
def d4 : He.DefD := ⟨("_law_divisor", none), "_law_divisor", "_law_divisor", defArgs s__law_divisor, defBody s__law_divisor, defScope s__law_divisor, [], []⟩
def d5 : He.DefD := ⟨("_law_least_terms", none), "_law_least_terms", "_law_least_terms", defArgs s__law_least_terms, defBody s__law_least_terms, defScope s__law_least_terms, [], []⟩
def d6 : He.DefD := ⟨("_law_lowest_right", none), "_law_lowest_right", "_law_lowest_right", defArgs s__law_lowest_right, defBody s__law_lowest_right, defScope s__law_lowest_right, [], []⟩
def d7 : He.DefD := ⟨("ratio", none), "ratio", "ratio", defArgs s_ratio, defBody s_ratio, defScope s_ratio, [.int 1], []⟩
def d8 : He.DefD := ⟨("_law_integer", none), "_law_integer", "_law_integer", defArgs s__law_integer, defBody s__law_integer, defScope s__law_integer, [], []⟩
def d9 : He.DefD := ⟨("compare", none), "compare", "compare", defArgs s_compare, defBody s_compare, defScope s_compare, [], []⟩
def d10 : He.DefD := ⟨("_law_ratio", none), "_law_ratio", "_law_ratio", defArgs s__law_ratio, defBody s__law_ratio, defScope s__law_ratio, [], []⟩
def d11 : He.DefD := ⟨("_law_is_number", none), "_law_is_number", "_law_is_number", defArgs s__law_is_number, defBody s__law_is_number, defScope s__law_is_number, [], []⟩
def d12 : He.DefD := ⟨("_law_in_terms", none), "_law_in_terms", "_law_in_terms", defArgs s__law_in_terms, defBody s__law_in_terms, defScope s__law_in_terms, [], []⟩
def d13 : He.DefD := ⟨("plus", none), "plus", "plus", defArgs s_plus, defBody s_plus, defScope s_plus, [], []⟩
def d14 : He.DefD := ⟨("minus", none), "minus", "minus", defArgs s_minus, defBody s_minus, defScope s_minus, [], []⟩
def d15 : He.DefD := ⟨("times", none), "times", "times", defArgs s_times, defBody s_times, defScope s_times, [], []⟩
def d16 : He.DefD := ⟨("_law_two_right", none), "_law_two_right", "_law_two_right", defArgs s__law_two_right, defBody s__law_two_right, defScope s__law_two_right, [], []⟩
def d17 : He.DefD := ⟨("_law_near_right", none), "_law_near_right", "_law_near_right", defArgs s__law_near_right, defBody s__law_near_right, defScope s__law_near_right, [], []⟩
def d18 : He.DefD := ⟨("_law_refused", none), "_law_refused", "_law_refused", defArgs s__law_refused, defBody s__law_refused, defScope s__law_refused, [], []⟩
def d19 : He.DefD := ⟨("law", none), "law", "law", defArgs s_law, defBody s_law, defScope s_law, [], []⟩
def x_BadRatio : XD := ⟨"BadRatio", defArgs sx_BadRatio, defBody sx_BadRatio, defScope sx_BadRatio⟩
def fnL0 : List He.DefD := [d0, d1, d2, d3, d4, d5, d6, d7, d8, d9, d10, d11, d12, d13, d14, d15, d16, d17, d18, d19]
def fnL : List He.DefD := fnL0
def faL0 : List He.Fa := [.glo "_law_pool", .glo "divisor", .glo "lowest", .glo "_law_take", .glo "_law_divisor", .glo "_law_least_terms", .glo "_law_lowest_right", .glo "ratio", .glo "_law_integer", .glo "compare", .glo "_law_ratio", .glo "_law_is_number", .glo "_law_in_terms", .glo "plus", .glo "minus", .glo "times", .glo "_law_two_right", .glo "_law_near_right", .glo "_law_refused", .glo "law"]
def faL1 : List He.Fa := [.free "list", .free "abs", .free "int", .free "len", .free "max", .free "tuple", .free "range", .glo "BadRatio", .free "super", .noat "BadRatio" "bottom", .free "isinstance", .free "bool", .exm "BadRatio" "BadRatio" true]
def faL : List He.Fa := faL0 ++ faL1
def exL0 : List (PySem.W.Frag → Bool) := [fun K => xcB K PySem.Challenge.pw_everyhint_k11_ratios.main.file "BadRatio", fun K => xfB K (He.ga K "BadRatio")]
def exL : List (PySem.W.Frag → Bool) := exL0
def xsL0 : List XD := [x_BadRatio]
def xsL : List XD := xsL0
def loose0 : List Str := ["__name__", "HintError", "BadRatio", "divisor", "lowest", "ratio", "plus", "minus", "times", "compare", "_law_pool", "_law_take", "_law_is_number", "_law_divisor", "_law_ratio", "_law_least_terms", "_law_integer", "_law_refused", "_law_in_terms", "_law_two_right"]
def loose1 : List Str := ["_law_near_right", "_law_lowest_right"]
def loose : List Str := loose0 ++ loose1
abbrev R : PySem.W.OpenRow := PySem.W.OpenLaw.row PySem.Challenge.rw_everyhint_k11_ratios
abbrev hk : PySem.W.Hook := hookX 5 faL fnL exL xsL
def ob (s : PySem.W.SharedT) : AlX := obsXG 5 faL fnL exL xsL (HandSHeadRun.getT s)
theorem ob_eq (s : PySem.W.SharedT) : ob s = hk.obs s.abs := obsXG_eq (HandSHeadRun.getT_eq s)
theorem run (w : World) : HandSHeadRun.RunEq R (PySem.W.view R.prog [24]) hk ob 4000 loose w := by
  intro os
  kernel_rfl
theorem facts {K : PySem.W.Frag} {h : Heap} {mg : Str → Option Value} (X : K.In h) (G : h.Ns mainGlobals mg) (c : SaysX faL fnL exL xsL K) : Fcs PySem.Challenge.pw_everyhint_k11_ratios K mg where
  g__law_pool := He.glo_ok X G (c.d.fact 0 (f := .glo "_law_pool") rfl)
  F__law_pool := fdAt_of (c.d.def_ 0 (d := d0) rfl).choose_spec
  g_divisor := He.glo_ok X G (c.d.fact 1 (f := .glo "divisor") rfl)
  F_divisor := fdAt_of (c.d.def_ 1 (d := d1) rfl).choose_spec
  g_lowest := He.glo_ok X G (c.d.fact 2 (f := .glo "lowest") rfl)
  F_lowest := fdAt_of (c.d.def_ 2 (d := d2) rfl).choose_spec
  g__law_take := He.glo_ok X G (c.d.fact 3 (f := .glo "_law_take") rfl)
  F__law_take := fdAt_of (c.d.def_ 3 (d := d3) rfl).choose_spec
  g__law_divisor := He.glo_ok X G (c.d.fact 4 (f := .glo "_law_divisor") rfl)
  F__law_divisor := fdAt_of (c.d.def_ 4 (d := d4) rfl).choose_spec
  g__law_least_terms := He.glo_ok X G (c.d.fact 5 (f := .glo "_law_least_terms") rfl)
  F__law_least_terms := fdAt_of (c.d.def_ 5 (d := d5) rfl).choose_spec
  g__law_lowest_right := He.glo_ok X G (c.d.fact 6 (f := .glo "_law_lowest_right") rfl)
  F__law_lowest_right := fdAt_of (c.d.def_ 6 (d := d6) rfl).choose_spec
  g_ratio := He.glo_ok X G (c.d.fact 7 (f := .glo "ratio") rfl)
  F_ratio := fdAt_of (c.d.def_ 7 (d := d7) rfl).choose_spec
  g__law_integer := He.glo_ok X G (c.d.fact 8 (f := .glo "_law_integer") rfl)
  F__law_integer := fdAt_of (c.d.def_ 8 (d := d8) rfl).choose_spec
  g_compare := He.glo_ok X G (c.d.fact 9 (f := .glo "compare") rfl)
  F_compare := fdAt_of (c.d.def_ 9 (d := d9) rfl).choose_spec
  g__law_ratio := He.glo_ok X G (c.d.fact 10 (f := .glo "_law_ratio") rfl)
  F__law_ratio := fdAt_of (c.d.def_ 10 (d := d10) rfl).choose_spec
  g__law_is_number := He.glo_ok X G (c.d.fact 11 (f := .glo "_law_is_number") rfl)
  F__law_is_number := fdAt_of (c.d.def_ 11 (d := d11) rfl).choose_spec
  g__law_in_terms := He.glo_ok X G (c.d.fact 12 (f := .glo "_law_in_terms") rfl)
  F__law_in_terms := fdAt_of (c.d.def_ 12 (d := d12) rfl).choose_spec
  g_plus := He.glo_ok X G (c.d.fact 13 (f := .glo "plus") rfl)
  F_plus := fdAt_of (c.d.def_ 13 (d := d13) rfl).choose_spec
  g_minus := He.glo_ok X G (c.d.fact 14 (f := .glo "minus") rfl)
  F_minus := fdAt_of (c.d.def_ 14 (d := d14) rfl).choose_spec
  g_times := He.glo_ok X G (c.d.fact 15 (f := .glo "times") rfl)
  F_times := fdAt_of (c.d.def_ 15 (d := d15) rfl).choose_spec
  g__law_two_right := He.glo_ok X G (c.d.fact 16 (f := .glo "_law_two_right") rfl)
  F__law_two_right := fdAt_of (c.d.def_ 16 (d := d16) rfl).choose_spec
  g__law_near_right := He.glo_ok X G (c.d.fact 17 (f := .glo "_law_near_right") rfl)
  F__law_near_right := fdAt_of (c.d.def_ 17 (d := d17) rfl).choose_spec
  g__law_refused := He.glo_ok X G (c.d.fact 18 (f := .glo "_law_refused") rfl)
  F__law_refused := fdAt_of (c.d.def_ 18 (d := d18) rfl).choose_spec
  g_law := He.glo_ok X G (c.d.fact 19 (f := .glo "law") rfl)
  F_law := fdAt_of (c.d.def_ 19 (d := d19) rfl).choose_spec
  n_list := He.free_ok X G (c.d.fact 20 (f := .free "list") rfl)
  n_abs := He.free_ok X G (c.d.fact 21 (f := .free "abs") rfl)
  n_int := He.free_ok X G (c.d.fact 22 (f := .free "int") rfl)
  n_len := He.free_ok X G (c.d.fact 23 (f := .free "len") rfl)
  n_max := He.free_ok X G (c.d.fact 24 (f := .free "max") rfl)
  n_tuple := He.free_ok X G (c.d.fact 25 (f := .free "tuple") rfl)
  n_range := He.free_ok X G (c.d.fact 26 (f := .free "range") rfl)
  g_BadRatio := He.glo_ok X G (c.d.fact 27 (f := .glo "BadRatio") rfl)
  X_BadRatio := xcB_ok (d := x_BadRatio) (c.e 0 rfl) (c.x 0 rfl) (He.free_ok X G (c.d.fact 28 (f := .free "super") rfl)) (by rfl)
  NX_BadRatio := He.eqO_ok (c.d.fact 29 (f := .noat "BadRatio" "bottom") rfl)
  n_isinstance := He.free_ok X G (c.d.fact 30 (f := .free "isinstance") rfl)
  n_bool := He.free_ok X G (c.d.fact 31 (f := .free "bool") rfl)
  M_BadRatio_BadRatio := of_decide_eq_true (c.d.fact 32 (f := .exm "BadRatio" "BadRatio" true) rfl)
  XF_BadRatio := xfB_ok (c.e 1 rfl)
  NF_BadRatio_bottom := He.eqO_ok (c.d.fact 29 (f := .noat "BadRatio" "bottom") rfl)
end LW
open PySem PySem.W PySem.Calls PyProof.Rows
theorem PySem.Challenge.cw_everyhint_k11_ratios_holds : PySem.Challenge.rw_everyhint_k11_ratios.Holds := by
  w_on; o_law
  refine HandSHeadRun.head_any (r := OpenLaw.row PySem.Challenge.rw_everyhint_k11_ratios) (q := view (OpenLaw.row PySem.Challenge.rw_everyhint_k11_ratios).prog [24]) (H := LW.hk) (ob := LW.ob) (M := 4000) (loose := LW.loose) (d := HandSHeadRun.topDef (OpenLaw.row PySem.Challenge.rw_everyhint_k11_ratios).prog 24) (kwd := []) LW.ob_eq
    (by kernel_rfl) (fun s => by kernel_rfl) LW.run (by kernel_rfl) (by kernel_rfl) (by kernel_rfl) (by rfl) (by first | assumption | decide +kernel) (by decide +kernel) ⟨rfl, rfl, rfl, rfl, rfl, by decide +kernel⟩ ?hw ?hc
  case hw => w_witness2
  case hc =>
    refine L2.walk_ofE (l := PySem.Challenge.rw_everyhint_k11_ratios) (n := 63) (k := 7) (x := "_law_script") (CX := L2.CX0) rfl (by decide) (by kernel_rfl) ⟨rfl, by decide, by decide⟩ ?F (fun _ _ _ _ z => z)
    intro w mg fa h Y G hmg0
    obtain ⟨K, KX, c⟩ := Y
    have T := LW.facts KX G c
    have hmg : mg ("law" : PySem.Str) = some (.ref fa) := by
      have e : (HandSHeadRun.topDef (OpenLaw.row PySem.Challenge.rw_everyhint_k11_ratios).prog 24).name = ("law" : PySem.Str) := by kernel_rfl
      rw [← e]
      exact hmg0
    have e := hmg.symm.trans T.g_law
    cases e
    have b := L2.FunD.bindsA (ps := ["_law_script"]) T.F_law fun _ _ _ _ _ _ us hl => match us, hl with | [_], _ => rfl
    exact ⟨K, AM.fdAt K (He.ga K "law"), AM.spLaw K, KX, fun s v => b s [v] rfl, fun H a ns hl _ hS => ⟨a, ns, rfl, hS, hl, fun _ => rfl⟩, fun base _ _ => AM.law_CX0 (LW.ok_law T LW.law_true)⟩
