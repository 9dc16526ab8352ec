import PyProof.Rows.All
import Wide.All
import OpenK.AllK
import Wide.FinOn
import HandS.ForMost
import HandS.Evl
import HandS.Exc
import HandS.WordsExc
import HandS.CallSlots
import HandS.Wide
import HandS.HeadHook1
import HandS.IsInst
import HandS.Defaults
import HandS.ExcCtx
import HandS.Deep
import HandS.Conv
import HandS.Strs
import HandS.TupAny
import KE.KExcSuper
import HandS.ExcInit
import HandS.ExcField
import HandS.TryMany
import HandS.HotCalls
import HandS.TryOnly
import HandS.Words
import HandS.Star
import HandS.Zip
import HandS.OwnEq
import KE.GoesEnum
import KE.GoesMore
import HandS.Codes
import HandS.DictComp
import HandS.TupLen
import HandS.List
import KE.KDictZip
import HandS.Small
import HandS.Style
import KE.KDictPairs
import HandS.IterVal
import HandS.OwnIter
import KE.KDictKeyed
import HandS.DictTup
import KE.KTupSum
import HandS.TupMul
import HandS.NamedTupGet
import KE.KStateDown
import Lean
import HandS.Ends
import HandS.More
import HandS.Head0
import HandS.Head1
import HandS.Head2
import HandS.HeadEnd
import HandS.HeadHook2
import PySem.Challenge.RW_everyhint_k67_logs_of_plays
set_option Elab.async false
set_option linter.all false
set_option maxRecDepth 100000
set_option maxHeartbeats 4000000
namespace AM
open PySem L2 Evl
/-! ### data as trees; .ref n is the n-th cell of the store -/
inductive D where
  | non | bl (b : Bool) | int (i : Int) | str (x : Str)
  | lst (l : List D) | tup (l : List D)
  | dic (l : List (D × D))
  | obj (c : Str) (fs : List (Str × D))
  | fn (x : Str)
  | ty (n : String)
  | ref (n : Nat)
  | scr (ns : List Int)
inductive C where
  | lst (l : List D) | dic (l : List (D × D)) | obj (c : Str) (fs : List (Str × D)) | pool (n : Nat) (ns : List Int) | dead
abbrev S := List C
def kD : Key → D
  | .inl i => .int i
  | .inr x => .str x
/-! ### what trees mention: cells below k -/
mutual
def D.lt (k : Nat) : D → Prop
  | .lst l => ltL k l
  | .tup l => ltL k l
  | .dic l => ltP k l
  | .obj _ fs => ltF k fs
  | .ref n => n < k
  | _ => True
def ltL (k : Nat) : List D → Prop
  | [] => True
  | x :: xs => D.lt k x ∧ ltL k xs
def ltP (k : Nat) : List (D × D) → Prop
  | [] => True
  | (x, y) :: xs => D.lt k x ∧ D.lt k y ∧ ltP k xs
def ltF (k : Nat) : List (Str × D) → Prop
  | [] => True
  | (_, y) :: xs => D.lt k y ∧ ltF k xs
end
def C.lt (k : Nat) : C → Prop
  | .lst l => ltL k l
  | .dic l => ltP k l
  | .obj _ fs => ltF k fs
  | _ => True
def ltS (k : Nat) (st : S) : Prop := ∀ c ∈ st, C.lt k c
/-- what is frozen, and where the cells lie -/
structure Gh where
  g : Hp
  as : List Addr
structure Gh.le (G G2 : Gh) : Prop where
  g : Ex G.g G2.g
  a : G.as <+: G2.as
theorem Gh.le.refl (G : Gh) : G.le G := ⟨Ex.refl _, List.prefix_refl _⟩
theorem Gh.le.trans {G G2 G3 : Gh} (a : G.le G2) (b : G2.le G3) : G.le G3 := ⟨a.g.trans b.g, a.a.trans b.a⟩
mutual
inductive Rep (K : PySem.W.Frag) (G : Gh) : D → V → Prop
  | non : Rep K G .non .non
  | bl (b : Bool) : Rep K G (.bl b) (.bl b)
  | int (i : Int) : Rep K G (.int i) (.int i)
  | str (x : Str) : Rep K G (.str x) (.str x)
  | lst {p : Addr} {vs : List V} {ds : List D} : G.g p = some (.lst vs) → Reps K G ds vs → Rep K G (.lst ds) (.ref p)
  | tup {p : Addr} {vs : List V} {ds : List D} : G.g p = some (.tup vs) → Reps K G ds vs → Rep K G (.tup ds) (.ref p)
  | dicT {p : Addr} {kvs : List (List Key × V)} {ds : List (D × D)} : G.g p = some (.dT kvs) → RepT K G ds kvs → Rep K G (.dic ds) (.ref p)
  | obj {c : Str} {p dx : Addr} {fs : List (Str × D)} {vs : List (Str × V)} : G.g p = some (.ins (He.ga K c) dx vs) → RepF K G fs vs → Rep K G (.obj c fs) (.ref p)
  | fn (x : Str) : Rep K G (.fn x) (.ref (He.ga K x))
  | ty (n : String) : Rep K G (.ty n) (.ty n)
  | ref {n : Nat} {p : Addr} : G.as[n]? = some p → Rep K G (.ref n) (.ref p)
  | scr {ns : List Int} {p : Addr} : SqL K G.g p (ns.map V.int) → ns.length ≤ 63 → Rep K G (.scr ns) (.ref p)
inductive Reps (K : PySem.W.Frag) (G : Gh) : List D → List V → Prop
  | nil : Reps K G [] []
  | cons {d : D} {v : V} {ds : List D} {vs : List V} : Rep K G d v → Reps K G ds vs → Reps K G (d :: ds) (v :: vs)
inductive RepF (K : PySem.W.Frag) (G : Gh) : List (Str × D) → List (Str × V) → Prop
  | nil : RepF K G [] []
  | cons {f : Str} {d : D} {v : V} {ds : List (Str × D)} {vs : List (Str × V)} : Rep K G d v → RepF K G ds vs → RepF K G ((f, d) :: ds) ((f, v) :: vs)
inductive RepK (K : PySem.W.Frag) (G : Gh) : List (D × D) → List (Key × V) → Prop
  | nil : RepK K G [] []
  | cons {k : Key} {d : D} {v : V} {ds : List (D × D)} {vs : List (Key × V)} : Rep K G d v → RepK K G ds vs → RepK K G ((kD k, d) :: ds) ((k, v) :: vs)
inductive RepT (K : PySem.W.Frag) (G : Gh) : List (D × D) → List (List Key × V) → Prop
  | nil : RepT K G [] []
  | cons {k : List Key} {d : D} {v : V} {ds : List (D × D)} {vs : List (List Key × V)} : Rep K G d v → RepT K G ds vs → RepT K G ((.tup (k.map kD), d) :: ds) ((k, v) :: vs)
end
theorem pre_get {α : Type} {l r : List α} {n : Nat} {x : α} (h : l <+: r) (e : l[n]? = some x) : r[n]? = some x := by
  obtain ⟨t, rfl⟩ := h
  rw [List.getElem?_append_left (List.getElem?_eq_some_iff.mp e).1]
  exact e
theorem kD_lt (k : Nat) : ∀ x : Key, (kD x).lt k
  | .inl _ => by unfold kD D.lt; trivial
  | .inr _ => by unfold kD D.lt; trivial
theorem kDs_lt (k : Nat) : ∀ l : List Key, ltL k (l.map kD)
  | [] => by unfold List.map ltL; trivial
  | x :: xs => by rw [List.map_cons]; unfold ltL; exact ⟨kD_lt k x, kDs_lt k xs⟩
section
variable {K : PySem.W.Frag} {G G2 : Gh}
mutual
theorem Rep.mono (e : G.le G2) : ∀ {d : D} {v : V}, Rep K G d v → Rep K G2 d v
  | _, _, .non => .non
  | _, _, .bl b => .bl b
  | _, _, .int i => .int i
  | _, _, .str x => .str x
  | _, _, .lst h r => .lst (e.g _ _ h) (Reps.mono e r)
  | _, _, .tup h r => .tup (e.g _ _ h) (Reps.mono e r)
  | _, _, .dicT h r => .dicT (e.g _ _ h) (RepT.mono e r)
  | _, _, .obj h r => .obj (e.g _ _ h) (RepF.mono e r)
  | _, _, .fn x => .fn x
  | _, _, .ty x => .ty x
  | _, _, .ref h => .ref (pre_get e.a h)
  | _, _, .scr h l => .scr (ex_l e.g h) l
theorem Reps.mono (e : G.le G2) : ∀ {ds : List D} {vs : List V}, Reps K G ds vs → Reps K G2 ds vs
  | _, _, .nil => .nil
  | _, _, .cons h r => .cons (Rep.mono e h) (Reps.mono e r)
theorem RepF.mono (e : G.le G2) : ∀ {ds : List (Str × D)} {vs : List (Str × V)}, RepF K G ds vs → RepF K G2 ds vs
  | _, _, .nil => .nil
  | _, _, .cons h r => .cons (Rep.mono e h) (RepF.mono e r)
theorem RepK.mono (e : G.le G2) : ∀ {ds : List (D × D)} {vs : List (Key × V)}, RepK K G ds vs → RepK K G2 ds vs
  | _, _, .nil => .nil
  | _, _, .cons h r => .cons (Rep.mono e h) (RepK.mono e r)
theorem RepT.mono (e : G.le G2) : ∀ {ds : List (D × D)} {vs : List (List Key × V)}, RepT K G ds vs → RepT K G2 ds vs
  | _, _, .nil => .nil
  | _, _, .cons h r => .cons (Rep.mono e h) (RepT.mono e r)
end
/-! what is represented mentions cells that there are -/
mutual
theorem Rep.lt : ∀ {d : D} {v : V}, Rep K G d v → d.lt G.as.length
  | _, _, .non => by unfold D.lt; trivial
  | _, _, .bl b => by unfold D.lt; trivial
  | _, _, .int i => by unfold D.lt; trivial
  | _, _, .str x => by unfold D.lt; trivial
  | _, _, .lst h r => by unfold D.lt; exact r.lt
  | _, _, .tup h r => by unfold D.lt; exact r.lt
  | _, _, .dicT h r => by unfold D.lt; exact r.lt
  | _, _, .obj h r => by unfold D.lt; exact r.lt
  | _, _, .fn x => by unfold D.lt; trivial
  | _, _, .ty x => by unfold D.lt; trivial
  | _, _, .ref h => by unfold D.lt; exact (List.getElem?_eq_some_iff.mp h).1
  | _, _, .scr h l => by unfold D.lt; trivial
theorem Reps.lt : ∀ {ds : List D} {vs : List V}, Reps K G ds vs → ltL G.as.length ds
  | _, _, .nil => by unfold ltL; trivial
  | _, _, .cons h r => by unfold ltL; exact ⟨h.lt, r.lt⟩
theorem RepF.lt : ∀ {ds : List (Str × D)} {vs : List (Str × V)}, RepF K G ds vs → ltF G.as.length ds
  | _, _, .nil => by unfold ltF; trivial
  | _, _, .cons h r => by unfold ltF; exact ⟨h.lt, r.lt⟩
theorem RepK.lt : ∀ {ds : List (D × D)} {vs : List (Key × V)}, RepK K G ds vs → ltP G.as.length ds
  | _, _, .nil => by unfold ltP; trivial
  | _, _, .cons h r => by unfold ltP; exact ⟨kD_lt _ _, h.lt, r.lt⟩
theorem RepT.lt : ∀ {ds : List (D × D)} {vs : List (List Key × V)}, RepT K G ds vs → ltP G.as.length ds
  | _, _, .nil => by unfold ltP; trivial
  | _, _, .cons h r => by unfold ltP; exact ⟨by unfold D.lt; exact kDs_lt _ _, h.lt, r.lt⟩
end
/-! cells may be left away that are not mentioned -/
mutual
theorem Rep.cut {as : List Addr} (e : as <+: G.as) : ∀ {d : D} {v : V}, Rep K G d v → d.lt as.length → Rep K ⟨G.g, as⟩ d v
  | _, _, .non, _ => .non
  | _, _, .bl b, _ => .bl b
  | _, _, .int i, _ => .int i
  | _, _, .str x, _ => .str x
  | _, _, .lst h r, l => .lst h (Reps.cut e r (by unfold D.lt at l; exact l))
  | _, _, .tup h r, l => .tup h (Reps.cut e r (by unfold D.lt at l; exact l))
  | _, _, .dicT h r, l => .dicT h (RepT.cut e r (by unfold D.lt at l; exact l))
  | _, _, .obj h r, l => .obj h (RepF.cut e r (by unfold D.lt at l; exact l))
  | _, _, .fn x, _ => .fn x
  | _, _, .ty x, _ => .ty x
  | _, _, .ref h, l => .ref (by
    unfold D.lt at l
    obtain ⟨t, ht⟩ := e
    rw [← ht, List.getElem?_append_left l] at h
    exact h)
  | _, _, .scr h l, _ => .scr h l
theorem Reps.cut {as : List Addr} (e : as <+: G.as) : ∀ {ds : List D} {vs : List V}, Reps K G ds vs → ltL as.length ds → Reps K ⟨G.g, as⟩ ds vs
  | _, _, .nil, _ => .nil
  | _, _, .cons h r, l => by
    unfold ltL at l
    exact .cons (Rep.cut e h l.1) (Reps.cut e r l.2)
theorem RepF.cut {as : List Addr} (e : as <+: G.as) : ∀ {ds : List (Str × D)} {vs : List (Str × V)}, RepF K G ds vs → ltF as.length ds → RepF K ⟨G.g, as⟩ ds vs
  | _, _, .nil, _ => .nil
  | _, _, .cons h r, l => by
    unfold ltF at l
    exact .cons (Rep.cut e h l.1) (RepF.cut e r l.2)
theorem RepK.cut {as : List Addr} (e : as <+: G.as) : ∀ {ds : List (D × D)} {vs : List (Key × V)}, RepK K G ds vs → ltP as.length ds → RepK K ⟨G.g, as⟩ ds vs
  | _, _, .nil, _ => .nil
  | _, _, .cons h r, l => by
    unfold ltP at l
    exact .cons (Rep.cut e h l.2.1) (RepK.cut e r l.2.2)
theorem RepT.cut {as : List Addr} (e : as <+: G.as) : ∀ {ds : List (D × D)} {vs : List (List Key × V)}, RepT K G ds vs → ltP as.length ds → RepT K ⟨G.g, as⟩ ds vs
  | _, _, .nil, _ => .nil
  | _, _, .cons h r, l => by
    unfold ltP at l
    exact .cons (Rep.cut e h l.2.1) (RepT.cut e r l.2.2)
end
theorem Reps.length : ∀ {ds : List D} {vs : List V}, Reps K G ds vs → ds.length = vs.length
  | _, _, .nil => rfl
  | _, _, .cons _ r => congrArg Nat.succ r.length
theorem Reps.get : ∀ {ds : List D} {vs : List V} {i : Nat} {d : D}, Reps K G ds vs → ds[i]? = some d → ∃ v, vs[i]? = some v ∧ Rep K G d v
  | _, _, _, _, .nil, e => by simp at e
  | _, _, 0, _, .cons h _, e => by simp at e; subst e; exact ⟨_, rfl, h⟩
  | _, _, i + 1, d, .cons _ r, e => by
    obtain ⟨v, h1, h2⟩ := Reps.get (i := i) (d := d) r (by simpa using e)
    exact ⟨v, by simpa using h1, h2⟩
theorem Reps.append : ∀ {ds es : List D} {vs us : List V}, Reps K G ds vs → Reps K G es us → Reps K G (ds ++ es) (vs ++ us)
  | _, _, _, _, .nil, s => s
  | _, _, _, _, .cons h r, s => .cons h (Reps.append r s)
theorem Reps.one {d : D} {v : V} (h : Rep K G d v) : Reps K G [d] [v] := .cons h .nil
theorem Reps.set {d : D} {v : V} (h : Rep K G d v) : ∀ {ds : List D} {vs : List V} (i : Nat), Reps K G ds vs → Reps K G (ds.set i d) (vs.set i v)
  | _, _, _, .nil => .nil
  | _, _, 0, .cons _ r => .cons h r
  | _, _, i + 1, .cons q r => .cons q (Reps.set h i r)
theorem Reps.ints : ∀ (ns : List Int), Reps K G (ns.map D.int) (ns.map V.int)
  | [] => .nil
  | n :: ns => .cons (.int n) (Reps.ints ns)
end
/-! ### errors -/
structure Er where
  cls : Str
  fld : Option (Str × D)
def Er.lt (k : Nat) (e : Er) : Prop := match e.fld with
  | none => True
  | some (_, d) => d.lt k
def ErAt (K : PySem.W.Frag) (G : Gh) (e : Er) (c : Value) (dx : Option Addr) : Prop := c = .ref (He.ga K e.cls) ∧ match e.fld with
  | none => dx = none
  | some (f, x) => ∃ d v, dx = some d ∧ G.g d = some (.xd [(f, v)]) ∧ Rep K G x v
theorem ErAt.mono {K : PySem.W.Frag} {G G2 : Gh} {e : Er} {c : Value} {dx : Option Addr} (g : G.le G2) (h : ErAt K G e c dx) : ErAt K G2 e c dx := by
  obtain ⟨h1, h2⟩ := h
  refine ⟨h1, ?_⟩
  revert h2
  cases e.fld with
  | none => exact fun h => h
  | some p => exact fun ⟨d, v, e1, e2, e3⟩ => ⟨d, v, e1, g.g _ _ e2, e3.mono g⟩
theorem ErAt.cut {K : PySem.W.Frag} {G : Gh} {e : Er} {c : Value} {dx : Option Addr} {as : List Addr} (g : as <+: G.as) (h : ErAt K G e c dx) (l : e.lt as.length) : ErAt K ⟨G.g, as⟩ e c dx := by
  obtain ⟨h1, h2⟩ := h
  refine ⟨h1, ?_⟩
  revert h2
  unfold Er.lt at l
  revert l
  cases e.fld with
  | none => exact fun _ h => h
  | some p => exact fun l ⟨d, v, e1, e2, e3⟩ => ⟨d, v, e1, e2, e3.cut g l⟩
/-! ### slots -/
inductive A where
  | no | d (x : D) | exc (a : Addr) (c : Value) (dx : Option Addr) (e : Er)
def SlotOk (K : PySem.W.Frag) (G : Gh) : A → Option (Option V) → Prop
  | .no, _ => True
  | .d x, v => ∃ u, v = some (some u) ∧ Rep K G x u
  | .exc a c dx e, v => v = some (some (.ref a)) ∧ ErAt K G e c dx
structure Sl (K : PySem.W.Frag) (G : Gh) (env : List A) (σ : St) : Prop where
  len : env.length = σ.length
  slot : ∀ (i : Nat) (x : A), env[i]? = some x → SlotOk K G x (σ[i]?)
theorem SlotOk.mono {K : PySem.W.Frag} {G G2 : Gh} (g : G.le G2) {x : A} {v : Option (Option V)} (s : SlotOk K G x v) : SlotOk K G2 x v := by
  cases x with
  | no => trivial
  | d y => exact ⟨s.choose, s.choose_spec.1, s.choose_spec.2.mono g⟩
  | exc a c dx e => exact ⟨s.1, s.2.mono g⟩
theorem Sl.mono {K : PySem.W.Frag} {G G2 : Gh} (g : G.le G2) {env : List A} {σ : St} (s : Sl K G env σ) : Sl K G2 env σ := ⟨s.len, fun i x e => (s.slot i x e).mono g⟩
theorem get_set {α : Type} {l : List α} {i j : Nat} {x y : α} (h : (l.set i x)[j]? = some y) : (j = i ∧ y = x ∧ i < l.length) ∨ (j ≠ i ∧ l[j]? = some y) := by
  by_cases hj : j = i
  · subst hj
    by_cases hl : j < l.length
    · rw [List.getElem?_set_self hl] at h
      exact .inl ⟨rfl, (Option.some.inj h).symm, hl⟩
    · rw [List.getElem?_eq_none (by rw [List.length_set]; omega)] at h
      cases h
  · rw [List.getElem?_set_ne (Ne.symm hj)] at h
    exact .inr ⟨hj, h⟩
theorem Sl.put {K : PySem.W.Frag} {G : Gh} {env : List A} {σ : St} (s : Sl K G env σ) (i : Nat) {x : A} {v : Option V} (h : SlotOk K G x (some v)) : Sl K G (env.set i x) (σ.set i v) := by
  refine ⟨by rw [List.length_set, List.length_set]; exact s.len, fun j y e => ?_⟩
  rcases get_set e with ⟨rfl, rfl, hl⟩ | ⟨hj, e⟩
  · rw [List.getElem?_set_self (by rw [← s.len]; exact hl)]
    exact h
  · rw [List.getElem?_set_ne (Ne.symm hj)]
    exact s.slot j y e
theorem Sl.set {K : PySem.W.Frag} {G : Gh} {env : List A} {σ : St} {v : V} {d : D} (s : Sl K G env σ) (i : Nat) (r : Rep K G d v) : Sl K G (env.set i (.d d)) (σ.set i (some v)) := s.put i ⟨v, rfl, r⟩
theorem Sl.drop {K : PySem.W.Frag} {G : Gh} {env : List A} {σ : St} (s : Sl K G env σ) (i : Nat) (v : Option V) : Sl K G (env.set i .no) (σ.set i v) := s.put i trivial
/-! ### the store -/
def CellOk (K : PySem.W.Frag) (G : Gh) (H : Hp) : C → Addr → Prop
  | .lst l, p => ∃ vs, G.g p = none ∧ H p = some (.lst vs) ∧ Reps K G l vs
  | .dic l, p => G.g p = none ∧ ∃ kvs, H p = some (.dT kvs) ∧ RepT K G l kvs
  | .obj c fs, p => ∃ dx vs, G.g p = none ∧ H p = some (.ins (He.ga K c) dx vs) ∧ RepF K G fs vs
  | .pool n ns, p => G.g p = none ∧ ∃ (at_ lf : Int) (q : Addr), H p = some (.lst [.int at_, .int lf, .ref q]) ∧ 0 ≤ at_ ∧ at_ ≤ n ∧ 0 ≤ lf ∧ G.g q = some (.lst (ns.map V.int)) ∧ ns.length ≤ 63
  | .dead, p => H p ≠ none
structure SS (K : PySem.W.Frag) (G : Gh) (st : S) (H : Hp) : Prop where
  ex : Ex G.g H
  len : G.as.length = st.length
  nd : G.as.Nodup
  cell : ∀ (n : Nat) (c : C) (p : Addr), st[n]? = some c → G.as[n]? = some p → CellOk K G H c p
theorem CellOk.live {K : PySem.W.Frag} {G : Gh} {H : Hp} {c : C} {p : Addr} (h : CellOk K G H c p) : H p ≠ none := by
  cases c with
  | lst l => obtain ⟨vs, _, e, _⟩ := h; rw [e]; exact fun z => nomatch z
  | dic l =>
    obtain ⟨kvs, e, _⟩ := h.2
    rw [e]; exact fun z => nomatch z
  | obj c fs => obtain ⟨dx, vs, _, e, _⟩ := h; rw [e]; exact fun z => nomatch z
  | pool n ns => obtain ⟨_, a, l, q, e, _⟩ := h; rw [e]; exact fun z => nomatch z
  | dead => exact h
theorem CellOk.mono {K : PySem.W.Frag} {G G2 : Gh} {H H2 : Hp} {c : C} {p : Addr} (g : G.le G2) (hh : ∀ o, H p = some o → H2 p = some o) (hn : c ≠ .dead → G.g p = none → G2.g p = none) (h : CellOk K G H c p) : CellOk K G2 H2 c p := by
  cases c with
  | lst l => obtain ⟨vs, gp, e, r⟩ := h; exact ⟨vs, hn (fun z => nomatch z) gp, hh _ e, r.mono g⟩
  | dic l =>
    refine ⟨hn (fun z => nomatch z) h.1, ?_⟩
    obtain ⟨kvs, e, r⟩ := h.2
    exact ⟨kvs, hh _ e, r.mono g⟩
  | obj c fs => obtain ⟨dx, vs, gp, e, r⟩ := h; exact ⟨dx, vs, hn (fun z => nomatch z) gp, hh _ e, r.mono g⟩
  | pool n ns =>
    obtain ⟨gp, a, l, q, e, h1, h2, h3, h4, h5⟩ := h
    exact ⟨hn (fun z => nomatch z) gp, a, l, q, hh _ e, h1, h2, h3, g.g _ _ h4, h5⟩
  | dead =>
    cases e : H p with
    | none => exact absurd e h
    | some o => show H2 p ≠ none; rw [hh _ e]; exact fun z => nomatch z
section
variable {K : PySem.W.Frag} {G G2 : Gh} {H H2 : Hp} {st st2 : S}
theorem SS.live (s : SS K G st H) {p : Addr} (h : p ∈ G.as) : H p ≠ none := by
  obtain ⟨n, e⟩ := List.mem_iff_getElem?.mp h
  have hn : n < st.length := by rw [← s.len]; exact (List.getElem?_eq_some_iff.mp e).1
  exact (s.cell n st[n] p (List.getElem?_eq_getElem hn) e).live
theorem SS.fresh (s : SS K G st H) {p : Addr} (h : H p = none) : p ∉ G.as := fun z => s.live z h
theorem SS.wf (s : SS K G st H) : ltS st.length st := fun c hc => by
  obtain ⟨n, e⟩ := List.mem_iff_getElem?.mp hc
  have hn : n < G.as.length := by rw [s.len]; exact (List.getElem?_eq_some_iff.mp e).1
  have h := s.cell n c _ e (List.getElem?_eq_getElem hn)
  rw [← s.len]
  cases c with
  | lst l => obtain ⟨vs, _, _, r⟩ := h; exact r.lt
  | dic l =>
    obtain ⟨kvs, _, r⟩ := h.2
    exact r.lt
  | obj c fs => obtain ⟨dx, vs, _, _, r⟩ := h; exact r.lt
  | pool n ns => trivial
  | dead => trivial
end
/-! ### what may come between -/
structure Post (G : Gh) (H : Hp) (G2 : Gh) (H2 : Hp) : Prop where
  le : G.le G2
  h : ∀ x o, H x = some o → x ∉ G.as → H2 x = some o
  n : ∀ x, G.g x = none → H x ≠ none → x ∉ G.as → G2.g x = none
  o : ∀ x, x ∈ G2.as → x ∈ G.as ∨ H x = none
  m : ∀ x, H x ≠ none → H2 x ≠ none
theorem Post.refl {G : Gh} {H : Hp} : Post G H G H := ⟨Gh.le.refl G, fun _ _ h _ => h, fun _ h _ _ => h, fun _ h => .inl h, fun _ h => h⟩
theorem Post.trans {G G2 G3 : Gh} {H H2 H3 : Hp} (p : Post G H G2 H2) (q : Post G2 H2 G3 H3) : Post G H G3 H3 := by
  have no : ∀ {x : Addr}, H x ≠ none → x ∉ G.as → x ∉ G2.as := fun {x} h1 h2 z => by
    rcases p.o x z with z | z
    · exact h2 z
    · exact h1 z
  have ne : ∀ {x : Addr} {o : HO}, H x = some o → H x ≠ none := fun e => by rw [e]; exact fun z => nomatch z
  exact ⟨p.le.trans q.le, fun x o e k => q.h x o (p.h x o e k) (no (ne e) k), fun x e k l => q.n x (p.n x e k l) (p.m x k) (no k l), fun x z => by
    rcases q.o x z with z | z
    · exact p.o x z
    · refine .inr ?_
      cases hh : H x with
      | none => rfl
      | some o => exact absurd z (p.m x (ne hh)), fun x k => q.m x (p.m x k)⟩
/-! ### readings by data -/
abbrev QX := Er → S → Prop
abbrev AE := List A → S → (D → S → Prop) → QX → Prop
abbrev AT := List A → S → (Bool → S → Prop) → QX → Prop
inductive Rs where
  | d (x : D) | own (l : List D) | ownD (l : List (D × D))
structure AK where
  nx : List A → S → Prop
  rt : Rs → S → Prop
  bk : List A → S → Prop
  ct : List A → S → Prop
  er : Er → List A → S → Prop
abbrev AS := List A → S → AK → Prop
def ThenE (K : PySem.W.Frag) (G : Gh) (H : Hp) (q : D → S → Prop) (Q : VK) : Prop := ∀ v d st2 G2 H2, Post G H G2 H2 → SS K G2 st2 H2 → Rep K G2 d v → q d st2 → Q v H2
def ThenT (K : PySem.W.Frag) (G : Gh) (H : Hp) (q : Bool → S → Prop) (Q : Bool → Hp → Prop) : Prop := ∀ b st2 G2 H2, Post G H G2 H2 → SS K G2 st2 H2 → q b st2 → Q b H2
def ThenX (K : PySem.W.Frag) (W : WX) (G : Gh) (H : Hp) (σ : St) (er : QX) : Prop := ∀ e c dx st2 G2 H2, Post G H G2 H2 → SS K G2 st2 H2 → ErAt K G2 e c dx → er e st2 → W c dx σ H2
def RefE (K : PySem.W.Frag) (W : WX) (te : TE) (ae : AE) : Prop := ∀ G env st σ H (Q : VK) (q : D → S → Prop) (er : QX), SS K G st H → Sl K G env σ → ae env st q er → ThenE K G H q Q → ThenX K W G H σ er → te σ H Q
def RefT (K : PySem.W.Frag) (W : WX) (tt : TT) (at_ : AT) : Prop := ∀ G env st σ H (Q : Bool → Hp → Prop) (q : Bool → S → Prop) (er : QX), SS K G st H → Sl K G env σ → at_ env st q er → ThenT K G H q Q → ThenX K W G H σ er → tt σ H Q
theorem ThenE.on {K : PySem.W.Frag} {G G2 : Gh} {H H2 : Hp} {q : D → S → Prop} {Q : VK} (t : ThenE K G H q Q) (p : Post G H G2 H2) : ThenE K G2 H2 q Q := fun v d st3 G3 H3 p2 => t v d st3 G3 H3 (p.trans p2)
theorem ThenT.on {K : PySem.W.Frag} {G G2 : Gh} {H H2 : Hp} {q : Bool → S → Prop} {Q : Bool → Hp → Prop} (t : ThenT K G H q Q) (p : Post G H G2 H2) : ThenT K G2 H2 q Q := fun v st3 G3 H3 p2 => t v st3 G3 H3 (p.trans p2)
theorem ThenX.on {K : PySem.W.Frag} {W : WX} {G G2 : Gh} {H H2 : Hp} {σ : St} {er : QX} (t : ThenX K W G H σ er) (p : Post G H G2 H2) : ThenX K W G2 H2 σ er := fun e c dx st3 G3 H3 p2 => t e c dx st3 G3 H3 (p.trans p2)
theorem ThenX.none {K : PySem.W.Frag} {W : WX} {G : Gh} {H : Hp} {σ : St} : ThenX K W G H σ (fun _ _ => False) := fun _ _ _ _ _ _ _ _ _ z => z.elim
/-! ### what is walked: while what it reads stands, turn i yields the i-th item (new tuples may come) -/
/-- cells that must stand as they are -/
abbrev Gd := List (Nat × C)
def gdOk (gd : Gd) (st : S) : Prop := ∀ x ∈ gd, st[x.1]? = some x.2
structure Walks (K : PySem.W.Frag) (G0 : Gh) (J : It) (ds : List D) (gd : Gd) : Prop where
  stop : ∀ i G st H, G0.le G → SS K G st H → gdOk gd st → ds.length = i → J.stop i H
  go : ∀ i G st H, G0.le G → SS K G st H → gdOk gd st → i < ds.length → J.go i H
  yld : ∀ i G st H d x H', G0.le G → SS K G st H → gdOk gd st → ds[i]? = some d → J.yld i H x H' → (H' = H ∧ Rep K G d x) ∨ ∃ p xs es, H p = none ∧ H' = upd H p (.tup xs) ∧ x = .ref p ∧ d = .tup es ∧ Reps K G es xs
abbrev AI := List A → S → (List D → Gd → S → Prop) → QX → Prop
def RefI (K : PySem.W.Frag) (W : WX) (wi : TI) (ai : AI) : Prop := ∀ G env st σ H (R : It → Hp → Prop) (q : List D → Gd → S → Prop) (er : QX), SS K G st H → Sl K G env σ → ai env st q er →
  (∀ J ds gd st2 G2 H2, Post G H G2 H2 → SS K G2 st2 H2 → Walks K G2 J ds gd → q ds gd st2 → R J H2) → ThenX K W G H σ er → wi σ H R
/-! ### results, statements -/
/-- a dict with tuples as keys -/
def DctAt (K : PySem.W.Frag) (G2 : Gh) (H2 : Hp) (p : Addr) (l : List (D × D)) : Prop := ∃ kvs, H2 p = some (.dT kvs) ∧ RepT K G2 l kvs
def ResOk (K : PySem.W.Frag) (H : Hp) (G2 : Gh) (H2 : Hp) : Rs → V → Prop
  | .d x, v => Rep K G2 x v
  | .own l, v => ∃ p vs, v = .ref p ∧ H2 p = some (.lst vs) ∧ G2.g p = none ∧ p ∉ G2.as ∧ H p = none ∧ Reps K G2 l vs
  | .ownD l, v => ∃ p, v = .ref p ∧ DctAt K G2 H2 p l ∧ G2.g p = none ∧ p ∉ G2.as ∧ H p = none
theorem ResOk.on {K : PySem.W.Frag} {G G2 G3 : Gh} {H H2 H3 : Hp} {r : Rs} {v : V} (p : Post G H G2 H2) (h : ResOk K H2 G3 H3 r v) : ResOk K H G3 H3 r v := by
  cases r with
  | d x => exact h
  | own l =>
    obtain ⟨a, vs, e1, e2, e3, e4, e5, e6⟩ := h
    refine ⟨a, vs, e1, e2, e3, e4, ?_, e6⟩
    cases hh : H a with
    | none => rfl
    | some o => exact absurd e5 (p.m a (by rw [hh]; exact fun z => nomatch z))
  | ownD l =>
    obtain ⟨a, e1, e2, e3, e4, e5⟩ := h
    refine ⟨a, e1, e2, e3, e4, ?_⟩
    cases hh : H a with
    | none => rfl
    | some o => exact absurd e5 (p.m a (by rw [hh]; exact fun z => nomatch z))
structure ThenS (K : PySem.W.Frag) (W : WX) (G : Gh) (H : Hp) (k : AK) (D : Ends) : Prop where
  nx : ∀ env' σ' st2 G2 H2, Post G H G2 H2 → SS K G2 st2 H2 → Sl K G2 env' σ' → k.nx env' st2 → D.nx σ' H2
  rt : ∀ v r st2 G2 H2, Post G H G2 H2 → SS K G2 st2 H2 → ResOk K H G2 H2 r v → k.rt r st2 → D.rt v H2
  bk : ∀ env' σ' st2 G2 H2, Post G H G2 H2 → SS K G2 st2 H2 → Sl K G2 env' σ' → k.bk env' st2 → D.bk σ' H2
  ct : ∀ env' σ' st2 G2 H2, Post G H G2 H2 → SS K G2 st2 H2 → Sl K G2 env' σ' → k.ct env' st2 → D.ct σ' H2
  er : ∀ e c dx env' σ' st2 G2 H2, Post G H G2 H2 → SS K G2 st2 H2 → Sl K G2 env' σ' → ErAt K G2 e c dx → k.er e env' st2 → W c dx σ' H2
def RefS (K : PySem.W.Frag) (W : WX) (ts : TS) (as : AS) : Prop := ∀ G env st σ H (D : Ends) (k : AK), SS K G st H → Sl K G env σ → as env st k → ThenS K W G H k D → ts D σ H
theorem ThenS.on {K : PySem.W.Frag} {W : WX} {G G2 : Gh} {H H2 : Hp} {k : AK} {D : Ends} (t : ThenS K W G H k D) (p : Post G H G2 H2) : ThenS K W G2 H2 k D :=
  ⟨fun env' σ' st3 G3 H3 p2 => t.nx env' σ' st3 G3 H3 (p.trans p2), fun v d st3 G3 H3 p2 s2 r2 => t.rt v d st3 G3 H3 (p.trans p2) s2 (r2.on p), fun env' σ' st3 G3 H3 p2 => t.bk env' σ' st3 G3 H3 (p.trans p2), fun env' σ' st3 G3 H3 p2 => t.ct env' σ' st3 G3 H3 (p.trans p2), fun e c dx env' σ' st3 G3 H3 p2 => t.er e c dx env' σ' st3 G3 H3 (p.trans p2)⟩
/-- errors of an expression within a statement -/
theorem ThenS.x {K : PySem.W.Frag} {W : WX} {G : Gh} {H : Hp} {k : AK} {D : Ends} {env : List A} {σ : St} (t : ThenS K W G H k D) (s : Sl K G env σ) : ThenX K W G H σ (fun e st => k.er e env st) :=
  fun e c dx st2 G2 H2 p s2 ea h => t.er e c dx env σ st2 G2 H2 p s2 (s.mono p.le) ea h
/-! ### judgements -/
def AX (X : Cx) (W : WX) (e : Expr) (ae : AE) : Prop := ∃ te, PE X e te ∧ RefE X.K W te ae
def AXT (X : Cx) (W : WX) (e : Expr) (a : AT) : Prop := ∃ tt, PT X e tt ∧ RefT X.K W tt a
def AXW (X : Cx) (W : WX) (e : Expr) (a : AT) : Prop := ∃ tt, PW X e tt ∧ RefT X.K W tt a
def AXI (X : Cx) (W : WX) (tg e : Expr) (a : AI) : Prop := ∃ wi, PI X tg e wi ∧ RefI X.K W wi a
def AXS (X : Cx) (W : WX) (st : Stmt) (a : AS) : Prop := ∃ ts, PS X st ts ∧ RefS X.K W ts a
def AXB (X : Cx) (W : WX) (st : List Stmt) (a : AS) : Prop := ∃ ts, PSs X st ts ∧ RefS X.K W ts a
end AM
set_option Elab.async false
set_option linter.all false
set_option maxRecDepth 100000
set_option maxHeartbeats 4000000
namespace AM
open PySem L2 Evl
/-! ### the store changes -/
theorem mem_ne {l : List Addr} {p q : Addr} (h : p ∉ l) (m : q ∈ l) : q ≠ p := fun z => h (z ▸ m)
theorem live_ne {H : Hp} {p q : Addr} (h : H p = none) (k : H q ≠ none) : q ≠ p := fun z => k (z ▸ h)
theorem mem_ne' {l : List Addr} {p q : Addr} (m : p ∈ l) (h : q ∉ l) : q ≠ p := fun z => h (z ▸ m)
section
variable {K : PySem.W.Frag} {G G2 : Gh} {H H2 : Hp} {st : S}
theorem le_new {p : Addr} {o : HO} (gp : G.g p = none) : G.le ⟨upd G.g p o, G.as⟩ := ⟨Ex.new gp, List.prefix_refl _⟩
theorem ne_some {x : Addr} {o : HO} (e : H x = some o) : H x ≠ none := by rw [e]; exact fun z => nomatch z
/-- what is new and frozen -/
theorem SS.new (s : SS K G st H) {p : Addr} {o : HO} (hp : H p = none) : SS K ⟨upd G.g p o, G.as⟩ st (upd H p o) ∧ Post G H ⟨upd G.g p o, G.as⟩ (upd H p o) := by
  have gp : G.g p = none := fresh_back s.ex hp
  have le : G.le ⟨upd G.g p o, G.as⟩ := le_new gp
  refine ⟨⟨fun a u e => ?_, s.len, s.nd, fun n c q e1 e2 => (s.cell n c q e1 e2).mono le (fun u e => ?_) (fun _ e => ?_)⟩, le, fun x u e _ => Ex.new hp x u e, fun x e k _ => ?_, fun x z => .inl z, fun x k => ?_⟩
  · have e : (upd G.g p o) a = some u := e
    by_cases h : a = p
    · subst h; rw [upd_same] at e ⊢; exact e
    · rw [upd_ne h] at e ⊢; exact s.ex a u e
  · rw [upd_ne (mem_ne (s.fresh hp) (List.mem_of_getElem? e2))]; exact e
  · show (upd G.g p o) q = none
    rw [upd_ne (mem_ne (s.fresh hp) (List.mem_of_getElem? e2))]; exact e
  · show (upd G.g p o) x = none
    rw [upd_ne (live_ne hp k)]; exact e
  · by_cases h : x = p
    · subst h; exact absurd hp k
    · rw [upd_ne h]; exact k
/-- what is new and nobody's yet -/
theorem SS.room (s : SS K G st H) {p : Addr} {o : HO} (hp : H p = none) : SS K G st (upd H p o) ∧ Post G H G (upd H p o) ∧ p ∉ G.as ∧ G.g p = none := by
  have gp : G.g p = none := fresh_back s.ex hp
  refine ⟨⟨fun a u e => Ex.new hp a u (s.ex a u e), s.len, s.nd, fun n c q e1 e2 => (s.cell n c q e1 e2).mono (Gh.le.refl G) (fun u e => Ex.new hp q u e) (fun _ e => e)⟩, ⟨Gh.le.refl G, fun x u e _ => Ex.new hp x u e, fun x e _ _ => e, fun x z => .inl z, fun x k => ?_⟩, s.fresh hp, gp⟩
  by_cases h : x = p
  · subst h; exact absurd hp k
  · rw [upd_ne h]; exact k
/-- what is nobody's is frozen -/
theorem SS.freeze (s : SS K G st H) {p : Addr} {o : HO} (hp : H p = some o) (gp : G.g p = none) (np : p ∉ G.as) : SS K ⟨upd G.g p o, G.as⟩ st H ∧ G.le ⟨upd G.g p o, G.as⟩ := by
  have le : G.le ⟨upd G.g p o, G.as⟩ := le_new gp
  refine ⟨⟨fun a u e => ?_, s.len, s.nd, fun n c q e1 e2 => (s.cell n c q e1 e2).mono le (fun u e => e) (fun _ e => ?_)⟩, le⟩
  · have e : (upd G.g p o) a = some u := e
    by_cases h : a = p
    · subst h; rw [upd_same] at e; rw [hp]; exact e
    · rw [upd_ne h] at e; exact s.ex a u e
  · show (upd G.g p o) q = none
    rw [upd_ne (mem_ne np (List.mem_of_getElem? e2))]; exact e
/-- .. of something that came on the way -/
theorem Post.freeze {G0 : Gh} {H0 : Hp} (po : Post G0 H0 G H) {p : Addr} {o : HO} (gp : G.g p = none) (hn : H0 p = none) : Post G0 H0 ⟨upd G.g p o, G.as⟩ H :=
  ⟨po.le.trans (le_new gp), po.h, fun x e k l => by
    show (upd G.g p o) x = none
    rw [upd_ne (live_ne hn k)]; exact po.n x e k l, po.o, po.m⟩
/-- what is nobody's becomes a cell -/
theorem le_cell {p : Addr} : G.le ⟨G.g, G.as ++ [p]⟩ := ⟨Ex.refl _, List.prefix_append _ _⟩
theorem SS.cellOf (s : SS K G st H) {p : Addr} {c : C} (np : p ∉ G.as) (hc : CellOk K ⟨G.g, G.as ++ [p]⟩ H c p) : SS K ⟨G.g, G.as ++ [p]⟩ (st ++ [c]) H := by
  refine ⟨s.ex, by rw [List.length_append, List.length_append, s.len]; rfl, ?_, fun n c' q e1 e2 => ?_⟩
  · show (G.as ++ [p]).Nodup
    rw [List.nodup_append]
    exact ⟨s.nd, by simp, fun a ha b hb => by
      have : b = p := by simpa using hb
      subst this
      exact fun z => np (z ▸ ha)⟩
  · have e2 : (G.as ++ [p])[n]? = some q := e2
    by_cases hn : n < st.length
    · rw [List.getElem?_append_left hn] at e1
      rw [List.getElem?_append_left (by rw [s.len]; exact hn)] at e2
      exact (s.cell n c' q e1 e2).mono le_cell (fun u e => e) (fun _ e => e)
    · have hl : n = st.length := by
        have := (List.getElem?_eq_some_iff.mp e1).1
        rw [List.length_append] at this
        simp at this
        omega
      subst hl
      rw [List.getElem?_append_right (Nat.le_refl _), Nat.sub_self] at e1
      rw [← s.len, List.getElem?_append_right (Nat.le_refl _), Nat.sub_self] at e2
      cases e1; cases e2
      exact hc
theorem Post.cellOf {G0 : Gh} {H0 : Hp} (po : Post G0 H0 G H) {p : Addr} (hn : H0 p = none) : Post G0 H0 ⟨G.g, G.as ++ [p]⟩ H :=
  ⟨po.le.trans le_cell, po.h, po.n, fun x z => by
    rcases List.mem_append.mp z with z | z
    · exact po.o x z
    · have : x = p := by simpa using z
      subst this
      exact .inr hn, po.m⟩
/-- a cell changes -/
theorem SS.setCell (s : SS K G st H) {n : Nat} {p : Addr} {c' : C} {o : HO} (hp : G.as[n]? = some p) (gp : G.g p = none) (hc : CellOk K G (upd H p o) c' p) : SS K G (st.set n c') (upd H p o) ∧ Post G H G (upd H p o) := by
  have hl : H p ≠ none := s.live (List.mem_of_getElem? hp)
  refine ⟨⟨fun a u e => ?_, by rw [List.length_set]; exact s.len, s.nd, fun m c q e1 e2 => ?_⟩, Gh.le.refl G, fun x u e k => ?_, fun x e _ _ => e, fun x z => .inl z, fun x k => ?_⟩
  · rw [upd_ne (fun z => by rw [z, gp] at e; cases e)]; exact s.ex a u e
  · rcases get_set e1 with ⟨rfl, rfl, _⟩ | ⟨hm, e1⟩
    · rw [hp] at e2; cases e2; exact hc
    · refine (s.cell m c q e1 e2).mono (Gh.le.refl G) (fun u e => ?_) (fun _ e => e)
      rw [upd_ne]
      · exact e
      · intro z
        subst z
        exact hm ((List.getElem?_inj (List.getElem?_eq_some_iff.mp e2).1 s.nd).mp (e2.trans hp.symm))
  · rw [upd_ne (mem_ne' (List.mem_of_getElem? hp) k)]; exact e
  · by_cases h : x = p
    · subst h; rw [upd_same]; exact fun z => nomatch z
    · rw [upd_ne h]; exact k
/-- a cell is frozen -/
theorem SS.freezeCell (s : SS K G st H) {n : Nat} {p : Addr} {o : HO} (hp : G.as[n]? = some p) (gp : G.g p = none) (hh : H p = some o) : SS K ⟨upd G.g p o, G.as⟩ (st.set n .dead) H ∧ Post G H ⟨upd G.g p o, G.as⟩ H := by
  have le : G.le ⟨upd G.g p o, G.as⟩ := le_new gp
  refine ⟨⟨fun a u e => ?_, by rw [List.length_set]; exact s.len, s.nd, fun m c q e1 e2 => ?_⟩, le, fun x u e _ => e, fun x e k l => ?_, fun x z => .inl z, fun x k => k⟩
  · have e : (upd G.g p o) a = some u := e
    by_cases h : a = p
    · subst h; rw [upd_same] at e; rw [hh]; exact e
    · rw [upd_ne h] at e; exact s.ex a u e
  · rcases get_set e1 with ⟨rfl, rfl, _⟩ | ⟨hm, e1⟩
    · have e2 : G.as[m]? = some q := e2
      rw [hp] at e2; cases e2; exact ne_some hh
    · refine (s.cell m c q e1 e2).mono le (fun u e => e) (fun _ e => ?_)
      show (upd G.g p o) q = none
      rw [upd_ne]
      · exact e
      · intro z
        subst z
        have e2 : G.as[m]? = some q := e2
        exact hm ((List.getElem?_inj (List.getElem?_eq_some_iff.mp e2).1 s.nd).mp (e2.trans hp.symm))
  · show (upd G.g p o) x = none
    rw [upd_ne (mem_ne' (List.mem_of_getElem? hp) l)]; exact e
/-- cells behind k are left away -/
theorem SS.cut (s : SS K G st H) {as : List Addr} (e : as <+: G.as) (l : ltS as.length (st.take as.length)) : SS K ⟨G.g, as⟩ (st.take as.length) H := by
  have hle : as.length ≤ st.length := by rw [← s.len]; exact e.length_le
  refine ⟨s.ex, by rw [List.length_take]; exact (Nat.min_eq_left hle).symm, s.nd.sublist e.sublist, fun n c p e1 e2 => ?_⟩
  have e2 : as[n]? = some p := e2
  have hn := (List.getElem?_eq_some_iff.mp e2).1
  have lc : C.lt as.length c := l c (List.mem_of_getElem? e1)
  rw [List.getElem?_take_of_lt hn] at e1
  have h := s.cell n c p e1 (pre_get e e2)
  cases c with
  | lst l => obtain ⟨vs, gp, e, r⟩ := h; exact ⟨vs, gp, e, r.cut ‹_› lc⟩
  | dic l =>
    refine ⟨h.1, ?_⟩
    obtain ⟨kvs, q, r⟩ := h.2
    exact ⟨kvs, q, r.cut ‹_› lc⟩
  | obj c fs => obtain ⟨dx, vs, gp, e, r⟩ := h; exact ⟨dx, vs, gp, e, r.cut ‹_› lc⟩
  | pool n ns => exact h
  | dead => exact h
theorem Post.cut {G0 : Gh} {H0 : Hp} (po : Post G0 H0 G H) : Post G0 H0 ⟨G.g, G0.as⟩ H := ⟨⟨po.le.g, List.prefix_refl _⟩, po.h, po.n, fun _ z => .inl z, po.m⟩
end
/-! ### a value as it is seen now: a cell's content -/
def vw (st : S) : D → D
  | .ref n => match st[n]? with
    | some (.lst l) => .lst l
    | some (.dic l) => .dic l
    | some (.obj c fs) => .obj c fs
    | _ => .ref n
  | d => d
inductive Rv (K : PySem.W.Frag) (G : Gh) (H : Hp) : D → V → Prop
  | non : Rv K G H .non .non
  | bl (b : Bool) : Rv K G H (.bl b) (.bl b)
  | int (i : Int) : Rv K G H (.int i) (.int i)
  | str (x : Str) : Rv K G H (.str x) (.str x)
  | lst {p : Addr} {vs : List V} {ds : List D} : H p = some (.lst vs) → Reps K G ds vs → Rv K G H (.lst ds) (.ref p)
  | tup {p : Addr} {vs : List V} {ds : List D} : H p = some (.tup vs) → Reps K G ds vs → Rep K G (.tup ds) (.ref p) → Rv K G H (.tup ds) (.ref p)
  | dicT {p : Addr} {kvs : List (List Key × V)} {ds : List (D × D)} : H p = some (.dT kvs) → RepT K G ds kvs → Rv K G H (.dic ds) (.ref p)
  | obj {c : Str} {p dx : Addr} {fs : List (Str × D)} {vs : List (Str × V)} : H p = some (.ins (He.ga K c) dx vs) → RepF K G fs vs → Rv K G H (.obj c fs) (.ref p)
  | fn (x : Str) : Rv K G H (.fn x) (.ref (He.ga K x))
  | ty (n : String) : Rv K G H (.ty n) (.ty n)
  | ref {n : Nat} {v : V} : Rv K G H (.ref n) v
  | scr {ns : List Int} {p : Addr} : SqL K H p (ns.map V.int) → ns.length ≤ 63 → Rv K G H (.scr ns) (.ref p)
inductive Rvs (K : PySem.W.Frag) (G : Gh) (H : Hp) : List D → List V → Prop
  | nil : Rvs K G H [] []
  | cons {d : D} {v : V} {ds : List D} {vs : List V} : Rv K G H d v → Rvs K G H ds vs → Rvs K G H (d :: ds) (v :: vs)
theorem Rep.vw {K : PySem.W.Frag} {G : Gh} {H : Hp} {st : S} {d : D} {v : V} (r : Rep K G d v) (s : SS K G st H) : Rv K G H (vw st d) v := by
  cases r with
  | non => exact .non
  | bl b => exact .bl b
  | int i => exact .int i
  | str x => exact .str x
  | lst h r => exact .lst (s.ex _ _ h) r
  | tup h r => exact .tup (s.ex _ _ h) r (.tup h r)
  | dicT h r => exact .dicT (s.ex _ _ h) r
  | obj h r => exact .obj (s.ex _ _ h) r
  | fn x => exact .fn x
  | ty x => exact .ty x
  | scr h l => exact .scr (ex_l s.ex h) l
  | ref e =>
    rename_i n p
    cases hc : st[n]? with
    | none =>
      have q : AM.vw st (.ref n) = .ref n := by unfold AM.vw; simp only [hc]
      rw [q]
      exact .ref
    | some c =>
      have h := s.cell n c p hc e
      unfold AM.vw
      simp only [hc]
      cases c with
      | lst l => obtain ⟨vs, _, h1, r⟩ := h; exact .lst h1 r
      | dic l =>
        obtain ⟨kvs, h1, r⟩ := h.2
        exact .dicT h1 r
      | obj c fs => obtain ⟨dx, vs, _, h1, r⟩ := h; exact .obj h1 r
      | pool n ns => exact .ref
      | dead => exact .ref
theorem Reps.vw {K : PySem.W.Frag} {G : Gh} {H : Hp} {st : S} (s : SS K G st H) : ∀ {ds : List D} {vs : List V}, Reps K G ds vs → Rvs K G H (ds.map (vw st)) vs
  | _, _, .nil => .nil
  | _, _, .cons h r => .cons (h.vw s) (Reps.vw s r)
/-! ### operations on values as they are seen -/
def Then1 (K : PySem.W.Frag) (G : Gh) (st : S) (H : Hp) (q : D → Prop) (Q : VK) : Prop := ∀ v d G2 H2, Post G H G2 H2 → SS K G2 st H2 → Rep K G2 d v → q d → Q v H2
abbrev O1 := D → (D → Prop) → Prop
abbrev O2 := D → D → (D → Prop) → Prop
abbrev ON := List D → (D → Prop) → Prop
def RefO (K : PySem.W.Frag) (r : R2) (f : O2) : Prop := ∀ G st H x y dx dy (Q : VK) (q : D → Prop), SS K G st H → Rv K G H dx x → Rv K G H dy y → f dx dy q → Then1 K G st H q Q → r x y H Q
def RefU (K : PySem.W.Frag) (r : V → Hp → VK → Prop) (f : O1) : Prop := ∀ G st H x dx (Q : VK) (q : D → Prop), SS K G st H → Rv K G H dx x → f dx q → Then1 K G st H q Q → r x H Q
def RefN (K : PySem.W.Frag) (r : List V → Hp → VK → Prop) (f : ON) : Prop := ∀ G st H xs ds (Q : VK) (q : D → Prop), SS K G st H → Rvs K G H ds xs → f ds q → Then1 K G st H q Q → r xs H Q
section
variable {K : PySem.W.Frag} {G : Gh} {H : Hp} {st : S} {q : D → Prop} {Q : VK}
theorem Then1.here {v : V} {d : D} (t : Then1 K G st H q Q) (s : SS K G st H) (r : Rep K G d v) (h : q d) : Q v H := t v d G H Post.refl s r h
theorem Then1.newL {vs : List V} {ds : List D} (t : Then1 K G st H q Q) (s : SS K G st H) (r : Reps K G ds vs) (h : q (.lst ds)) {p : Addr} (hp : H p = none) : Q (.ref p) (upd H p (.lst vs)) := by
  obtain ⟨s2, p2⟩ := s.new (o := .lst vs) hp
  exact t (.ref p) (.lst ds) _ _ p2 s2 (.lst upd_same (r.mono p2.le)) h
theorem Then1.newT {vs : List V} {ds : List D} (t : Then1 K G st H q Q) (s : SS K G st H) (r : Reps K G ds vs) (h : q (.tup ds)) {p : Addr} (hp : H p = none) : Q (.ref p) (upd H p (.tup vs)) := by
  obtain ⟨s2, p2⟩ := s.new (o := .tup vs) hp
  exact t (.ref p) (.tup ds) _ _ p2 s2 (.tup upd_same (r.mono p2.le)) h
end
/-! ### expressions -/
def aC (d : D) : AE := fun _ st q _ => q d st
def aVar (i : Nat) : AE := fun env st q _ => match env[i]? with
  | some (.d x) => q x st
  | _ => False
def aOp (f : O2) (a b : AE) : AE := fun env st q er => a env st (fun x s1 => b env s1 (fun y s2 => f (vw s2 x) (vw s2 y) fun z => q z s2) er) er
def aUn (f : O1) (a : AE) : AE := fun env st q er => a env st (fun x s1 => f (vw s1 x) fun z => q z s1) er
def aIf (t : AT) (a b : AE) : AE := fun env st q er => t env st (fun c s1 => if c = true then a env s1 q er else b env s1 q er) er
def aTest (a : AE) : AT := fun env st q er => a env st (fun x s1 => ∃ b, x = .bl b ∧ q b s1) er
def truthD : D → Option Bool
  | .non => some false
  | .bl b => some b
  | .int i => some (i != 0)
  | .str s => if s.length ≤ 100000 then some ((s.length : Int) != 0) else none
  | .lst l => some (!l.isEmpty)
  | .tup l => some (!l.isEmpty)
  | _ => none
def aTruth (a : AE) : AT := fun env st q er => a env st (fun x s1 => ∃ b, truthD (vw s1 x) = some b ∧ q b s1) er
def aAnd (t u : AT) : AT := fun env st q er => t env st (fun c s1 => if c = true then u env s1 q er else q false s1) er
def aOr (t u : AT) : AT := fun env st q er => t env st (fun c s1 => if c = true then q true s1 else u env s1 q er) er
def aNot (t : AT) : AT := fun env st q er => t env st (fun c s1 => q (!c) s1) er
def aAndV (a b : AE) : AE := fun env st q er => a env st (fun x s1 => ∃ c, x = .bl c ∧ if c = true then b env s1 q er else q (.bl false) s1) er
def aOrV (a b : AE) : AE := fun env st q er => a env st (fun x s1 => ∃ c, x = .bl c ∧ if c = true then q (.bl true) s1 else b env s1 q er) er
def aNotV (a : AE) : AE := fun env st q er => a env st (fun x s1 => ∃ c, x = .bl c ∧ q (.bl (!c)) s1) er
/-- a op b op' c -/
def aChain (f f' : O2) (a b c : AE) : AE := fun env st q er => a env st (fun x s1 => b env s1 (fun y s2 => f (vw s2 x) (vw s2 y) fun z => ∃ k, z = .bl k ∧ if k = true then c env s2 (fun w s3 => f' (vw s3 y) (vw s3 w) fun z => q z s3) er else q (.bl false) s2) er) er
abbrev AEs := List A → S → (List D → S → Prop) → QX → Prop
def aNil : AEs := fun _ st q _ => q [] st
def aCons (a : AE) (r : AEs) : AEs := fun env st q er => a env st (fun x s1 => r env s1 (fun xs s2 => q (x :: xs) s2) er) er
def aLst (as : AEs) : AE := fun env st q er => as env st (fun xs s1 => xs.length ≤ 100000 ∧ q (.lst xs) s1) er
def aTup (as : AEs) : AE := fun env st q er => as env st (fun xs s1 => xs.length ≤ 100000 ∧ q (.tup xs) s1) er
def aB (f : ON) (as : AEs) : AE := fun env st q er => as env st (fun xs s1 => f (xs.map (vw s1)) fun z => q z s1) er
def ThenA (K : PySem.W.Frag) (G : Gh) (H : Hp) (q : List D → S → Prop) (Q : List V → Hp → Prop) : Prop := ∀ vs ds st2 G2 H2, Post G H G2 H2 → SS K G2 st2 H2 → Reps K G2 ds vs → q ds st2 → Q vs H2
def RefA (K : PySem.W.Frag) (W : WX) (ta : TA) (aa : AEs) : Prop := ∀ G env st σ H (Q : List V → Hp → Prop) (q : List D → S → Prop) (er : QX), SS K G st H → Sl K G env σ → aa env st q er → ThenA K G H q Q → ThenX K W G H σ er → ta σ H Q
def AXA (X : Cx) (W : WX) (es : List Expr) (aa : AEs) : Prop := ∃ ta, PA X es ta ∧ RefA X.K W ta aa
section
variable {K : PySem.W.Frag} {W : WX} {ta tb tc te : TE} {aa ab ac : AE} {t u : TT} {xt xu : AT}
theorem refE_c {d : D} {v : V} (h : ∀ G, Rep K G d v) : RefE K W (tC v) (aC d) := fun G env st σ H Q q er s l a tE _ => tE v d st G H Post.refl s (h G) a
theorem refE_var (i : Nat) : RefE K W (tVar i) (aVar i) := fun G env st σ H Q q er s l a tE _ => by
  unfold aVar at a
  split at a
  · rename_i x e
    obtain ⟨u, eu, r⟩ := l.slot i _ e
    exact ⟨u, eu, tE u x st G H Post.refl s r a⟩
  · exact a.elim
theorem refE_op {r : R2} {f : O2} (ro : RefO K r f) (ha : RefE K W ta aa) (hb : RefE K W tb ab) : RefE K W (tOp r ta tb) (aOp f aa ab) := fun G env st σ H Q q er s l h tE tX => by
  refine ha G env st σ H _ _ er s l h (fun v d st1 G1 H1 p1 s1 r1 h1 => ?_) tX
  refine hb G1 env st1 σ H1 _ _ er s1 (l.mono p1.le) h1 (fun u d2 st2 G2 H2 p2 s2 r2 h2 => ?_) (tX.on p1)
  exact ro G2 st2 H2 v u _ _ Q _ s2 ((r1.mono p2.le).vw s2) (r2.vw s2) h2 fun w d3 G3 H3 p3 s3 r3 h3 => tE w d3 st2 G3 H3 ((p1.trans p2).trans p3) s3 r3 h3
theorem refE_chain {r r' : R2} {f f' : O2} (ro : RefO K r f) (ro' : RefO K r' f') (ha : RefE K W ta aa) (hb : RefE K W tb ab) (hc : RefE K W tc ac) : RefE K W (tChain r r' ta tb tc) (aChain f f' aa ab ac) := fun G env st σ H Q q er s l h tE tX => by
  refine ha G env st σ H _ _ er s l h (fun v d st1 G1 H1 p1 s1 r1 h1 => ?_) tX
  refine hb G1 env st1 σ H1 _ _ er s1 (l.mono p1.le) h1 (fun u d2 st2 G2 H2 p2 s2 r2 h2 => ?_) (tX.on p1)
  refine ro G2 st2 H2 v u _ _ _ _ s2 ((r1.mono p2.le).vw s2) (r2.vw s2) h2 fun w d3 G3 H3 p3 s3 r3 h3 => ?_
  obtain ⟨k, e, h3⟩ := h3
  subst e
  cases r3
  refine ⟨k, rfl, ?_⟩
  have p13 := (p1.trans p2).trans p3
  cases k with
  | false => exact tE _ _ st2 G3 H3 p13 s3 (.bl false) h3
  | true =>
    refine hc G3 env st2 σ H3 _ _ er s3 (l.mono p13.le) h3 (fun w d4 st4 G4 H4 p4 s4 r4 h4 => ?_) (tX.on p13)
    exact ro' G4 st4 H4 u w _ _ Q _ s4 (((r2.mono p3.le).mono p4.le).vw s4) (r4.vw s4) h4 fun w d5 G5 H5 p5 s5 r5 h5 => tE w d5 st4 G5 H5 ((p13.trans p4).trans p5) s5 r5 h5
theorem refE_un {r : V → Hp → VK → Prop} {f : O1} (ro : RefU K r f) (ha : RefE K W ta aa) : RefE K W (tUn r ta) (aUn f aa) := fun G env st σ H Q q er s l h tE tX => by
  refine ha G env st σ H _ _ er s l h (fun v d st1 G1 H1 p1 s1 r1 h1 => ?_) tX
  exact ro G1 st1 H1 v _ Q _ s1 (r1.vw s1) h1 fun w d3 G3 H3 p3 s3 r3 h3 => tE w d3 st1 G3 H3 (p1.trans p3) s3 r3 h3
theorem refT_test (ha : RefE K W ta aa) : RefT K W (tTest ta) (aTest aa) := fun G env st σ H Q q er s l h tT tX => by
  refine ha G env st σ H _ _ er s l h (fun v d st1 G1 H1 p1 s1 r1 ⟨b, e, h1⟩ => ?_) tX
  subst e
  cases r1
  exact ⟨b, rfl, tT b st1 G1 H1 p1 s1 h1⟩
theorem truth_ok {G : Gh} {H : Hp} {d : D} {v : V} {b : Bool} (r : Rv K G H d v) (h : truthD d = some b) : TruV K v H b := by
  cases r with
  | non => cases h; rfl
  | bl x => cases h; rfl
  | int i => cases h; rfl
  | str x =>
    have h' : (if x.length ≤ 100000 then some ((x.length : Int) != 0) else none) = some b := h
    by_cases hz : x.length ≤ 100000
    · rw [if_pos hz] at h'
      cases h'
      exact ⟨sz_of hz, rfl⟩
    · rw [if_neg hz] at h'
      cases h'
  | lst hs rs =>
    cases h
    refine .inl ⟨_, SqL.of hs, ?_⟩
    cases rs <;> rfl
  | tup hs rs _ =>
    cases h
    refine .inr (.inl ⟨_, SqT.of hs, ?_⟩)
    cases rs <;> rfl
  | _ => cases h
theorem refT_truth (ha : RefE K W ta aa) : RefT K W (fun σ H Q => ta σ H fun x H' => ∃ k, TruV K x H' k ∧ Q k H') (aTruth aa) := fun G env st σ H Q q er s l h tT tX => by
  refine ha G env st σ H _ _ er s l h (fun v d st1 G1 H1 p1 s1 r1 ⟨b, e, h1⟩ => ?_) tX
  exact ⟨b, truth_ok (r1.vw s1) e, tT b st1 G1 H1 p1 s1 h1⟩
theorem refT_and (ht : RefT K W t xt) (hu : RefT K W u xu) : RefT K W (tAnd t u) (aAnd xt xu) := fun G env st σ H Q q er s l h tT tX => by
  refine ht G env st σ H _ _ er s l h (fun b st1 G1 H1 p1 s1 h1 => ?_) tX
  cases b with
  | true => exact hu G1 env st1 σ H1 Q q er s1 (l.mono p1.le) h1 (tT.on p1) (tX.on p1)
  | false => exact tT false st1 G1 H1 p1 s1 h1
theorem refT_or (ht : RefT K W t xt) (hu : RefT K W u xu) : RefT K W (tOr t u) (aOr xt xu) := fun G env st σ H Q q er s l h tT tX => by
  refine ht G env st σ H _ _ er s l h (fun b st1 G1 H1 p1 s1 h1 => ?_) tX
  cases b with
  | false => exact hu G1 env st1 σ H1 Q q er s1 (l.mono p1.le) h1 (tT.on p1) (tX.on p1)
  | true => exact tT true st1 G1 H1 p1 s1 h1
theorem refT_not (ht : RefT K W t xt) : RefT K W (tNot t) (aNot xt) := fun G env st σ H Q q er s l h tT tX =>
  ht G env st σ H _ _ er s l h (fun b st1 G1 H1 p1 s1 h1 => tT (!b) st1 G1 H1 p1 s1 h1) tX
theorem refE_andV (ha : RefE K W ta aa) (hb : RefE K W tb ab) : RefE K W (tAndV ta tb) (aAndV aa ab) := fun G env st σ H Q q er s l h tE tX => by
  refine ha G env st σ H _ _ er s l h (fun v d st1 G1 H1 p1 s1 r1 ⟨b, e, h1⟩ => ?_) tX
  subst e
  cases r1
  refine ⟨b, rfl, ?_⟩
  cases b with
  | true => exact hb G1 env st1 σ H1 Q q er s1 (l.mono p1.le) h1 (tE.on p1) (tX.on p1)
  | false => exact tE _ _ st1 G1 H1 p1 s1 (.bl false) h1
theorem refE_orV (ha : RefE K W ta aa) (hb : RefE K W tb ab) : RefE K W (tOrV ta tb) (aOrV aa ab) := fun G env st σ H Q q er s l h tE tX => by
  refine ha G env st σ H _ _ er s l h (fun v d st1 G1 H1 p1 s1 r1 ⟨b, e, h1⟩ => ?_) tX
  subst e
  cases r1
  refine ⟨b, rfl, ?_⟩
  cases b with
  | false => exact hb G1 env st1 σ H1 Q q er s1 (l.mono p1.le) h1 (tE.on p1) (tX.on p1)
  | true => exact tE _ _ st1 G1 H1 p1 s1 (.bl true) h1
theorem refE_notV (ha : RefE K W ta aa) : RefE K W (tNotV ta) (aNotV aa) := fun G env st σ H Q q er s l h tE tX => by
  refine ha G env st σ H _ _ er s l h (fun v d st1 G1 H1 p1 s1 r1 ⟨b, e, h1⟩ => ?_) tX
  subst e
  cases r1
  exact ⟨b, rfl, tE _ _ st1 G1 H1 p1 s1 (.bl (!b)) h1⟩
theorem refE_if (ht : RefT K W t xt) (ha : RefE K W ta aa) (hb : RefE K W tb ab) : RefE K W (tIf t ta tb) (aIf xt aa ab) := fun G env st σ H Q q er s l h tE tX => by
  refine ht G env st σ H _ _ er s l h (fun b st1 G1 H1 p1 s1 h1 => ?_) tX
  cases b with
  | true => exact ha G1 env st1 σ H1 Q q er s1 (l.mono p1.le) h1 (tE.on p1) (tX.on p1)
  | false => exact hb G1 env st1 σ H1 Q q er s1 (l.mono p1.le) h1 (tE.on p1) (tX.on p1)
theorem refA_nil : RefA K W tNil aNil := fun G env st σ H Q q er s l h tA _ => tA [] [] st G H Post.refl s .nil h
theorem refA_cons {tr : TA} {ar : AEs} (ha : RefE K W ta aa) (hr : RefA K W tr ar) : RefA K W (tCons ta tr) (aCons aa ar) := fun G env st σ H Q q er s l h tA tX => by
  refine ha G env st σ H _ _ er s l h (fun v d st1 G1 H1 p1 s1 r1 h1 => ?_) tX
  exact hr G1 env st1 σ H1 _ _ er s1 (l.mono p1.le) h1 (fun vs ds st2 G2 H2 p2 s2 r2 h2 => tA _ _ st2 G2 H2 (p1.trans p2) s2 (.cons (r1.mono p2.le) r2) h2) (tX.on p1)
theorem refE_lst {tr : TA} {ar : AEs} (hr : RefA K W tr ar) : RefE K W (tLst tr) (aLst ar) := fun G env st σ H Q q er s l h tE tX =>
  hr G env st σ H _ _ er s l h (fun vs ds st1 G1 H1 p1 s1 r1 h1 => ⟨sz_of (by rw [← r1.length]; exact h1.1), fun p hp => by
    obtain ⟨s2, p2⟩ := s1.new (o := .lst vs) hp
    exact tE _ _ st1 _ _ (p1.trans p2) s2 (.lst upd_same (r1.mono p2.le)) h1.2⟩) tX
theorem refE_tup {tr : TA} {ar : AEs} (hr : RefA K W tr ar) : RefE K W (tTup tr) (aTup ar) := fun G env st σ H Q q er s l h tE tX =>
  hr G env st σ H _ _ er s l h (fun vs ds st1 G1 H1 p1 s1 r1 h1 => ⟨sz_of (by rw [← r1.length]; exact h1.1), fun p hp => by
    obtain ⟨s2, p2⟩ := s1.new (o := .tup vs) hp
    exact tE _ _ st1 _ _ (p1.trans p2) s2 (.tup upd_same (r1.mono p2.le)) h1.2⟩) tX
theorem refE_cb {r : List V → Hp → VK → Prop} {f : ON} {tr : TA} {ar : AEs} (rn : RefN K r f) (hr : RefA K W tr ar) : RefE K W (tCB r tr) (aB f ar) := fun G env st σ H Q q er s l h tE tX =>
  hr G env st σ H _ _ er s l h (fun vs ds st1 G1 H1 p1 s1 r1 h1 => rn G1 st1 H1 vs _ Q _ s1 (r1.vw s1) h1 fun w d3 G3 H3 p3 s3 r3 h3 => tE w d3 st1 G3 H3 (p1.trans p3) s3 r3 h3) tX
end
def CB (X : Cx) (f : Value) (b : ON) : Prop := ∃ r, CallR X f r ∧ RefN X.K r b
/-! ### the same over syntax -/
section
variable {X : Cx} {W : WX} {a b c e : Expr} {es : List Expr} {aa ab ac : AE} {xt xu : AT} {ar : AEs} {pos p : Pos} {x : Str}
theorem ax_var (i : Nat) {x : Str} {pos : Pos} (hN : X.N[i]? = some x := by rfl) (hv : Vis X.env.scope x := by first | exact Or.inl rfl | exact Or.inr (Or.inl rfl) | exact Or.inr (Or.inr rfl)) (hd : (x == ("__debug__" : Str)) = false := by decide) (hcd : (x == ("__classdict__" : Str)) = false := by decide) : AX X W (.Name x pos) (aVar i) :=
  ⟨_, pe_var hN hv hd hcd, refE_var i⟩
theorem ax_int {i : Int} {j : Nat} : AX X W (.Constant (.int i) j pos) (aC (.int i)) := ⟨_, pe_int, refE_c fun _ => .int i⟩
theorem ax_bl {i : Bool} {j : Nat} : AX X W (.Constant (.bool i) j pos) (aC (.bl i)) := ⟨_, pe_bl, refE_c fun _ => .bl i⟩
theorem ax_non {j : Nat} : AX X W (.Constant .none j pos) (aC .non) := ⟨_, pe_non, refE_c fun _ => .non⟩
theorem ax_str {i : Str} {j : Nat} : AX X W (.Constant (.str i) j pos) (aC (.str i)) := ⟨_, pe_str, refE_c fun _ => .str i⟩
theorem ax_op {op : Operator} {r : R2} {f : O2} (h : OpR X (binaryOp op) r ∧ RefO X.K r f) (ha : AX X W a aa) (hb : AX X W b ab) : AX X W (.BinOp a op b pos) (aOp f aa ab) := by
  obtain ⟨ta, pa, ra⟩ := ha
  obtain ⟨tb, pb, rb⟩ := hb
  exact ⟨_, pe_op h.1 pa pb, refE_op h.2 ra rb⟩
theorem ax_un {op : UnaryOp} {r : V → Hp → VK → Prop} {f : O1} (h : UnR X (unaryOp op) r ∧ RefU X.K r f) (ha : AX X W a aa) : AX X W (.UnaryOp op a pos) (aUn f aa) := by
  obtain ⟨ta, pa, ra⟩ := ha
  exact ⟨_, pe_un h.1 pa, refE_un h.2 ra⟩
theorem ax_cmp {op : CmpOp} {r : R2} {f : O2} (h : OpR X (compareOp op) r ∧ RefO X.K r f) (ha : AX X W a aa) (hb : AX X W b ab) (hm : behindInMarks op b = false := by first | exact nobehind _ (by decide) (by decide) | rfl) : AX X W (.Compare a [op] [b] pos) (aOp f aa ab) := by
  obtain ⟨ta, pa, ra⟩ := ha
  obtain ⟨tb, pb, rb⟩ := hb
  exact ⟨_, pe_cmpR h.1 pa pb hm, refE_op h.2 ra rb⟩
theorem axt_cmp {op : CmpOp} {r : R2} {f : O2} (h : OpR X (compareOp op) r ∧ RefO X.K r f) (ha : AX X W a aa) (hb : AX X W b ab) (hm : behindInMarks op b = false := by first | exact nobehind _ (by decide) (by decide) | rfl) : AXT X W (.Compare a [op] [b] pos) (aTest (aOp f aa ab)) := by
  obtain ⟨ta, pa, ra⟩ := ha
  obtain ⟨tb, pb, rb⟩ := hb
  exact ⟨_, pt_cmpR h.1 pa pb hm, refT_test (refE_op h.2 ra rb)⟩
/-- an expression as a test, by its truth -/
theorem axt_val (ha : AX X W a aa) (he : ∀ whole, isTrue a X.env whole = (do let v ← whole; standAt a.pos; holding [v] (truthy v)) := by intro _; rfl) : AXT X W a (aTruth aa) := by
  obtain ⟨ta, pa, ra⟩ := ha
  exact ⟨_, pt_truth pa he, refT_truth ra⟩
theorem axw_and1 (ha : AXT X W a xt) : AXW X W (.BoolOp .And [a] pos) xt := by
  obtain ⟨ta, pa, ra⟩ := ha
  exact ⟨_, pw_and1 pa, ra⟩
theorem axw_or1 (ha : AXT X W a xt) : AXW X W (.BoolOp .Or [a] pos) xt := by
  obtain ⟨ta, pa, ra⟩ := ha
  exact ⟨_, pw_or1 pa, ra⟩
theorem axw_and {rest : List Expr} (ha : AXT X W a xt) (hb : AXW X W (.BoolOp .And (b :: rest) pos) xu) : AXW X W (.BoolOp .And (a :: b :: rest) pos) (aAnd xt xu) := by
  obtain ⟨ta, pa, ra⟩ := ha
  obtain ⟨tb, pb, rb⟩ := hb
  exact ⟨_, pw_and pa pb, refT_and ra rb⟩
theorem axw_or {rest : List Expr} (ha : AXT X W a xt) (hb : AXW X W (.BoolOp .Or (b :: rest) pos) xu) : AXW X W (.BoolOp .Or (a :: b :: rest) pos) (aOr xt xu) := by
  obtain ⟨ta, pa, ra⟩ := ha
  obtain ⟨tb, pb, rb⟩ := hb
  exact ⟨_, pw_or pa pb, refT_or ra rb⟩
theorem axt_w (ha : AXW X W a xt) : AXT X W a xt := by
  obtain ⟨ta, pa, ra⟩ := ha
  exact ⟨_, pa.pt, ra⟩
theorem axt_not (ha : AXT X W a xt) : AXT X W (.UnaryOp .Not a pos) (aNot xt) := by
  obtain ⟨ta, pa, ra⟩ := ha
  exact ⟨_, pt_not pa, refT_not ra⟩
theorem ax_one {op : BoolOp} (ha : AX X W a aa) : AX X W (.BoolOp op [a] pos) aa := by
  obtain ⟨ta, pa, ra⟩ := ha
  exact ⟨_, pe_one pa, ra⟩
theorem ax_and {rest : List Expr} (ha : AX X W a aa) (hb : AX X W (.BoolOp .And (b :: rest) pos) ab) : AX X W (.BoolOp .And (a :: b :: rest) pos) (aAndV aa ab) := by
  obtain ⟨ta, pa, ra⟩ := ha
  obtain ⟨tb, pb, rb⟩ := hb
  exact ⟨_, pe_and pa pb, refE_andV ra rb⟩
theorem ax_or {rest : List Expr} (ha : AX X W a aa) (hb : AX X W (.BoolOp .Or (b :: rest) pos) ab) : AX X W (.BoolOp .Or (a :: b :: rest) pos) (aOrV aa ab) := by
  obtain ⟨ta, pa, ra⟩ := ha
  obtain ⟨tb, pb, rb⟩ := hb
  exact ⟨_, pe_or pa pb, refE_orV ra rb⟩
theorem ax_not (ha : AX X W a aa) : AX X W (.UnaryOp .Not a pos) (aNotV aa) := by
  obtain ⟨ta, pa, ra⟩ := ha
  exact ⟨_, pe_not pa, refE_notV ra⟩
theorem ax_chain {op op' : CmpOp} {r r' : R2} {f f' : O2} (h : OpR X (compareOp op) r ∧ RefO X.K r f) (h' : OpR X (compareOp op') r' ∧ RefO X.K r' f') (ha : AX X W a aa) (hb : AX X W b ab) (hc : AX X W c ac) (hm : lastMarks [op, op'] [b, c] = false := by with_unfolding_all rfl) : AX X W (.Compare a [op, op'] [b, c] pos) (aChain f f' aa ab ac) := by
  obtain ⟨ta, pa, ra⟩ := ha
  obtain ⟨tb, pb, rb⟩ := hb
  obtain ⟨tc, pc, rc⟩ := hc
  exact ⟨_, pe_chain h.1 h'.1 pa pb pc hm, refE_chain h.2 h'.2 ra rb rc⟩
theorem axt_chain {op op' : CmpOp} {r r' : R2} {f f' : O2} (h : OpR X (compareOp op) r ∧ RefO X.K r f) (h' : OpR X (compareOp op') r' ∧ RefO X.K r' f') (ha : AX X W a aa) (hb : AX X W b ab) (hc : AX X W c ac) (hm : lastMarks [op, op'] [b, c] = false := by with_unfolding_all rfl) : AXT X W (.Compare a [op, op'] [b, c] pos) (aTest (aChain f f' aa ab ac)) := by
  obtain ⟨ta, pa, ra⟩ := ha
  obtain ⟨tb, pb, rb⟩ := hb
  obtain ⟨tc, pc, rc⟩ := hc
  exact ⟨_, pt_chain h.1 h'.1 pa pb pc hm, refT_test (refE_chain h.2 h'.2 ra rb rc)⟩
theorem ax_if (hc : AXT X W c xt) (ha : AX X W a aa) (hb : AX X W b ab) : AX X W (.IfExp c a b pos) (aIf xt aa ab) := by
  obtain ⟨tc, pc, rc⟩ := hc
  obtain ⟨ta, pa, ra⟩ := ha
  obtain ⟨tb, pb, rb⟩ := hb
  exact ⟨_, pe_ifExp pc pa pb, refE_if rc ra rb⟩
theorem axa_nil : AXA X W [] aNil := ⟨_, pa_nil, refA_nil⟩
theorem axa_cons (ha : AX X W e aa) (hr : AXA X W es ar) (hs : starEach (e :: es) X.env = (false, eval e X.env) :: starEach es X.env := by rfl) : AXA X W (e :: es) (aCons aa ar) := by
  obtain ⟨ta, pa, ra⟩ := ha
  obtain ⟨tb, pb, rb⟩ := hr
  exact ⟨_, pa_cons pa pb hs, refA_cons ra rb⟩
theorem ax_lst (hr : AXA X W es ar) : AX X W (.List es pos) (aLst ar) := by
  obtain ⟨tb, pb, rb⟩ := hr
  exact ⟨_, pe_lst pb, refE_lst rb⟩
theorem ax_tup {k : Nat} (hr : AXA X W es ar) : AX X W (.Tuple es k pos) (aTup ar) := by
  obtain ⟨tb, pb, rb⟩ := hr
  exact ⟨_, pe_tup pb, refE_tup rb⟩
theorem ax_ix {r : R2} {f : O2} (h : IxR X r ∧ RefO X.K r f) (ha : AX X W a aa) (hb : AX X W b ab) (hs : PlainIx b := by exact fun _ _ => rfl) : AX X W (.Subscript a b pos) (aOp f aa ab) := by
  obtain ⟨ta, pa, ra⟩ := ha
  obtain ⟨tb, pb, rb⟩ := hb
  exact ⟨_, pe_ix h.1 pa pb hs, refE_op h.2 ra rb⟩
theorem ax_callB {f : ON} {id : String} (h : CB X (.builtin id) f) (hm : X.mg x = none) (hv : bootBuiltins x = some (.builtin id)) (ha : AXA X W (e :: es) ar) (hg : Gl X x := by rfl) (hn : x ≠ "__name__" := by decide) (hdb : (x == ("__debug__" : Str)) = false := by decide)
    (he : starEach (e :: es) X.env = (false, eval e X.env) :: starEach es X.env := by rfl) (hpl : (backTo pos (starEach es X.env)).any (·.1) = false := by rfl) : AX X W (.Call (.Name x p) (e :: es) [] pos) (aB f ar) := by
  obtain ⟨ta, pa, ra⟩ := ha
  obtain ⟨r, h1, h2⟩ := h
  exact ⟨_, pe_callB h1 hg hm hv pa hn hdb he hpl, refE_cb h2 ra⟩
theorem ax_callTy {f : ON} {T : String} (h : CB X (.type T) f) (hm : X.mg x = none) (hv : bootBuiltins x = some (.type T)) (ha : AXA X W (e :: es) ar) (hg : Gl X x := by rfl) (hn : x ≠ "__name__" := by decide) (hdb : (x == ("__debug__" : Str)) = false := by decide)
    (he : starEach (e :: es) X.env = (false, eval e X.env) :: starEach es X.env := by rfl) (hpl : (backTo pos (starEach es X.env)).any (·.1) = false := by rfl) : AX X W (.Call (.Name x p) (e :: es) [] pos) (aB f ar) := by
  obtain ⟨ta, pa, ra⟩ := ha
  obtain ⟨r, h1, h2⟩ := h
  exact ⟨_, pe_callTy h1 hg hm hv pa hn hdb he hpl, refE_cb h2 ra⟩
end
end AM
set_option Elab.async false
set_option linter.all false
set_option maxRecDepth 100000
set_option maxHeartbeats 4000000
namespace AM
open PySem L2 Evl
/-! ### targets -/
abbrev AG := D → List A → S → (List A → Prop) → Prop
abbrev AGs := List D → List A → S → (List A → Prop) → Prop
def ThenG (K : PySem.W.Frag) (G : Gh) (H : Hp) (q : List A → Prop) (Q : St → Hp → Prop) : Prop := ∀ env' σ', Sl K G env' σ' → q env' → Q σ' H
def RefG (K : PySem.W.Frag) (g : TG) (ag : AG) : Prop := ∀ G env st σ H d v (Q : St → Hp → Prop) (q : List A → Prop), SS K G st H → Sl K G env σ → Rep K G d v → ag d env st q → ThenG K G H q Q → g v σ H Q
def RefGs (K : PySem.W.Frag) (g : TGs) (ag : AGs) : Prop := ∀ G env st σ H ds vs (Q : St → Hp → Prop) (q : List A → Prop), SS K G st H → Sl K G env σ → Reps K G ds vs → ag ds env st q → ThenG K G H q Q → g vs σ H Q
def agName (i : Nat) : AG := fun d env _ q => q (env.set i (.d d))
def agNil : AGs := fun ds env _ q => ds = [] ∧ q env
def agCons (g : AG) (r : AGs) : AGs := fun ds env st q => match ds with
  | d :: ds => g d env st fun env' => r ds env' st q
  | [] => False
def agTup (n : Nat) (g : AGs) : AG := fun d env st q => match d with
  | .tup ds => ds.length = n ∧ g ds env st q
  | _ => False
section
variable {K : PySem.W.Frag} {g : TG} {ag : AG} {gs : TGs} {ags : AGs}
theorem refG_name (i : Nat) : RefG K (gName i) (agName i) := fun G env st σ H d v Q q s l r h t => t _ _ (l.set i r) h
theorem refGs_nil : RefGs K gNil agNil := fun G env st σ H ds vs Q q s l r h t => by
  obtain ⟨e, h⟩ := h
  subst e
  cases r
  exact ⟨rfl, t env σ l h⟩
theorem refGs_cons (h1 : RefG K g ag) (h2 : RefGs K gs ags) : RefGs K (gCons g gs) (agCons ag ags) := fun G env st σ H ds vs Q q s l r h t => by
  cases r with
  | nil => exact h.elim
  | cons r1 r2 =>
    refine ⟨_, _, rfl, ?_⟩
    exact h1 G env st σ H _ _ _ _ s l r1 h fun env' σ' l2 h2' => h2 G env' st σ' H _ _ Q q s l2 r2 h2' t
theorem refG_tup {n : Nat} (h : RefGs K gs ags) : RefG K (gTup K n gs) (agTup n ags) := fun G env st σ H d v Q q s l r h1 t => by
  cases r with
  | tup hs rs => exact ⟨_, _, rfl, SqT.of (s.ex _ _ hs), by rw [← rs.length]; exact h1.1, h G env st σ H _ _ Q q s l rs h1.2 t⟩
  | _ => exact h1.elim
end
def AXG (X : Cx) (e : Expr) (ag : AG) : Prop := ∃ g, PG X e g ∧ RefG X.K g ag
def AXGs (X : Cx) (es : List Expr) (ag : AGs) : Prop := ∃ g, PGs X es g ∧ RefGs X.K g ag
/-! ### statements -/
def sNext : AS := fun env st k => k.nx env st
def sSeq (a b : AS) : AS := fun env st k => a env st { k with nx := fun env' st' => b env' st' k }
def sBreak : AS := fun env st k => k.bk env st
def sCont : AS := fun env st k => k.ct env st
def sDrop (a : AE) : AS := fun env st k => a env st (fun _ s1 => k.nx env s1) (fun e s1 => k.er e env s1)
def sRet (a : AE) : AS := fun env st k => a env st (fun d s1 => k.rt (.d d) s1) (fun e s1 => k.er e env s1)
def sRetN : AS := fun env st k => k.rt (.d .non) st
def sIf (t : AT) (a b : AS) : AS := fun env st k => t env st (fun c s1 => if c = true then a env s1 k else b env s1 k) (fun e s1 => k.er e env s1)
def sAsg (a : AE) (g : AG) : AS := fun env st k => a env st (fun d s1 => g d env s1 fun env' => k.nx env' s1) (fun e s1 => k.er e env s1)
def sPar (i j : Nat) (as : AEs) : AS := fun env st k => as env st (fun ds s1 => match ds with
  | [x, y] => k.nx ((env.set i (.d x)).set j (.d y)) s1
  | _ => False) (fun e s1 => k.er e env s1)
def sAug (i : Nat) (f : O2) (a : AE) : AS := fun env st k => ∃ x, env[i]? = some (.d x) ∧ a env st (fun y s1 => f (vw s1 x) (vw s1 y) fun z => k.nx (env.set i (.d z)) s1) (fun e s1 => k.er e env s1)
def sNever : AS := fun _ _ _ => False
def sForL (gd : Gd) (g : AG) (b : AS) : List D → AS
  | [] => fun env st k => gdOk gd st ∧ k.nx env st
  | x :: xs => fun env st k => gdOk gd st ∧ g x env st fun e1 => b e1 st { k with nx := fun e2 s2 => sForL gd g b xs e2 s2 k, ct := fun e2 s2 => sForL gd g b xs e2 s2 k, bk := k.nx }
def sFor (it : AI) (g : AG) (b : AS) : AS := fun env st k => it env st (fun ds gd s1 => sForL gd g b ds env s1 k) (fun e s1 => k.er e env s1)
def sWhN (t : AT) (b : AS) : Nat → AS
  | 0 => fun _ _ _ => False
  | n + 1 => fun env st k => t env st (fun c s1 => if c = true then b env s1 { k with nx := fun e2 s2 => sWhN t b n e2 s2 k, ct := fun e2 s2 => sWhN t b n e2 s2 k, bk := k.nx } else k.nx env s1) (fun e s1 => k.er e env s1)
def sWhile (t : AT) (b : AS) : AS := fun env st k => ∃ n, sWhN t b n env st k
section
variable {K : PySem.W.Frag} {W : WX} {te : TE} {ae : AE} {ts tu : TS} {as bs : AS} {tt : TT} {xt : AT}
theorem refS_next : RefS K W tNext sNext := fun G env st σ H D k s l h t => t.nx env σ st G H Post.refl s l h
theorem refS_break : RefS K W tBreak sBreak := fun G env st σ H D k s l h t => t.bk env σ st G H Post.refl s l h
theorem refS_cont : RefS K W tCont sCont := fun G env st σ H D k s l h t => t.ct env σ st G H Post.refl s l h
theorem refS_never : RefS K W tNever sNever := fun G env st σ H D k s l h t => h.elim
theorem refS_seq (h1 : RefS K W ts as) (h2 : RefS K W tu bs) : RefS K W (tSeq ts tu) (sSeq as bs) := fun G env st σ H D k s l h t =>
  h1 G env st σ H _ _ s l h ⟨fun env' σ' st2 G2 H2 p2 s2 l2 q => h2 G2 env' st2 σ' H2 D k s2 l2 q (t.on p2), t.rt, t.bk, t.ct, t.er⟩
theorem refS_drop (he : RefE K W te ae) : RefS K W (tDrop te) (sDrop ae) := fun G env st σ H D k s l h t =>
  he G env st σ H _ _ _ s l h (fun v d st2 G2 H2 p2 s2 r2 q => t.nx env σ st2 G2 H2 p2 s2 (l.mono p2.le) q) (t.x l)
theorem refS_ret (he : RefE K W te ae) : RefS K W (tRet te) (sRet ae) := fun G env st σ H D k s l h t =>
  he G env st σ H _ _ _ s l h (fun v d st2 G2 H2 p2 s2 r2 q => t.rt v (.d d) st2 G2 H2 p2 s2 r2 q) (t.x l)
theorem refS_retN : RefS K W tRetN sRetN := fun G env st σ H D k s l h t => t.rt .non (.d .non) st G H Post.refl s Rep.non h
theorem refS_if (hc : RefT K W tt xt) (h1 : RefS K W ts as) (h2 : RefS K W tu bs) : RefS K W (tIfS tt ts tu) (sIf xt as bs) := fun G env st σ H D k s l h t =>
  hc G env st σ H _ _ _ s l h (fun b st2 G2 H2 p2 s2 q => by
    cases b with
    | true => exact h1 G2 env st2 σ H2 D k s2 (l.mono p2.le) q (t.on p2)
    | false => exact h2 G2 env st2 σ H2 D k s2 (l.mono p2.le) q (t.on p2)) (t.x l)
theorem refS_asg {g : TG} {ag : AG} (he : RefE K W te ae) (hg : RefG K g ag) : RefS K W (tAsg te g) (sAsg ae ag) := fun G env st σ H D k s l h t =>
  he G env st σ H _ _ _ s l h (fun v d st2 G2 H2 p2 s2 r2 q => hg G2 env st2 σ H2 d v _ _ s2 (l.mono p2.le) r2 q fun env3 σ3 l3 h3 => t.nx env3 σ3 st2 G2 H2 p2 s2 l3 h3) (t.x l)
theorem refS_par {i j : Nat} {ta : TA} {aa : AEs} (ha : RefA K W ta aa) : RefS K W (tPar i j ta) (sPar i j aa) := fun G env st σ H D k s l h t =>
  ha G env st σ H _ _ _ s l h (fun vs ds st2 G2 H2 p2 s2 r2 q => by
    match ds, r2, q with
    | [x, y], .cons r1 (.cons r3 .nil), q => exact ⟨_, _, rfl, t.nx _ _ st2 G2 H2 p2 s2 (((l.mono p2.le).set i r1).set j r3) q⟩) (t.x l)
theorem refS_aug {i : Nat} {ti : TIp} {f : O2} (he : RefE K W te ae) (ho : RefO K ti f) : RefS K W (tAug i te ti) (sAug i f ae) := fun G env st σ H D k s l h t => by
  obtain ⟨x, ex, h⟩ := h
  obtain ⟨u, eu, ru⟩ := l.slot i _ ex
  refine ⟨u, eu, he G env st σ H _ _ _ s l h (fun v d st2 G2 H2 p2 s2 r2 q => ?_) (t.x l)⟩
  exact ho G2 st2 H2 u v _ _ _ _ s2 ((ru.mono p2.le).vw s2) (r2.vw s2) q fun w d3 G3 H3 p3 s3 r3 h3 => t.nx _ _ st2 G3 H3 (p2.trans p3) s3 ((l.mono (p2.trans p3).le).set i r3) h3
def ForN (K : PySem.W.Frag) (gd : Gd) (ag : AG) (as : AS) (ds : List D) (k : AK) (G2 : Gh) (H2 : Hp) (i : Nat) : St → Hp → Prop := fun σ4 H4 => i ≤ ds.length ∧ ∃ G5 env5 st5, Post G2 H2 G5 H4 ∧ SS K G5 st5 H4 ∧ Sl K G5 env5 σ4 ∧ sForL gd ag as (ds.drop i) env5 st5 k
theorem sForL_gd {gd : Gd} {ag : AG} {as : AS} : ∀ {ds : List D} {env : List A} {st : S} {k : AK}, sForL gd ag as ds env st k → gdOk gd st
  | [], _, _, _, h => h.1
  | _ :: _, _, _, _, h => h.1
theorem refS_for {wi : TI} {ai : AI} {g : TG} {ag : AG} (hi : RefI K W wi ai) (hg : RefG K g ag) (hb : RefS K W ts as) : RefS K W (tFor wi g ts) (sFor ai ag as) := fun G env st σ H D k s l h t => by
  refine hi G env st σ H _ _ _ s l h (fun J ds gd st2 G2 H2 p2 s2 wk q => ?_) (t.x l)
  refine ⟨fun i m σ' H' => m = ds.length - i ∧ ForN K gd ag as ds k G2 H2 i σ' H', ⟨ds.length, by omega, Nat.zero_le _, G2, env, st2, Post.refl, s2, l.mono p2.le, q⟩, ?_⟩
  rintro i m σ' H' ⟨rfl, hle, G3, env3, st3, p3, s3, l3, f3⟩
  have gk := sForL_gd f3
  by_cases hlt : i < ds.length
  · refine .inr ⟨wk.go i G3 st3 H' p3.le s3 gk hlt, ForN K gd ag as ds k G2 H2 (i + 1), fun σ4 H4 h4 => ⟨ds.length - (i + 1), by omega, rfl, h4⟩, fun x H5 y => ?_⟩
    rw [List.drop_eq_getElem_cons hlt] at f3
    have hd : ds[i]? = some ds[i] := by simp [hlt]
    have turn : ∀ G6, Post G3 H' G6 H5 → SS K G6 st3 H5 → Rep K G6 ds[i] x → g x σ' H5 fun σ2 H2' => ts { D with nx := ForN K gd ag as ds k G2 H2 (i + 1), ct := ForN K gd ag as ds k G2 H2 (i + 1), bk := D.nx } σ2 H2' := fun G6 p6 s6 rr => by
      refine hg G6 env3 st3 σ' _ ds[i] x _ _ s6 (l3.mono p6.le) rr f3.2 fun env7 σ7 l7 h7 => ?_
      have p36 := p3.trans p6
      exact hb G6 env7 st3 σ7 H5 _ _ s6 l7 h7 ⟨fun env8 σ8 st8 G8 H8 p8 s8 l8 h8 => ⟨hlt, G8, env8, st8, p36.trans p8, s8, l8, h8⟩, (t.on (p2.trans p36)).rt,
        fun env8 σ8 st8 G8 H8 p8 s8 l8 => t.nx env8 σ8 st8 G8 H8 ((p2.trans p36).trans p8) s8 l8, fun env8 σ8 st8 G8 H8 p8 s8 l8 h8 => ⟨hlt, G8, env8, st8, p36.trans p8, s8, l8, h8⟩, (t.on (p2.trans p36)).er⟩
    rcases wk.yld i G3 st3 H' _ x H5 p3.le s3 gk hd y with ⟨e5, rr⟩ | ⟨p, xs, es, hp, e5, ex, ed, rs⟩
    · subst e5
      exact turn G3 Post.refl s3 rr
    · obtain ⟨s6, p6⟩ := s3.new (o := .tup xs) hp
      rw [← e5] at s6 p6
      refine turn _ p6 s6 ?_
      rw [ed, ex]
      exact .tup upd_same (rs.mono p6.le)
  · have e : i = ds.length := by omega
    subst e
    rw [List.drop_length] at f3
    exact .inl ⟨wk.stop _ G3 st3 H' p3.le s3 gk rfl, t.nx env3 σ' st3 G3 H' (p2.trans p3) s3 l3 f3.2⟩
theorem refS_while (hc : RefT K W tt xt) (hb : RefS K W ts as) : RefS K W (tWhile tt ts) (sWhile xt as) := fun G env st σ H D k s l h t => by
  obtain ⟨n, h⟩ := h
  refine ⟨fun m σ' H' => ∃ G3 env3 st3, Post G H G3 H' ∧ SS K G3 st3 H' ∧ Sl K G3 env3 σ' ∧ sWhN xt as m env3 st3 k, ⟨n, G, env, st, Post.refl, s, l, h⟩, ?_⟩
  rintro m σ' H' ⟨G3, env3, st3, p3, s3, l3, f3⟩
  cases m with
  | zero => exact f3.elim
  | succ m =>
    refine hc G3 env3 st3 σ' H' _ _ _ s3 l3 f3 (fun b st4 G4 H4 p4 s4 h4 => ?_) ((t.on p3).x l3)
    have p34 := p3.trans p4
    cases b with
    | false => exact t.nx env3 σ' st4 G4 H4 p34 s4 (l3.mono p4.le) h4
    | true =>
      refine ⟨fun σ5 H5 => ∃ G5 env5 st5, Post G H G5 H5 ∧ SS K G5 st5 H5 ∧ Sl K G5 env5 σ5 ∧ sWhN xt as m env5 st5 k, fun σ5 H5 h5 => ⟨m, Nat.lt_succ_self m, h5⟩, ?_⟩
      exact hb G4 env3 st4 σ' H4 _ _ s4 (l3.mono p4.le) h4 ⟨fun env8 σ8 st8 G8 H8 p8 s8 l8 h8 => ⟨G8, env8, st8, p34.trans p8, s8, l8, h8⟩, (t.on p34).rt,
        fun env8 σ8 st8 G8 H8 p8 s8 l8 => t.nx env8 σ8 st8 G8 H8 (p34.trans p8) s8 l8, fun env8 σ8 st8 G8 H8 p8 s8 l8 h8 => ⟨G8, env8, st8, p34.trans p8, s8, l8, h8⟩, (t.on p34).er⟩
end
end AM
set_option Elab.async false
set_option linter.all false
set_option maxRecDepth 100000
set_option maxHeartbeats 4000000
namespace AM
open PySem L2 Evl
/-! ### the block's own slots -/
def wA : List Nat → List A → List A
  | [], env => env
  | v :: vs, env => (wA vs env).set v .no
theorem wA_length (env : List A) : ∀ vs, (wA vs env).length = env.length
  | [] => rfl
  | v :: vs => by unfold wA; rw [List.length_set, wA_length env vs]
theorem wA_get {env : List A} {j : Nat} {x : A} : ∀ {vs}, (wA vs env)[j]? = some x → (x = .no) ∨ (j ∉ vs ∧ env[j]? = some x)
  | [], h => .inr ⟨by simp, h⟩
  | v :: vs, h => by
    unfold wA at h
    rcases get_set h with ⟨rfl, rfl, _⟩ | ⟨hj, h⟩
    · exact .inl rfl
    · rcases wA_get h with h | ⟨h1, h2⟩
      · exact .inl h
      · exact .inr ⟨by simp only [List.mem_cons, not_or]; exact ⟨hj, h1⟩, h2⟩
theorem wipe_out' {σ : St} {j : Nat} : ∀ {vs}, j ∉ vs → (wipe σ vs)[j]? = σ[j]?
  | [], _ => rfl
  | v :: vs, n => by
    simp only [List.mem_cons, not_or] at n
    unfold wipe
    rw [List.getElem?_set_ne (Ne.symm n.1)]
    exact wipe_out' n.2
theorem wipe_in {σ : St} {j : Nat} : ∀ {vs}, j ∈ vs → j < σ.length → (wipe σ vs)[j]? = some none
  | v :: vs, n, hl => by
    unfold wipe
    by_cases hj : j = v
    · subst hj
      rw [List.getElem?_set_self (by rw [wipe_length]; exact hl)]
    · rw [List.getElem?_set_ne (Ne.symm hj)]
      exact wipe_in (by simpa [hj] using n) hl
theorem wipe_ext {σ τ : St} {vs : List Nat} (hl : σ.length = τ.length) (h : ∀ j, j ∉ vs → σ[j]? = τ[j]?) : wipe σ vs = wipe τ vs := by
  apply List.ext_getElem?
  intro j
  by_cases hj : j ∈ vs
  · by_cases hs : j < σ.length
    · rw [wipe_in hj hs, wipe_in hj (by omega)]
    · rw [List.getElem?_eq_none (by rw [wipe_length]; omega), List.getElem?_eq_none (by rw [wipe_length]; omega)]
  · rw [wipe_out' hj, wipe_out' hj]
    exact h j hj
theorem wipe_wipe {σ : St} {vs : List Nat} : wipe (wipe σ vs) vs = wipe σ vs := wipe_ext (wipe_length _ _) fun j hj => wipe_out' hj
theorem wipe_set {σ : St} {vs : List Nat} {i : Nat} {v : Option V} (h : i ∈ vs) : wipe (σ.set i v) vs = wipe σ vs := wipe_ext (by rw [List.length_set]) fun j hj => by
  rw [List.getElem?_set_ne]
  intro e
  exact hj (e ▸ h)
theorem Sl.wipe {K : PySem.W.Frag} {G : Gh} {env : List A} {σ : St} (s : Sl K G env σ) (vs : List Nat) : Sl K G (wA vs env) (L2.wipe σ vs) := by
  refine ⟨by rw [wA_length, wipe_length]; exact s.len, fun j x h => ?_⟩
  rcases wA_get h with rfl | ⟨n, h⟩
  · trivial
  · rw [wipe_out' n]
    exact s.slot j x h
/-! ### targets that keep to the block's names -/
def Stays (vs : List Nat) (g : TG) : Prop := ∀ v σ H Q Q' σ0, wipe σ vs = wipe σ0 vs → (∀ σ2 H2, wipe σ2 vs = wipe σ0 vs → Q σ2 H2 → Q' σ2 H2) → g v σ H Q → g v σ H Q'
def Stayss (vs : List Nat) (g : TGs) : Prop := ∀ v σ H Q Q' σ0, wipe σ vs = wipe σ0 vs → (∀ σ2 H2, wipe σ2 vs = wipe σ0 vs → Q σ2 H2 → Q' σ2 H2) → g v σ H Q → g v σ H Q'
theorem stays_name {vs : List Nat} {i : Nat} (h : i ∈ vs) : Stays vs (gName i) := fun v σ H Q Q' σ0 e k q => k _ _ ((wipe_set h).trans e) q
theorem stays_nil {vs : List Nat} : Stayss vs gNil := fun v σ H Q Q' σ0 e k q => ⟨q.1, k _ _ e q.2⟩
theorem stays_cons {vs : List Nat} {g : TG} {gs : TGs} (h1 : Stays vs g) (h2 : Stayss vs gs) : Stayss vs (gCons g gs) := fun v σ H Q Q' σ0 e k q => by
  obtain ⟨w, r, e1, q⟩ := q
  exact ⟨w, r, e1, h1 w σ H _ _ σ0 e (fun a b z q => h2 r a b Q Q' σ0 z k q) q⟩
theorem stays_tup {K : PySem.W.Frag} {vs : List Nat} {n : Nat} {gs : TGs} (h : Stayss vs gs) : Stays vs (gTup K n gs) := fun v σ H Q Q' σ0 e k q => by
  obtain ⟨a, xs, e1, h1, h2, q⟩ := q
  exact ⟨a, xs, e1, h1, h2, h xs σ H Q Q' σ0 e k q⟩
/-! ### a new list grows at P, beside the state -/
structure Bs (K : PySem.W.Frag) (P : Addr) (G : Gh) (H : Hp) (acc : List D) (G2 : Gh) (st2 : S) (H2 : Hp) : Prop where
  ss : SS K G2 st2 H2
  po : Post G H G2 H2
  new : H P = none
  na : P ∉ G2.as
  ng : G2.g P = none
  at_ : ∃ vs, H2 P = some (.lst vs) ∧ Reps K G2 acc vs
section
variable {K : PySem.W.Frag} {P : Addr} {G G2 G3 : Gh} {H H2 H3 : Hp} {st st2 st3 : S} {acc : List D}
theorem Bs.start (s : SS K G st H) (hP : H P = none) : Bs K P G H [] G st (upd H P (.lst [])) := by
  obtain ⟨s2, p2, na, ng⟩ := s.room (o := .lst []) hP
  exact ⟨s2, p2, hP, na, ng, [], upd_same, .nil⟩
theorem Bs.on (b : Bs K P G H acc G2 st2 H2) (p : Post G2 H2 G3 H3) (s3 : SS K G3 st3 H3) : Bs K P G H acc G3 st3 H3 := by
  obtain ⟨vs, e, r⟩ := b.at_
  refine ⟨s3, b.po.trans p, b.new, fun z => ?_, p.n P b.ng (ne_some e) b.na, vs, p.h P _ e b.na, r.mono p.le⟩
  rcases p.o P z with z | z
  · exact b.na z
  · rw [e] at z; cases z
theorem Bs.app (b : Bs K P G H acc G2 st2 H2) {d : D} {v : V} (r : Rep K G2 d v) (hl : acc.length < 100000) : ∃ vs, H2 P = some (.lst vs) ∧ vs.length < sizeLine ∧ Bs K P G H (acc ++ [d]) G2 st2 (upd H2 P (.lst (vs ++ [v]))) := by
  obtain ⟨vs, e, rs⟩ := b.at_
  refine ⟨vs, e, sz_lt (by rw [← rs.length]; exact hl), ⟨fun a o q => ?_, b.ss.len, b.ss.nd, fun n c p e1 e2 => (b.ss.cell n c p e1 e2).mono (Gh.le.refl _) (fun o q => ?_) (fun _ q => q)⟩, ⟨b.po.le, fun x o q k => ?_, b.po.n, b.po.o, fun x k => ?_⟩, b.new, b.na, b.ng, _, upd_same, rs.append (.one r)⟩
  · rw [upd_ne (fun z => by rw [z, b.ng] at q; cases q)]; exact b.ss.ex a o q
  · rw [upd_ne (mem_ne b.na (List.mem_of_getElem? e2))]; exact q
  · rw [upd_ne (live_ne b.new (ne_some q))]; exact b.po.h x o q k
  · by_cases h : x = P
    · subst h; rw [upd_same]; exact fun z => nomatch z
    · rw [upd_ne h]; exact b.po.m x k
theorem Bs.own (b : Bs K P G H acc G2 st2 H2) : ResOk K H G2 H2 (.own acc) (.ref P) := by
  obtain ⟨vs, e, rs⟩ := b.at_
  exact ⟨P, vs, rfl, e, b.ng, b.na, b.new, rs⟩
/-- a result that nobody holds is frozen -/
theorem own_frz {l : List D} {v : V} (s : SS K G2 st2 H2) (po : Post G H G2 H2) (h : ResOk K H G2 H2 (.own l) v) : ∃ G3, SS K G3 st2 H2 ∧ Post G H G3 H2 ∧ Rep K G3 (.lst l) v := by
  obtain ⟨p, vs, rfl, e, gp, np, hn, rs⟩ := h
  obtain ⟨s3, le⟩ := s.freeze e gp np
  exact ⟨_, s3, po.freeze gp hn, .lst upd_same (rs.mono le)⟩
theorem DctAt.mono {G G2 : Gh} {p : Addr} {l : List (D × D)} (e : G.le G2) (h : DctAt K G H p l) : DctAt K G2 H p l := by
  obtain ⟨kvs, h, r⟩ := h
  exact ⟨kvs, h, r.mono e⟩
theorem ownd_frz {l : List (D × D)} {v : V} (s : SS K G2 st2 H2) (po : Post G H G2 H2) (h : ResOk K H G2 H2 (.ownD l) v) : ∃ G3, SS K G3 st2 H2 ∧ Post G H G3 H2 ∧ Rep K G3 (.dic l) v := by
  obtain ⟨p, rfl, e, gp, np, hn⟩ := h
  obtain ⟨kvs, e, rs⟩ := e
  obtain ⟨s3, le⟩ := s.freeze e gp np
  exact ⟨_, s3, po.freeze gp hn, .dicT upd_same (rs.mono le)⟩
theorem ownd_cell {l : List (D × D)} {v : V} (s : SS K G2 st2 H2) (po : Post G H G2 H2) (h : ResOk K H G2 H2 (.ownD l) v) : ∃ G3, SS K G3 (st2 ++ [.dic l]) H2 ∧ Post G H G3 H2 ∧ Rep K G3 (.ref st2.length) v := by
  obtain ⟨p, rfl, e, gp, np, hn⟩ := h
  refine ⟨_, s.cellOf (c := .dic l) np ⟨gp, e.mono le_cell⟩, po.cellOf hn, .ref ?_⟩
  rw [← s.len, List.getElem?_append_right (Nat.le_refl _), Nat.sub_self]
  rfl
/-- .. becomes a cell -/
theorem own_cell {l : List D} {v : V} (s : SS K G2 st2 H2) (po : Post G H G2 H2) (h : ResOk K H G2 H2 (.own l) v) : ∃ G3, SS K G3 (st2 ++ [.lst l]) H2 ∧ Post G H G3 H2 ∧ Rep K G3 (.ref st2.length) v := by
  obtain ⟨p, vs, rfl, e, gp, np, hn, rs⟩ := h
  refine ⟨_, s.cellOf (c := .lst l) np ⟨vs, gp, e, rs.mono le_cell⟩, po.cellOf hn, .ref ?_⟩
  rw [← s.len, List.getElem?_append_right (Nat.le_refl _), Nat.sub_self]
  rfl
end
/-! ### comprehensions -/
def aLcL (gd : Gd) (g : AG) (t : AT) (e : AE) (env : List A) (q : List D → S → Prop) : List D → List D → S → Prop
  | [], acc, st => gdOk gd st ∧ q acc st
  | x :: xs, acc, st => gdOk gd st ∧ g x env st fun e1 => t e1 st (fun b s2 => if b = true then e e1 s2 (fun y s3 => acc.length < 100000 ∧ aLcL gd g t e env q xs (acc ++ [y]) s3) (fun _ _ => False) else aLcL gd g t e env q xs acc s2) (fun _ _ => False)
def aLc2L (gd : Gd) (g : AG) (t : AT) (it1 : AI) (g1 : AG) (t1 : AT) (e : AE) (vs1 : List Nat) (env : List A) (q : List D → S → Prop) : List D → List D → S → Prop
  | [], acc, st => gdOk gd st ∧ q acc st
  | x :: xs, acc, st => gdOk gd st ∧ g x env st fun e1 => t e1 st (fun b s2 => if b = true then it1 e1 s2 (fun ds1 gd1 s3 => aLcL gd1 g1 t1 e (wA vs1 e1) (fun acc' s4 => aLc2L gd g t it1 g1 t1 e vs1 env q xs acc' s4) ds1 acc s3) (fun _ _ => False) else aLc2L gd g t it1 g1 t1 e vs1 env q xs acc s2) (fun _ _ => False)
/-- a fresh list -/
abbrev AFr := List A → S → (List D → S → Prop) → QX → Prop
def fLc (it : AI) (g : AG) (t : AT) (e : AE) (vs : List Nat) : AFr := fun env st q er => it env st (fun ds gd s1 => aLcL gd g t e (wA vs env) q ds [] s1) er
def fLc2 (it : AI) (g : AG) (t : AT) (it1 : AI) (g1 : AG) (t1 : AT) (e : AE) (vs vs1 : List Nat) : AFr := fun env st q er => it env st (fun ds gd s1 => aLc2L gd g t it1 g1 t1 e vs1 (wA vs env) q ds [] s1) er
def aFr (f : AFr) : AE := fun env st q er => f env st (fun l s1 => q (.lst l) s1) er
def ThenF (K : PySem.W.Frag) (G : Gh) (H : Hp) (q : List D → S → Prop) (Q : VK) : Prop := ∀ v l st2 G2 H2, Post G H G2 H2 → SS K G2 st2 H2 → ResOk K H G2 H2 (.own l) v → q l st2 → Q v H2
def RefF (K : PySem.W.Frag) (W : WX) (te : TE) (af : AFr) : Prop := ∀ G env st σ H (Q : VK) (q : List D → S → Prop) (er : QX), SS K G st H → Sl K G env σ → af env st q er → ThenF K G H q Q → ThenX K W G H σ er → te σ H Q
def AXF (X : Cx) (W : WX) (e : Expr) (af : AFr) : Prop := ∃ te, PE X e te ∧ RefF X.K W te af
theorem RefF.e {K : PySem.W.Frag} {W : WX} {te : TE} {af : AFr} (h : RefF K W te af) : RefE K W te (aFr af) := fun G env st σ H Q q er s l a tE tX =>
  h G env st σ H Q _ er s l a (fun v ds st2 G2 H2 p2 s2 r2 h2 => by
    obtain ⟨G3, s3, p3, r3⟩ := own_frz s2 p2 r2
    exact tE v _ st2 G3 H2 p3 s3 r3 h2) tX
def W0 : WX := fun _ _ _ _ => False
theorem stay_g {K : PySem.W.Frag} {g : TG} {ag : AG} {vs : List Nat} (hg : RefG K g ag) (hs : Stays vs g) {G : Gh} {env : List A} {st : S} {σ : St} {H : Hp} {d : D} {v : V} (s : SS K G st H) (l : Sl K G env (wipe σ vs)) (r : Rep K G d v) {N : List A → Prop} (h : ag d env st N) {Q : St → Hp → Prop}
    (k : ∀ env7 σ7, wipe σ7 vs = wipe σ vs → Sl K G env7 σ7 → N env7 → Q σ7 H) : g v (wipe σ vs) H (fun σ2 H2 => wipe σ2 vs = wipe σ vs ∧ Q σ2 H2) :=
  hs v _ H (fun σ7 H7 => ∃ env7, H7 = H ∧ Sl K G env7 σ7 ∧ N env7) _ σ wipe_wipe (fun σ7 H7 hw ⟨env7, e7, l7, h7⟩ => ⟨hw, by rw [e7]; exact k env7 σ7 hw l7 h7⟩) (hg G env st (wipe σ vs) H d v _ _ s l r h fun env7 σ7 l7 h7 => ⟨env7, rfl, l7, h7⟩)
/-- one loop with its list: whoever has the list at the end goes on with it -/
theorem lc_walk {K : PySem.W.Frag} {g : TG} {ag : AG} {tt : TT} {xt : AT} {te : TE} {ae : AE} {vs : List Nat} (hg : RefG K g ag) (hs : Stays vs g) (ht : RefT K W0 tt xt) (he : RefE K W0 te ae)
    {P : Addr} {G G2 : Gh} {H H2 : Hp} {acc : List D} {st2 : S} {env : List A} {σ : St} (b0 : Bs K P G H acc G2 st2 H2) (l : Sl K G2 env (wipe σ vs)) {J : It} {ds : List D} {gd : Gd} (wk : Walks K G2 J ds gd) {q : List D → S → Prop} (h : aLcL gd ag xt ae env q ds acc st2) (Fin : Hp → Prop)
    (fin : ∀ acc G3 st3 H3, Bs K P G H acc G3 st3 H3 → G2.le G3 → q acc st3 → Fin H3) :
    ∃ W : Nat → Nat → Hp → Prop, (∃ m, W 0 m H2) ∧ ∀ i m H, W i m H →
      (J.stop i H ∧ Fin H) ∨ (J.go i H ∧ ∃ Nx : Hp → Prop, (∀ H', Nx H' → ∃ m', m' < m ∧ W (i + 1) m' H') ∧ ∀ x H', J.yld i H x H' → g x (wipe σ vs) H' fun σ2 H2 => wipe σ2 vs = wipe σ vs ∧ tt σ2 H2 fun b H3 =>
        if b = true then te σ2 H3 fun y H4 => ∃ acc, H4 P = some (.lst acc) ∧ acc.length < sizeLine ∧ Nx (upd H4 P (.lst (acc ++ [y]))) else Nx H3) := by
  have gk : ∀ {ds acc st}, aLcL gd ag xt ae env q ds acc st → gdOk gd st := fun {ds acc st} h => by cases ds <;> exact h.1
  let Inv : Nat → Hp → Prop := fun i H' => i ≤ ds.length ∧ ∃ acc G3 st3, Bs K P G H acc G3 st3 H' ∧ G2.le G3 ∧ aLcL gd ag xt ae env q (ds.drop i) acc st3
  refine ⟨fun i m H' => m = ds.length - i ∧ Inv i H', ⟨ds.length, by omega, Nat.zero_le _, acc, G2, st2, b0, Gh.le.refl _, h⟩, ?_⟩
  rintro i m H' ⟨rfl, hle, acc, G3, st3, b3, le3, f3⟩
  have s3 := b3.ss
  have k3 := gk f3
  by_cases hlt : i < ds.length
  · refine .inr ⟨wk.go i G3 st3 H' le3 s3 k3 hlt, Inv (i + 1), fun H4 h4 => ⟨ds.length - (i + 1), by omega, rfl, h4⟩, fun x H5 y => ?_⟩
    rw [List.drop_eq_getElem_cons hlt] at f3
    have hd : ds[i]? = some ds[i] := by simp [hlt]
    have turn : ∀ G6, Post G3 H' G6 H5 → SS K G6 st3 H5 → Rep K G6 ds[i] x → g x (wipe σ vs) H5 fun σ2 H2 => wipe σ2 vs = wipe σ vs ∧ tt σ2 H2 fun b H3 =>
        if b = true then te σ2 H3 fun y H4 => ∃ acc, H4 P = some (.lst acc) ∧ acc.length < sizeLine ∧ Inv (i + 1) (upd H4 P (.lst (acc ++ [y]))) else Inv (i + 1) H3 := fun G6 p6 s6 rr => by
      have b6 := b3.on p6 s6
      have le6 := le3.trans p6.le
      refine stay_g hg hs s6 (l.mono le6) rr f3.2 fun env7 σ7 hw l7 h7 => ?_
      refine ht G6 env7 st3 σ7 H5 _ _ _ s6 l7 h7 (fun bb st8 G8 H8 p8 s8 h8 => ?_) ThenX.none
      cases bb with
      | false => exact ⟨hlt, acc, G8, st8, b6.on p8 s8, le6.trans p8.le, h8⟩
      | true =>
        refine he G8 env7 st8 σ7 H8 _ _ _ s8 (l7.mono p8.le) h8 (fun w d st9 G9 H9 p9 s9 r9 h9 => ?_) ThenX.none
        obtain ⟨us, e1, e2, e3⟩ := (b6.on (p8.trans p9) s9).app r9 h9.1
        exact ⟨us, e1, e2, hlt, acc ++ [d], G9, st9, e3, le6.trans (p8.trans p9).le, h9.2⟩
    rcases wk.yld i G3 st3 H' _ x H5 le3 s3 k3 hd y with ⟨e5, rr⟩ | ⟨p, xs, es, hp, e5, ex, ed, rs⟩
    · subst e5
      exact turn G3 Post.refl s3 rr
    · obtain ⟨s6, p6⟩ := s3.new (o := .tup xs) hp
      rw [← e5] at s6 p6
      refine turn _ p6 s6 ?_
      rw [ed, ex]
      exact .tup upd_same (rs.mono p6.le)
  · have e : i = ds.length := by omega
    subst e
    rw [List.drop_length] at f3
    exact .inl ⟨wk.stop _ G3 st3 H' le3 s3 k3 rfl, fin acc G3 st3 H' b3 le3 f3.2⟩
theorem refF_lc {K : PySem.W.Frag} {W : WX} {wi : TI} {ai : AI} {g : TG} {ag : AG} {tt : TT} {xt : AT} {te : TE} {ae : AE} {vs : List Nat} (hi : RefI K W wi ai) (hg : RefG K g ag) (hs : Stays vs g) (ht : RefT K W0 tt xt) (he : RefE K W0 te ae) :
    RefF K W (tLc wi g tt te vs) (fLc ai ag xt ae vs) := fun G env st σ H Q q er s l h tE tX => by
  refine hi G env st σ H _ _ er s l h (fun J ds gd st2 G2 H2 p2 s2 wk h2 => ?_) tX
  exact fun P hP => lc_walk hg hs ht he (Bs.start s2 hP) ((l.mono p2.le).wipe vs) wk h2 (fun H' => Q (.ref P) H') fun acc G3 st3 H3 b3 _ q3 =>
    tE _ acc st3 G3 H3 (p2.trans b3.po) b3.ss (b3.own.on p2) q3
theorem refF_lc2 {K : PySem.W.Frag} {W : WX} {wi wi1 : TI} {ai ai1 : AI} {g g1 : TG} {ag ag1 : AG} {tt tt1 : TT} {xt xt1 : AT} {te : TE} {ae : AE} {vs vs1 : List Nat} (hi : RefI K W wi ai) (hg : RefG K g ag) (hs : Stays vs g) (ht : RefT K W0 tt xt) (hi1 : RefI K W0 wi1 ai1) (hg1 : RefG K g1 ag1) (hs1 : Stays vs1 g1) (ht1 : RefT K W0 tt1 xt1) (he : RefE K W0 te ae) :
    RefF K W (tLc2 wi g tt wi1 g1 tt1 te vs vs1) (fLc2 ai ag xt ai1 ag1 xt1 ae vs vs1) := fun G env st σ H Q q er s l h tE tX => by
  refine hi G env st σ H _ _ er s l h (fun J ds gd st2 G2 H2 p2 s2 wk h2 => ?_) tX
  intro P hP
  have b0 := Bs.start s2 hP
  have l0 := (l.mono p2.le).wipe vs
  have gk : ∀ {ds acc st}, aLc2L gd ag xt ai1 ag1 xt1 ae vs1 (wA vs env) q ds acc st → gdOk gd st := fun {ds acc st} h => by cases ds <;> exact h.1
  let Inv : Nat → Hp → Prop := fun i H' => i ≤ ds.length ∧ ∃ acc G3 st3, Bs K P G2 H2 acc G3 st3 H' ∧ G2.le G3 ∧ aLc2L gd ag xt ai1 ag1 xt1 ae vs1 (wA vs env) q (ds.drop i) acc st3
  refine ⟨fun i m H' => m = ds.length - i ∧ Inv i H', ⟨ds.length, by omega, Nat.zero_le _, [], G2, st2, b0, Gh.le.refl _, h2⟩, ?_⟩
  rintro i m H' ⟨rfl, hle, acc, G3, st3, b3, le3, f3⟩
  have s3 := b3.ss
  have k3 := gk f3
  by_cases hlt : i < ds.length
  · refine .inr ⟨wk.go i G3 st3 H' le3 s3 k3 hlt, Inv (i + 1), fun H4 h4 => ⟨ds.length - (i + 1), by omega, rfl, h4⟩, fun x H5 y => ?_⟩
    rw [List.drop_eq_getElem_cons hlt] at f3
    have hd : ds[i]? = some ds[i] := by simp [hlt]
    have turn : ∀ G6, Post G3 H' G6 H5 → SS K G6 st3 H5 → Rep K G6 ds[i] x → g x (wipe σ vs) H5 fun σ2 H2 => wipe σ2 vs = wipe σ vs ∧ tt σ2 H2 fun b H3 =>
        if b = true then wi1 σ2 H3 fun J1 H4 => ∃ W1 : Nat → Nat → Hp → Prop, (∃ m, W1 0 m H4) ∧ ∀ j k H, W1 j k H →
          (J1.stop j H ∧ Inv (i + 1) H) ∨ (J1.go j H ∧ ∃ Nx1 : Hp → Prop, (∀ H', Nx1 H' → ∃ k', k' < k ∧ W1 (j + 1) k' H') ∧ ∀ x H', J1.yld j H x H' → g1 x (wipe σ2 vs1) H' fun σ3 H5 => wipe σ3 vs1 = wipe σ2 vs1 ∧ tt1 σ3 H5 fun b H6 =>
            if b = true then te σ3 H6 fun y H7 => ∃ acc, H7 P = some (.lst acc) ∧ acc.length < sizeLine ∧ Nx1 (upd H7 P (.lst (acc ++ [y]))) else Nx1 H6)
        else Inv (i + 1) H3 := fun G6 p6 s6 rr => by
      have b6 := b3.on p6 s6
      have le6 := le3.trans p6.le
      refine stay_g hg hs s6 (l0.mono le6) rr f3.2 fun env7 σ7 hw l7 h7 => ?_
      refine ht G6 env7 st3 σ7 H5 _ _ _ s6 l7 h7 (fun bb st8 G8 H8 p8 s8 h8 => ?_) ThenX.none
      cases bb with
      | false => exact ⟨hlt, acc, G8, st8, b6.on p8 s8, le6.trans p8.le, h8⟩
      | true =>
        refine hi1 G8 env7 st8 σ7 H8 _ _ _ s8 (l7.mono p8.le) h8 (fun J1 ds1 gd1 st9 G9 H9 p9 s9 wk9 h9 => ?_) ThenX.none
        exact lc_walk hg1 hs1 ht1 he ((b6.on p8 s8).on p9 s9) ((l7.mono (p8.trans p9).le).wipe vs1) wk9 h9 (Inv (i + 1)) fun acc' G10 st10 H10 b10 le10 q10 => ⟨hlt, acc', G10, st10, b10, (le6.trans (p8.trans p9).le).trans le10, q10⟩
    rcases wk.yld i G3 st3 H' _ x H5 le3 s3 k3 hd y with ⟨e5, rr⟩ | ⟨p, xs, es, hp, e5, ex, ed, rs⟩
    · subst e5
      exact turn G3 Post.refl s3 rr
    · obtain ⟨s6, p6⟩ := s3.new (o := .tup xs) hp
      rw [← e5] at s6 p6
      refine turn _ p6 s6 ?_
      rw [ed, ex]
      exact .tup upd_same (rs.mono p6.le)
  · have e : i = ds.length := by omega
    subst e
    rw [List.drop_length] at f3
    exact .inl ⟨wk.stop _ G3 st3 H' le3 s3 k3 rfl, tE _ acc st3 G3 H' (p2.trans b3.po) s3 (b3.own.on p2) f3.2⟩
end AM
set_option Elab.async false
set_option linter.all false
set_option maxRecDepth 100000
set_option maxHeartbeats 4000000
namespace AM
open PySem L2 Evl
/-! ### a def by data -/
abbrev AF := List D → S → (Rs → S → Prop) → QX → Prop
def SpA (K : PySem.W.Frag) (m : AF) : Sp := fun vs H Q E => ∃ G st args q er, SS K G st H ∧ Reps K G args vs ∧ m args st q er ∧
  (∀ v r st2 G2 H2, Post G H G2 H2 → SS K G2 st2 H2 → ResOk K H G2 H2 r v → q r st2 → Q v H2) ∧
  ∀ e c dx st2 G2 H2, Post G H G2 H2 → SS K G2 st2 H2 → ErAt K G2 e c dx → er e st2 → E c dx H2
def Rs.lt (k : Nat) : Rs → Prop
  | .d x => x.lt k
  | .own l => ltL k l
  | .ownD l => ltP k l
/-- how a def is left: the store stays as it is -/
def fnP (np ns : Nat) (b : AS) : AF := fun args st q er => args.length = np ∧ b (args.map .d ++ List.replicate (ns - np) .no) st ⟨fun _ s => q (.d .non) s, q, fun _ _ => False, fun _ _ => False, fun e _ s => er e s⟩
/-- .. its own cells are left away; a list of its own may be handed on -/
def exC (k : Nat) (q : Rs → S → Prop) (r : Rs) (s : S) : Prop := ltS k (s.take k) ∧ ((r.lt k ∧ q r (s.take k)) ∨ ∃ n l, r = .d (.ref n) ∧ k ≤ n ∧ s[n]? = some (.lst l) ∧ ltL k l ∧ q (.own l) (s.take k))
def exD (k : Nat) (q : Rs → S → Prop) (r : Rs) (s : S) : Prop := ltS k (s.take k) ∧ ((r.lt k ∧ q r (s.take k)) ∨ ∃ n l, r = .d (.ref n) ∧ k ≤ n ∧ s[n]? = some (.dic l) ∧ ltP k l ∧ q (.ownD l) (s.take k))
def fnD (np ns : Nat) (b : AS) : AF := fun args st q er => args.length = np ∧ (ltL st.length args → ltS st.length st → b (args.map .d ++ List.replicate (ns - np) .no) st ⟨fun _ s => exD st.length q (.d .non) s, exD st.length q, fun _ _ => False, fun _ _ => False, fun e _ s => e.lt st.length ∧ ltS st.length (s.take st.length) ∧ er e (s.take st.length)⟩)
def fnC (np ns : Nat) (b : AS) : AF := fun args st q er => args.length = np ∧ (ltL st.length args → ltS st.length st → b (args.map .d ++ List.replicate (ns - np) .no) st ⟨fun _ s => exC st.length q (.d .non) s, exC st.length q, fun _ _ => False, fun _ _ => False, fun e _ s => e.lt st.length ∧ ltS st.length (s.take st.length) ∧ er e (s.take st.length)⟩)
theorem get_pad {α : Type} {l : List α} {n i : Nat} {a x : α} (h : (l ++ List.replicate n a)[i]? = some x) : l[i]? = some x ∨ (x = a ∧ l.length ≤ i) := by
  by_cases hi : i < l.length
  · rw [List.getElem?_append_left hi] at h
    exact .inl h
  · rw [List.getElem?_append_right (by omega), List.getElem?_replicate] at h
    split at h
    · exact .inr ⟨(Option.some.inj h).symm, by omega⟩
    · cases h
theorem Reps.sl {K : PySem.W.Frag} {G : Gh} {args : List D} {vs : List V} (r : Reps K G args vs) (n : Nat) : Sl K G (args.map .d ++ List.replicate n .no) (vs.map some ++ List.replicate n none) := by
  refine ⟨by simp [r.length], fun i x h => ?_⟩
  rcases get_pad h with h | ⟨rfl, _⟩
  · rw [List.getElem?_map] at h
    cases hh : args[i]? with
    | none => rw [hh] at h; cases h
    | some d =>
      rw [hh] at h
      cases h
      obtain ⟨v, hv, rv⟩ := r.get hh
      refine ⟨v, ?_, rv⟩
      rw [List.getElem?_append_left (by rw [List.length_map]; exact (List.getElem?_eq_some_iff.mp hv).1), List.getElem?_map, hv]
      rfl
  · trivial
/-! ### contexts -/
theorem takesN0 {X : Cx} : L2N.Takes X (fun _ _ _ _ => False) := fun _ _ x => by
  obtain ⟨_, _, _, _, _, _, _, _, _, _, _, _, _, _, _, _, w⟩ := x
  exact w.elim
structure CxE (X : Cx) (W : WX) (k : Nat) : Prop where
  calm : X.calm = true
  nd : X.N.Nodup
  room : Room k X.A
  takes : L2N.Takes X W
structure CxS (X : Cx) (W : WX) (k : Nat) : Prop extends CxE X W k where
  po : PassesOwn (model X.prog X.w) X.A X.env X.xe
  stk : X.stack = X.env :: X.outer
  frm : X.env.frame = some X.env.locals
theorem CxE.mono {X : Cx} {W : WX} {j k : Nat} (c : CxE X W k) (h : j ≤ k) : CxE X W j := ⟨c.calm, c.nd, c.room.mono h, c.takes⟩
theorem CxS.mono {X : Cx} {W : WX} {j k : Nat} (c : CxS X W k) (h : j ≤ k) : CxS X W j := ⟨c.toCxE.mono h, c.po, c.stk, c.frm⟩
theorem CxE.blk {X : Cx} {W : WX} {k : Nat} (c : CxE X W k) (s : Shared) (H : Hp) (scope : Scope) (ce : Env) (fp : List Addr) : CxE (X.blk s H scope ce fp) W0 k := ⟨c.calm, c.nd, c.room, takesN0⟩
abbrev dE (E : XK) : WX := fun c d _ H => E c d H
/-- a body leads to a promise -/
structure Leads (np ns : Nat) (b : AS) (m : AF) : Prop where
  ar : ∀ args st q er, m args st q er → args.length = np
  run : ∀ {K : PySem.W.Frag} {G : Gh} {st : S} {H : Hp} {args : List D} {q : Rs → S → Prop} {er : QX} {Q : VK} {E : XK} {vs : List V}, SS K G st H → Reps K G args vs → m args st q er →
    (∀ v r st2 G2 H2, Post G H G2 H2 → SS K G2 st2 H2 → ResOk K H G2 H2 r v → q r st2 → Q v H2) → (∀ e c dx st2 G2 H2, Post G H G2 H2 → SS K G2 st2 H2 → ErAt K G2 e c dx → er e st2 → E c dx H2) →
    ∃ k, b (args.map .d ++ List.replicate (ns - np) .no) st k ∧ ThenS K (dE E) G H k { nx := fun _ H' => Q .non H', rt := Q }
theorem leadsP {np ns : Nat} {b : AS} : Leads np ns b (fnP np ns b) := ⟨fun _ _ _ _ h => h.1, fun {K G st H args q er Q E vs} s r m hq he => ⟨_, m.2, fun env' σ' st2 G2 H2 p2 s2 l2 h => hq .non (.d .non) st2 G2 H2 p2 s2 Rep.non h, hq, fun _ _ _ _ _ _ _ _ z => z.elim, fun _ _ _ _ _ _ _ _ z => z.elim, fun e c dx env' σ' st2 G2 H2 p2 s2 l2 ea h => he e c dx st2 G2 H2 p2 s2 ea h⟩⟩
theorem DctAt.cut {K : PySem.W.Frag} {G : Gh} {H : Hp} {p : Addr} {l : List (D × D)} {as : List Addr} (e : as <+: G.as) (h : DctAt K G H p l) (hl : ltP as.length l) : DctAt K ⟨G.g, as⟩ H p l := by
  obtain ⟨kvs, h, r⟩ := h
  exact ⟨kvs, h, r.cut e hl⟩
theorem leadsC {np ns : Nat} {b : AS} : Leads np ns b (fnC np ns b) := ⟨fun _ _ _ _ h => h.1, fun {K G st H args q er Q E vs} s r m hq he => by
  have ka : G.as.length = st.length := s.len
  have la : ltL st.length args := by rw [← ka]; exact r.lt
  have rt : ∀ (v : V) (r : Rs) (st2 : S) (G2 : Gh) (H2 : Hp), Post G H G2 H2 → SS K G2 st2 H2 → ResOk K H G2 H2 r v → exC st.length q r st2 → Q v H2 := fun v r st2 G2 H2 p2 s2 r2 h => by
    obtain ⟨h1, h⟩ := h
    rw [← ka] at h1 h
    have s3 := s2.cut p2.le.a h1
    have p3 := p2.cut
    rcases h with ⟨h2, h⟩ | ⟨n, l, rfl, hn, e, hl, h⟩
    · refine hq v r _ _ H2 p3 s3 ?_ h
      cases r with
      | d x => exact Rep.cut p2.le.a r2 h2
      | own l =>
        obtain ⟨p, vs, e1, e2, e3, e4, e5, e6⟩ := r2
        exact ⟨p, vs, e1, e2, e3, fun z => e4 (p2.le.a.subset z), e5, e6.cut p2.le.a h2⟩
      | ownD l =>
        obtain ⟨p, e1, e2, e3, e4, e5⟩ := r2
        exact ⟨p, e1, e2.cut p2.le.a h2, e3, fun z => e4 (p2.le.a.subset z), e5⟩
    · refine hq v (.own l) _ _ H2 p3 s3 ?_ h
      cases r2 with
      | ref ep =>
        rename_i p
        obtain ⟨vs, gp, hp, rs⟩ := s2.cell n _ p e ep
        have np : p ∉ G.as := fun z => by
          obtain ⟨i, ei⟩ := List.mem_iff_getElem?.mp z
          have hi := (List.getElem?_eq_some_iff.mp ei).1
          have := (List.getElem?_inj (List.getElem?_eq_some_iff.mp ep).1 s2.nd).mp (ep.trans (pre_get p2.le.a ei).symm)
          omega
        refine ⟨p, vs, rfl, hp, gp, np, ?_, rs.cut p2.le.a hl⟩
        rcases p2.o p (List.mem_of_getElem? ep) with z | z
        · exact absurd z np
        · exact z
  refine ⟨_, m.2 la s.wf, fun env' σ' st2 G2 H2 p2 s2 l2 h => rt .non (.d .non) st2 G2 H2 p2 s2 Rep.non h, rt, fun _ _ _ _ _ _ _ _ z => z.elim, fun _ _ _ _ _ _ _ _ z => z.elim, fun e c dx env' σ' st2 G2 H2 p2 s2 l2 ea h => ?_⟩
  obtain ⟨h1, h2, h⟩ := h
  rw [← ka] at h1 h2 h
  exact he e c dx _ _ H2 p2.cut (s2.cut p2.le.a h2) (ea.cut p2.le.a h1) h⟩
theorem leadsD {np ns : Nat} {b : AS} : Leads np ns b (fnD np ns b) := ⟨fun _ _ _ _ h => h.1, fun {K G st H args q er Q E vs} s r m hq he => by
  have ka : G.as.length = st.length := s.len
  have la : ltL st.length args := by rw [← ka]; exact r.lt
  have rt : ∀ (v : V) (r : Rs) (st2 : S) (G2 : Gh) (H2 : Hp), Post G H G2 H2 → SS K G2 st2 H2 → ResOk K H G2 H2 r v → exD st.length q r st2 → Q v H2 := fun v r st2 G2 H2 p2 s2 r2 h => by
    obtain ⟨h1, h⟩ := h
    rw [← ka] at h1 h
    have s3 := s2.cut p2.le.a h1
    have p3 := p2.cut
    rcases h with ⟨h2, h⟩ | ⟨n, l, rfl, hn, e, hl, h⟩
    · refine hq v r _ _ H2 p3 s3 ?_ h
      cases r with
      | d x => exact Rep.cut p2.le.a r2 h2
      | own l =>
        obtain ⟨p, vs, e1, e2, e3, e4, e5, e6⟩ := r2
        exact ⟨p, vs, e1, e2, e3, fun z => e4 (p2.le.a.subset z), e5, e6.cut p2.le.a h2⟩
      | ownD l =>
        obtain ⟨p, e1, e2, e3, e4, e5⟩ := r2
        exact ⟨p, e1, e2.cut p2.le.a h2, e3, fun z => e4 (p2.le.a.subset z), e5⟩
    · refine hq v (.ownD l) _ _ H2 p3 s3 ?_ h
      cases r2 with
      | ref ep =>
        rename_i p
        obtain ⟨gp, hp⟩ := s2.cell n _ p e ep
        have np : p ∉ G.as := fun z => by
          obtain ⟨i, ei⟩ := List.mem_iff_getElem?.mp z
          have hi := (List.getElem?_eq_some_iff.mp ei).1
          have := (List.getElem?_inj (List.getElem?_eq_some_iff.mp ep).1 s2.nd).mp (ep.trans (pre_get p2.le.a ei).symm)
          omega
        refine ⟨p, rfl, DctAt.cut p2.le.a hp hl, gp, np, ?_⟩
        rcases p2.o p (List.mem_of_getElem? ep) with z | z
        · exact absurd z np
        · exact z
  refine ⟨_, m.2 la s.wf, fun env' σ' st2 G2 H2 p2 s2 l2 h => rt .non (.d .non) st2 G2 H2 p2 s2 Rep.non h, rt, fun _ _ _ _ _ _ _ _ z => z.elim, fun _ _ _ _ _ _ _ _ z => z.elim, fun e c dx env' σ' st2 G2 H2 p2 s2 l2 ea h => ?_⟩
  obtain ⟨h1, h2, h⟩ := h
  rw [← ka] at h1 h2 h
  exact he e c dx _ _ H2 p2.cut (s2.cut p2.le.a h2) (ea.cut p2.le.a h1) h⟩
/-- THE RULE for a def -/
theorem fn_ok {P : Program} {w : World} {K : PySem.W.Frag} {mg : Str → Option Value} {base : Heap} {x qual : Str} {params : Arguments} {body : List Stmt} {scope : Scope} {dvs : List V} {kws : List (Str × V)} {f : Addr} {fd : FuncData} {N ps : List Str} {k : Nat} {as : AS} {m : AF}
    (F : FunD K x qual params body scope dvs kws f fd) (S : FnScope N ps scope) (L : Leads ps.length N.length as m)
    (hb : ∀ (cdv : Value) (A : Around) (outer : List Env) (s : Shared) (H : Hp) (E : XK), CxS (cxOf (L2N.CX P w) P w K mg base N qual scope f cdv A outer s H E) (dE E) k → AXB (cxOf (L2N.CX P w) P w K mg base N qual scope f cdv A outer s H E) (dE E) body as) : FnOk P w K mg base (L2N.CX P w) (k + 1) f fd ps (SpA K m) := by
  refine F.ok S (fun vs H Q E h => ?_) (fun cdv A outer s H vs Q E hr h => ?_)
  · obtain ⟨G, st, args, q, er, ss, r, m, _⟩ := h
    rw [← r.length]
    exact L.ar _ _ _ _ m
  · obtain ⟨G, st, args, q, er, ss, r, m, hq, he⟩ := h
    obtain ⟨ts, p1, p2⟩ := hb cdv A outer s H E ⟨⟨rfl, S.nd, hr, L2N.takes_of rfl rfl rfl rfl⟩, passes_of rfl, rfl, rfl⟩
    refine ⟨ts, p1, ?_⟩
    obtain ⟨kk, hk, tk⟩ := L.run ss r m hq he
    have e : L2.start N vs = vs.map some ++ List.replicate (N.length - ps.length) none := by unfold L2.start; rw [← r.length, L.ar _ _ _ _ m]
    rw [e]
    exact p2 G _ st _ H _ kk ss (r.sl _) hk tk
/-! ### a call -/
def aCall (m : AF) (args : AEs) (dd : List D) : AE := fun env st q er => args env st (fun ds s1 => m (ds ++ dd) s1 (fun r s2 => match r with
  | .d d => q d s2
  | .own l => q (.lst l) s2
  | .ownD l => q (.dic l) s2) er) er
/-- .. whose list nobody else holds -/
def fCall (m : AF) (args : AEs) (dd : List D) : AFr := fun env st q er => args env st (fun ds s1 => m (ds ++ dd) s1 (fun r s2 => match r with
  | .own l => q l s2
  | _ => False) er) er
/-- a call whose dict nobody else holds -/
def fdCall (m : AF) (args : AEs) (dd : List D) : List A → S → (List (D × D) → S → Prop) → QX → Prop := fun env st q er => args env st (fun ds s1 => m (ds ++ dd) s1 (fun r s2 => match r with
  | .ownD l => q l s2
  | _ => False) er) er
section
variable {K : PySem.W.Frag} {W : WX}
theorem refE_call {m : AF} {ta : TA} {args : AEs} {dd : List D} {dvs : List V} (ha : RefA K W ta args) (hd : ∀ G, Reps K G dd dvs) : RefE K W (tCallSD (SpA K m) dvs (fun σ c d H => W c d σ H) ta) (aCall m args dd) := fun G env st σ H Q q er s l h tE tX => by
  refine ha G env st σ H _ _ er s l h (fun vs ds st2 G2 H2 p2 s2 a2 h2 => ?_) tX
  refine ⟨G2, st2, _, _, er, s2, a2.append (hd G2), h2, fun v r st3 G3 H3 p3 s3 r3 h3 => ?_, fun e c dx st3 G3 H3 p3 s3 ea h3 => tX e c dx st3 G3 H3 (p2.trans p3) s3 ea h3⟩
  cases r with
  | d x => exact tE v x st3 G3 H3 (p2.trans p3) s3 r3 h3
  | own l =>
    obtain ⟨G4, s4, p4, r4⟩ := own_frz s3 p3 r3
    exact tE v _ st3 G4 H3 (p2.trans p4) s4 r4 h3
  | ownD l =>
    obtain ⟨G4, s4, p4, r4⟩ := ownd_frz s3 p3 r3
    exact tE v _ st3 G4 H3 (p2.trans p4) s4 r4 h3
theorem refF_call {m : AF} {ta : TA} {args : AEs} {dd : List D} {dvs : List V} (ha : RefA K W ta args) (hd : ∀ G, Reps K G dd dvs) : RefF K W (tCallSD (SpA K m) dvs (fun σ c d H => W c d σ H) ta) (fCall m args dd) := fun G env st σ H Q q er s l h tE tX => by
  refine ha G env st σ H _ _ er s l h (fun vs ds st2 G2 H2 p2 s2 a2 h2 => ?_) tX
  refine ⟨G2, st2, _, _, er, s2, a2.append (hd G2), h2, fun v r st3 G3 H3 p3 s3 r3 h3 => ?_, fun e c dx st3 G3 H3 p3 s3 ea h3 => tX e c dx st3 G3 H3 (p2.trans p3) s3 ea h3⟩
  cases r with
  | d x => exact h3.elim
  | ownD l => exact h3.elim
  | own l => exact tE v l st3 G3 H3 (p2.trans p3) s3 (r3.on p2) h3
end
end AM
set_option Elab.async false
set_option linter.all false
set_option maxRecDepth 100000
set_option maxHeartbeats 4000000
namespace AM
open PySem L2 Evl
/-! ### one reading for a piece of data's reading -/
def rdE (K : PySem.W.Frag) (W : WX) (ae : AE) : TE := fun σ H Q => ∃ G env st q er, SS K G st H ∧ Sl K G env σ ∧ ae env st q er ∧ ThenE K G H q Q ∧ ThenX K W G H σ er
def rdT (K : PySem.W.Frag) (W : WX) (xt : AT) : TT := fun σ H Q => ∃ G env st q er, SS K G st H ∧ Sl K G env σ ∧ xt env st q er ∧ ThenT K G H q Q ∧ ThenX K W G H σ er
def rdS (K : PySem.W.Frag) (W : WX) (as : AS) : TS := fun D σ H => ∃ G env st k, SS K G st H ∧ Sl K G env σ ∧ as env st k ∧ ThenS K W G H k D
def rdI (K : PySem.W.Frag) (W : WX) (ai : AI) : TI := fun σ H R => ∃ G env st q er, SS K G st H ∧ Sl K G env σ ∧ ai env st q er ∧ (∀ J ds gd st2 G2 H2, Post G H G2 H2 → SS K G2 st2 H2 → Walks K G2 J ds gd → q ds gd st2 → R J H2) ∧ ThenX K W G H σ er
def rdG (K : PySem.W.Frag) (vs : List Nat) (ag : AG) : TG := fun v σ H Q => ∃ G env st d q, SS K G st H ∧ Sl K G env σ ∧ Rep K G d v ∧ ag d env st q ∧ ∀ env' σ', Sl K G env' σ' → wipe σ' vs = wipe σ vs → q env' → Q σ' H
theorem AX.pe {X : Cx} {W : WX} {e : Expr} {ae : AE} (h : AX X W e ae) : PE X e (rdE X.K W ae) := by
  obtain ⟨te, p, r⟩ := h
  exact ⟨fun pins s σ H Q I ⟨G, env, st, q, er, sa, sl, a, tE, tX⟩ => p.run pins s σ H Q I (r G env st σ H Q q er sa sl a tE tX)⟩
theorem rdE_ref {K : PySem.W.Frag} {W : WX} {ae : AE} : RefE K W (rdE K W ae) ae := fun G env st σ H Q q er s l a tE tX => ⟨G, env, st, q, er, s, l, a, tE, tX⟩
theorem AXI.pi {X : Cx} {W : WX} {tg e : Expr} {ai : AI} (h : AXI X W tg e ai) : PI X tg e (rdI X.K W ai) := by
  obtain ⟨te, p, r⟩ := h
  exact ⟨fun pins s σ H Q I ⟨G, env, st, q, er, sa, sl, a, tE, tX⟩ => p.run pins s σ H Q I (r G env st σ H Q q er sa sl a tE tX)⟩
theorem rdI_ref {K : PySem.W.Frag} {W : WX} {ai : AI} : RefI K W (rdI K W ai) ai := fun G env st σ H Q q er s l a tE tX => ⟨G, env, st, q, er, s, l, a, tE, tX⟩
theorem AXB.ps {X : Cx} {W : WX} {b : List Stmt} {as : AS} (h : AXB X W b as) : PSs X b (rdS X.K W as) := by
  obtain ⟨ts, p, r⟩ := h
  exact ⟨fun pins s σ H D I ⟨G, env, st, k, sa, sl, a, t⟩ => p.run pins s σ H D I (r G env st σ H D k sa sl a t)⟩
theorem rdS_ref {K : PySem.W.Frag} {W : WX} {as : AS} : RefS K W (rdS K W as) as := fun G env st σ H D k s l a t => ⟨G, env, st, k, s, l, a, t⟩
def AXTs (X : Cx) (W : WX) (es : List Expr) (xt : AT) : Prop := ∃ tt, PTs X es tt ∧ RefT X.K W tt xt
theorem AXTs.pts {X : Cx} {W : WX} {e : List Expr} {xt : AT} (h : AXTs X W e xt) : PTs X e (rdT X.K W xt) := by
  obtain ⟨te, p, r⟩ := h
  exact ⟨fun pins s σ H Q I ⟨G, env, st, q, er, sa, sl, a, tE, tX⟩ => p.run pins s σ H Q I (r G env st σ H Q q er sa sl a tE tX)⟩
theorem rdT_ref {K : PySem.W.Frag} {W : WX} {xt : AT} : RefT K W (rdT K W xt) xt := fun G env st σ H Q q er s l a tE tX => ⟨G, env, st, q, er, s, l, a, tE, tX⟩
def aYes : AT := fun _ st q _ => q true st
theorem axts_nil {X : Cx} {W : WX} : AXTs X W [] aYes := ⟨_, pts_nil, fun G env st σ H Q q er s l h tT _ => tT true st G H Post.refl s h⟩
theorem axts_one {X : Cx} {W : WX} {e : Expr} {xt : AT} (h : AXT X W e xt) : AXTs X W [e] xt := by
  obtain ⟨te, p, r⟩ := h
  exact ⟨_, pts_one p, r⟩
/-- targets within a comprehension -/
def AXGc (X : Cx) (vs : List Nat) (e : Expr) (ag : AG) : Prop := ∃ g, PG X e g ∧ RefG X.K g ag ∧ Stays vs g
def AXGcs (X : Cx) (vs : List Nat) (es : List Expr) (ag : AGs) : Prop := ∃ g, PGs X es g ∧ RefGs X.K g ag ∧ Stayss vs g
theorem AXGc.pg {X : Cx} {vs : List Nat} {e : Expr} {ag : AG} (h : AXGc X vs e ag) : PG X e (rdG X.K vs ag) := by
  obtain ⟨g, p, r, st⟩ := h
  refine ⟨fun pins s σ H v u Q I rv ⟨G, env, sto, d, q, sa, sl, rd, a, t⟩ => p.run pins s σ H v u Q I rv ?_⟩
  exact st v σ H (fun σ' H' => ∃ env', H' = H ∧ Sl X.K G env' σ' ∧ q env') Q σ rfl (fun σ2 H2 hw ⟨env', e2, l2, h2⟩ => by rw [e2]; exact t env' σ2 l2 hw h2) (r G env sto σ H d v _ q sa sl rd a fun env' σ' l2 h2 => ⟨env', rfl, l2, h2⟩)
theorem rdG_ref {K : PySem.W.Frag} {vs : List Nat} {ag : AG} : RefG K (rdG K vs ag) ag := fun G env st σ H d v Q q s l r a t => ⟨G, env, st, d, q, s, l, r, a, fun env' σ' l2 _ h2 => t env' σ' l2 h2⟩
theorem rdG_stays {K : PySem.W.Frag} {vs : List Nat} {ag : AG} : Stays vs (rdG K vs ag) := fun v σ H Q Q' σ0 e k ⟨G, env, st, d, q, s, l, r, a, t⟩ => ⟨G, env, st, d, q, s, l, r, a, fun env' σ' l2 hw h2 => k σ' H (hw.trans e) (t env' σ' l2 hw h2)⟩
section
variable {X : Cx} {vs : List Nat} {pos : Pos} {e : Expr} {es : List Expr} {ag : AG} {ags : AGs}
theorem axgc_name {i : Nat} {x : Str} (hN : X.N.Nodup) (hm : i ∈ vs := by decide) (hi : X.N[i]? = some x := by rfl) (hx : Loc X.env.scope x := by first | exact Or.inl rfl | exact Or.inr rfl) (hf : X.fn x = true ∨ X.env.scope.names.lookup x = some .local := by first | exact .inl rfl | exact .inr rfl) : AXGc X vs (.Name x pos) (agName i) := ⟨_, pg_name hN hi hx hf, refG_name i, stays_name hm⟩
theorem axgcs_nil : AXGcs X vs [] agNil := ⟨_, pgs_nil, refGs_nil, stays_nil⟩
theorem axgcs_cons (h1 : AXGc X vs e ag) (h2 : AXGcs X vs es ags) (hs : (assignEach (e :: es) X.env).map (·.2) = assign e X.env :: (assignEach es X.env).map (·.2) := by rfl) : AXGcs X vs (e :: es) (agCons ag ags) := by
  obtain ⟨g, p, r, st⟩ := h1
  obtain ⟨g', p', r', st'⟩ := h2
  exact ⟨_, pgs_cons p p' hs, refGs_cons r r', stays_cons st st'⟩
theorem axgc_tup {k n : Nat} (hc : X.calm = true) (h : AXGcs X vs es ags) (hn : (assignEach es X.env).length = n := by rfl) (hst : (assignEach es X.env).findIdx? (·.1) = none := by rfl) : AXGc X vs (.Tuple es k pos) (agTup n ags) := by
  obtain ⟨g, p, r, st⟩ := h
  exact ⟨_, pg_tup hc p hn hst, refG_tup r, stays_tup st⟩
theorem axg_name {i : Nat} {x : Str} (hN : X.N.Nodup) (hi : X.N[i]? = some x := by rfl) (hx : Loc X.env.scope x := by first | exact Or.inl rfl | exact Or.inr rfl) (hf : X.fn x = true ∨ X.env.scope.names.lookup x = some .local := by first | exact .inl rfl | exact .inr rfl) : AXG X (.Name x pos) (agName i) := ⟨_, pg_name hN hi hx hf, refG_name i⟩
theorem axgs_nil : AXGs X [] agNil := ⟨_, pgs_nil, refGs_nil⟩
theorem axgs_cons (h1 : AXG X e ag) (h2 : AXGs X es ags) (hs : (assignEach (e :: es) X.env).map (·.2) = assign e X.env :: (assignEach es X.env).map (·.2) := by rfl) : AXGs X (e :: es) (agCons ag ags) := by
  obtain ⟨g, p, r⟩ := h1
  obtain ⟨g', p', r'⟩ := h2
  exact ⟨_, pgs_cons p p' hs, refGs_cons r r'⟩
theorem axg_tup {k n : Nat} (hc : X.calm = true) (h : AXGs X es ags) (hn : (assignEach es X.env).length = n := by rfl) (hst : (assignEach es X.env).findIdx? (·.1) = none := by rfl) : AXG X (.Tuple es k pos) (agTup n ags) := by
  obtain ⟨g, p, r⟩ := h
  exact ⟨_, pg_tup hc p hn hst, refG_tup r⟩
end
/-! ### statements -/
section
variable {X : Cx} {W : WX} {k : Nat} {pos pos' : Pos} {e c : Expr} {ae : AE} {xt : AT} {st : Stmt} {sts a b : List Stmt} {as bs : AS}
theorem axb_nil : AXB X W [] sNext := ⟨_, pss_nil, refS_next⟩
theorem axb_one (h : AXS X W st as) : AXB X W [st] as := by
  obtain ⟨t, p, r⟩ := h
  exact ⟨_, pss_one p, r⟩
theorem axb_cons (h : AXS X W st as) (h2 : AXB X W sts bs) : AXB X W (st :: sts) (sSeq as bs) := by
  obtain ⟨t, p, r⟩ := h
  obtain ⟨t2, p2, r2⟩ := h2
  exact ⟨_, pss_cons p p2, refS_seq r r2⟩
theorem axs_pass : AXS X W (.Pass pos) sNext := ⟨_, ps_pass, refS_next⟩
theorem axs_break : AXS X W (.Break pos) sBreak := ⟨_, ps_break, refS_break⟩
theorem axs_cont : AXS X W (.Continue pos) sCont := ⟨_, ps_continue, refS_cont⟩
theorem axs_expr (h : AX X W e ae) (hs : swapsWith e none pos.line X.env = pure false := by rfl) : AXS X W (.Expr e pos) (sDrop ae) := by
  obtain ⟨t, p, r⟩ := h
  exact ⟨_, ps_expr p hs, refS_drop r⟩
theorem axs_ret (h : AX X W e ae) : AXS X W (.Return (some e) pos) (sRet ae) := by
  obtain ⟨t, p, r⟩ := h
  exact ⟨_, ps_ret p, refS_ret r⟩
theorem axs_retN : AXS X W (.Return none pos) sRetN := ⟨_, ps_retN, refS_retN⟩
theorem axs_if (hc : AXT X W c xt) (ha : AXB X W a as) (hb : AXB X W b bs) : AXS X W (.If c a b pos) (sIf xt as bs) := by
  obtain ⟨t, p, r⟩ := hc
  obtain ⟨t1, p1, r1⟩ := ha
  obtain ⟨t2, p2, r2⟩ := hb
  exact ⟨_, ps_if p p1 p2, refS_if r r1 r2⟩
theorem axs_set {i : Nat} {x : Str} (hN : X.N.Nodup) (h : AX X W e ae) (hi : X.N[i]? = some x := by rfl) (hx : Loc X.env.scope x := by first | exact Or.inl rfl | exact Or.inr rfl) (hs : swapsWith e (some (.Name x pos')) pos.line X.env = pure false := by rfl) (hf : X.fn x = true ∨ X.env.scope.names.lookup x = some .local := by first | exact .inl rfl | exact .inr rfl) :
    AXS X W (.Assign [.Name x pos'] e pos) (sAsg ae (agName i)) := by
  obtain ⟨t, p, r⟩ := h
  exact ⟨_, ps_set hN hi hx p hs hf, refS_asg r (refG_name i)⟩
theorem axs_asg {tg : Expr} {ag : AG} (h : AX X W e ae) (hg : AXG X tg ag) (hs : swapsWithSole [tg] e pos.line X.env = pure false := by rfl) (hw : swappedStores [tg] e X.env = pure none := by rfl) (h1 : (assignEach [tg] X.env).map (·.2) = [assign tg X.env] := by rfl) : AXS X W (.Assign [tg] e pos) (sAsg ae ag) := by
  obtain ⟨t, p, r⟩ := h
  obtain ⟨g, p1, r1⟩ := hg
  exact ⟨_, ps_asg p p1 hs hw h1, refS_asg r r1⟩
theorem axs_par {i j : Nat} {x y : Str} {e1 e2 : Expr} {aa : AEs} {px py pt pt2 : Pos} {kt k2 : Nat} (hc : X.calm = true) (hN : X.N.Nodup) (ha : AXA X W [e1, e2] aa) (hij : i ≠ j := by decide) (hi : X.N[i]? = some x := by rfl) (hj : X.N[j]? = some y := by rfl) (hx : X.env.scope.names.lookup x = some .local := by rfl) (hy : X.env.scope.names.lookup y = some .local := by rfl)
    (hw : swappedStores [.Tuple [.Name x px, .Name y py] kt pt] (.Tuple [e1, e2] k2 pt2) X.env = pure (some [x, y]) := by rfl) (hs : swapsWithSole [.Tuple [.Name x px, .Name y py] kt pt] (.Tuple [e1, e2] k2 pt2) pos.line X.env = pure false := by rfl) :
    AXS X W (.Assign [.Tuple [.Name x px, .Name y py] kt pt] (.Tuple [e1, e2] k2 pt2) pos) (sPar i j aa) := by
  obtain ⟨t, p, r⟩ := ha
  exact ⟨_, ps_par hc hN hi hj hij hx hy p hw hs, refS_par r⟩
theorem axs_aug {i : Nat} {x : Str} {op : Operator} {ti : TIp} {f : O2} (hN : X.N.Nodup) (ho : PIp X op ti ∧ RefO X.K ti f) (h : AX X W e ae) (hi : X.N[i]? = some x := by rfl) (hx : Loc X.env.scope x := by first | exact Or.inl rfl | exact Or.inr rfl) (hf : X.fn x = true ∨ X.env.scope.names.lookup x = some .local := by first | exact .inl rfl | exact .inr rfl) :
    AXS X W (.AugAssign (.Name x pos') op e pos) (sAug i f ae) := by
  obtain ⟨t, p, r⟩ := h
  exact ⟨_, ps_aug hN hi hx p ho.1 hf, refS_aug r ho.2⟩
theorem axs_for {tg iter : Expr} {ai : AI} {ag : AG} (C : CxS X W k) (hi : AXI X W tg iter ai) (hg : AXG X tg ag) (hb : AXB X W b bs) (hs : ∀ x, foldedSetIterable iter X.env x = pure x := by intro _; rfl) : AXS X W (.For tg iter b [] pos) (sFor ai ag bs) := by
  obtain ⟨t, p, r⟩ := hi
  obtain ⟨g, p1, r1⟩ := hg
  obtain ⟨t2, p2, r2⟩ := hb
  exact ⟨_, ps_for C.po C.calm p p1 p2 hs, refS_for r r1 r2⟩
theorem axs_while (C : CxS X W k) (hc : AXT X W c xt) (hb : AXB X W b bs) : AXS X W (.While c b [] pos) (sWhile xt bs) := by
  obtain ⟨t, p, r⟩ := hc
  obtain ⟨t2, p2, r2⟩ := hb
  exact ⟨_, ps_while C.po p p2, refS_while r r2⟩
end
/-! ### fresh lists -/
/-- x = a fresh list: a cell -/
def sCell (f : AFr) (i : Nat) : AS := fun env st k => f env st (fun l s1 => k.nx (env.set i (.d (.ref s1.length))) (s1 ++ [.lst l])) (fun e s1 => k.er e env s1)
/-- return a fresh list -/
def sRetF (f : AFr) : AS := fun env st k => f env st (fun l s1 => k.rt (.own l) s1) (fun e s1 => k.er e env s1)
theorem refS_cell {K : PySem.W.Frag} {W : WX} {te : TE} {af : AFr} {i : Nat} (h : RefF K W te af) : RefS K W (tAsg te (gName i)) (sCell af i) := fun G env st σ H D k s l a t =>
  h G env st σ H _ _ _ s l a (fun v ds st2 G2 H2 p2 s2 r2 h2 => by
    obtain ⟨G3, s3, p3, r3⟩ := own_cell s2 p2 r2
    exact t.nx _ _ _ G3 H2 p3 s3 ((l.mono p3.le).set i r3) h2) (t.x l)
theorem refS_retF {K : PySem.W.Frag} {W : WX} {te : TE} {af : AFr} (h : RefF K W te af) : RefS K W (tRet te) (sRetF af) := fun G env st σ H D k s l a t =>
  h G env st σ H _ _ _ s l a (fun v ds st2 G2 H2 p2 s2 r2 h2 => t.rt v (.own ds) st2 G2 H2 p2 s2 r2 h2) (t.x l)
def fLst (as : AEs) : AFr := fun env st q er => as env st (fun xs s1 => xs.length ≤ 100000 ∧ q xs s1) er
theorem refF_lst {K : PySem.W.Frag} {W : WX} {tr : TA} {ar : AEs} (hr : RefA K W tr ar) : RefF K W (tLst tr) (fLst ar) := fun G env st σ H Q q er s l h tE tX =>
  hr G env st σ H _ _ er s l h (fun vs ds st1 G1 H1 p1 s1 r1 h1 => ⟨sz_of (by rw [← r1.length]; exact h1.1), fun p hp => by
    obtain ⟨s2, p2, np, gp⟩ := s1.room (o := .lst vs) hp
    refine tE _ ds st1 _ _ (p1.trans p2) s2 (ResOk.on p1 ⟨p, vs, rfl, upd_same, gp, np, hp, r1⟩) h1.2⟩) tX
def fIf (t : AT) (a b : AFr) : AFr := fun env st q er => t env st (fun c s1 => if c = true then a env s1 q er else b env s1 q er) er
theorem ThenF.on {K : PySem.W.Frag} {G G2 : Gh} {H H2 : Hp} {q : List D → S → Prop} {Q : VK} (t : ThenF K G H q Q) (p : Post G H G2 H2) : ThenF K G2 H2 q Q := fun v d st3 G3 H3 p2 s3 r3 => t v d st3 G3 H3 (p.trans p2) s3 (r3.on p)
theorem refF_if {K : PySem.W.Frag} {W : WX} {t : TT} {xt : AT} {ta tb : TE} {aa ab : AFr} (ht : RefT K W t xt) (ha : RefF K W ta aa) (hb : RefF K W tb ab) : RefF K W (tIf t ta tb) (fIf xt aa ab) := fun G env st σ H Q q er s l h tE tX => by
  refine ht G env st σ H _ _ er s l h (fun b st1 G1 H1 p1 s1 h1 => ?_) tX
  cases b with
  | true => exact ha G1 env st1 σ H1 Q q er s1 (l.mono p1.le) h1 (tE.on p1) (tX.on p1)
  | false => exact hb G1 env st1 σ H1 Q q er s1 (l.mono p1.le) h1 (tE.on p1) (tX.on p1)
section
variable {X : Cx} {W : WX} {k : Nat} {pos pos' : Pos} {e c a b : Expr} {es : List Expr} {ae : AE} {xt : AT} {af bf : AFr} {ar : AEs}
theorem axf_e (h : AXF X W e af) : AX X W e (aFr af) := by
  obtain ⟨t, p, r⟩ := h
  exact ⟨_, p, r.e⟩
theorem axf_lst (hr : AXA X W es ar) : AXF X W (.List es pos) (fLst ar) := by
  obtain ⟨t, p, r⟩ := hr
  exact ⟨_, pe_lst p, refF_lst r⟩
theorem axf_if (hc : AXT X W c xt) (ha : AXF X W a af) (hb : AXF X W b bf) : AXF X W (.IfExp c a b pos) (fIf xt af bf) := by
  obtain ⟨tc, pc, rc⟩ := hc
  obtain ⟨ta, pa, ra⟩ := ha
  obtain ⟨tb, pb, rb⟩ := hb
  exact ⟨_, pe_ifExp pc pa pb, refF_if rc ra rb⟩
theorem axs_cell {i : Nat} {x : Str} (hN : X.N.Nodup) (h : AXF X W e af) (hi : X.N[i]? = some x := by rfl) (hx : Loc X.env.scope x := by first | exact Or.inl rfl | exact Or.inr rfl) (hs : swapsWith e (some (.Name x pos')) pos.line X.env = pure false := by rfl) (hf : X.fn x = true ∨ X.env.scope.names.lookup x = some .local := by first | exact .inl rfl | exact .inr rfl) :
    AXS X W (.Assign [.Name x pos'] e pos) (sCell af i) := by
  obtain ⟨t, p, r⟩ := h
  exact ⟨_, ps_set hN hi hx p hs hf, refS_cell r⟩
theorem axs_retF (h : AXF X W e af) : AXS X W (.Return (some e) pos) (sRetF af) := by
  obtain ⟨t, p, r⟩ := h
  exact ⟨_, ps_ret p, refS_retF r⟩
end
/-! ### comprehensions -/
section
variable {X : Cx} {W : WX} {k : Nat} {pos spos : Pos} {elt tg iter tg1 iter1 : Expr} {ifs ifs1 : List Expr} {scope : Scope} {own : List (Str × Nat)} {ai ai1 : AI} {ag ag1 : AG} {xt xt1 : AT} {ae : AE}
theorem axf_lc (own : List (Str × Nat)) (C : CxE X W k) (ok : BlkOk X.N X.env.scope scope own) (hi : AXI X W tg iter ai)
    (hg : ∀ (s : Shared) (H : Hp) (C : Addr) (cl : List (Str × Addr)) (fp : List Addr), AXGc (X.blk s H scope (compEnvC scope cl C X.env) fp) (own.map (·.2)) tg ag) (ht : ∀ (s : Shared) (H : Hp) (C : Addr) (cl : List (Str × Addr)) (fp : List Addr), AXTs (X.blk s H scope (compEnvC scope cl C X.env) fp) W0 ifs xt)
    (he : ∀ (s : Shared) (H : Hp) (C : Addr) (cl : List (Str × Addr)) (fp : List Addr), AX (X.blk s H scope (compEnvC scope cl C X.env) fp) W0 elt ae) (hs : ∀ x, foldedSetIterable iter X.env x = pure x := by intro _; rfl) :
    AXF X W (.ListComp elt [⟨tg, iter, ifs, 0⟩] scope pos) (fLc ai ag xt ae (own.map (·.2))) := by
  obtain ⟨t, p, r⟩ := hi
  exact ⟨_, pe_lc C.calm C.nd p ok (fun s H C cl fp => (hg s H C cl fp).pg) (fun s H C cl fp => (ht s H C cl fp).pts) (fun s H C cl fp => (he s H C cl fp).pe) hs, refF_lc r rdG_ref rdG_stays rdT_ref rdE_ref⟩
/-- y = [..]: a frozen list, a cell -/
theorem axs_setLc (own : List (Str × Nat)) {i : Nat} {y : Str} {py : Pos} (C : CxE X W k) (ok : BlkOk X.N X.env.scope scope own) (hi : AXI X W tg iter ai)
    (hg : ∀ (s : Shared) (H : Hp) (C : Addr) (cl : List (Str × Addr)) (fp : List Addr), AXGc (X.blk s H scope (compEnvC scope cl C X.env) fp) (own.map (·.2)) tg ag) (ht : ∀ (s : Shared) (H : Hp) (C : Addr) (cl : List (Str × Addr)) (fp : List Addr), AXTs (X.blk s H scope (compEnvC scope cl C X.env) fp) W0 ifs xt)
    (he : ∀ (s : Shared) (H : Hp) (C : Addr) (cl : List (Str × Addr)) (fp : List Addr), AX (X.blk s H scope (compEnvC scope cl C X.env) fp) W0 elt ae)
    (hsw : swapsWith (.ListComp elt [⟨tg, iter, ifs, 0⟩] scope pos) (some (.Name y py)) spos.line X.env = pure true := by exact sw_true rfl rfl rfl (by decide +kernel)) (hy : X.N[i]? = some y := by rfl) (hyl : X.env.scope.names.lookup y = some .local := by rfl) (hs : ∀ x, foldedSetIterable iter X.env x = pure x := by intro _; rfl) :
    AXS X W (.Assign [.Name y py] (.ListComp elt [⟨tg, iter, ifs, 0⟩] scope pos) spos) (sAsg (aFr (fLc ai ag xt ae (own.map (·.2)))) (agName i)) ∧ AXS X W (.Assign [.Name y py] (.ListComp elt [⟨tg, iter, ifs, 0⟩] scope pos) spos) (sCell (fLc ai ag xt ae (own.map (·.2))) i) := by
  obtain ⟨t, p, r⟩ := hi
  have q := ps_setLc (i := i) (g := rdG X.K (own.map (·.2)) ag) (tt := rdT X.K W0 xt) (te := rdE X.K W0 ae) C.calm C.nd hy hyl hsw p ok (fun s H C cl fp => (hg s H C cl fp).pg) (fun s H C cl fp => (ht s H C cl fp).pts) (fun s H C cl fp => (he s H C cl fp).pe) hs
  have f := refF_lc (vs := own.map (·.2)) r (rdG_ref (vs := own.map (·.2)) (ag := ag)) rdG_stays (rdT_ref (xt := xt)) (rdE_ref (ae := ae))
  exact ⟨⟨_, q, refS_asg f.e (refG_name i)⟩, _, q, refS_cell f⟩
theorem axf_lc2 (own : List (Str × Nat)) (vs1 : List Nat) (C : CxE X W k) (ok : BlkOk X.N X.env.scope scope own) (hi : AXI X W tg iter ai)
    (hg : ∀ (s : Shared) (H : Hp) (C : Addr) (cl : List (Str × Addr)) (fp : List Addr), AXGc (X.blk s H scope (compEnvC scope cl C X.env) fp) (own.map (·.2)) tg ag) (ht : ∀ (s : Shared) (H : Hp) (C : Addr) (cl : List (Str × Addr)) (fp : List Addr), AXTs (X.blk s H scope (compEnvC scope cl C X.env) fp) W0 ifs xt)
    (hi1 : ∀ (s : Shared) (H : Hp) (C : Addr) (cl : List (Str × Addr)) (fp : List Addr), AXI (X.blk s H scope (compEnvC scope cl C X.env) fp) W0 tg1 iter1 ai1) (hg1 : ∀ (s : Shared) (H : Hp) (C : Addr) (cl : List (Str × Addr)) (fp : List Addr), AXGc (X.blk s H scope (compEnvC scope cl C X.env) fp) vs1 tg1 ag1) (ht1 : ∀ (s : Shared) (H : Hp) (C : Addr) (cl : List (Str × Addr)) (fp : List Addr), AXTs (X.blk s H scope (compEnvC scope cl C X.env) fp) W0 ifs1 xt1)
    (he : ∀ (s : Shared) (H : Hp) (C : Addr) (cl : List (Str × Addr)) (fp : List Addr), AX (X.blk s H scope (compEnvC scope cl C X.env) fp) W0 elt ae) (hv : ∀ i ∈ vs1, i ∈ own.map (·.2) := by decide) (hs : ∀ x, foldedSetIterable iter X.env x = pure x := by intro _; rfl) (hs1 : ∀ env x, foldedSetIterable iter1 env x = pure x := by intro _ _; rfl) :
    AXF X W (.ListComp elt [⟨tg, iter, ifs, 0⟩, ⟨tg1, iter1, ifs1, 0⟩] scope pos) (fLc2 ai ag xt ai1 ag1 xt1 ae (own.map (·.2)) vs1) := by
  obtain ⟨t, p, r⟩ := hi
  exact ⟨_, pe_lc2 C.calm C.nd p ok hv (fun s H C cl fp => (hg s H C cl fp).pg) (fun s H C cl fp => (ht s H C cl fp).pts) (fun s H C cl fp => (hi1 s H C cl fp).pi) (fun s H C cl fp => (hg1 s H C cl fp).pg) (fun s H C cl fp => (ht1 s H C cl fp).pts) (fun s H C cl fp => (he s H C cl fp).pe) hs hs1, refF_lc2 r rdG_ref rdG_stays rdT_ref rdI_ref rdG_ref rdG_stays rdT_ref rdE_ref⟩
theorem axs_setLc2 (own : List (Str × Nat)) (vs1 : List Nat) {i : Nat} {y : Str} {py : Pos} (C : CxE X W k) (ok : BlkOk X.N X.env.scope scope own) (hi : AXI X W tg iter ai)
    (hg : ∀ (s : Shared) (H : Hp) (C : Addr) (cl : List (Str × Addr)) (fp : List Addr), AXGc (X.blk s H scope (compEnvC scope cl C X.env) fp) (own.map (·.2)) tg ag) (ht : ∀ (s : Shared) (H : Hp) (C : Addr) (cl : List (Str × Addr)) (fp : List Addr), AXTs (X.blk s H scope (compEnvC scope cl C X.env) fp) W0 ifs xt)
    (hi1 : ∀ (s : Shared) (H : Hp) (C : Addr) (cl : List (Str × Addr)) (fp : List Addr), AXI (X.blk s H scope (compEnvC scope cl C X.env) fp) W0 tg1 iter1 ai1) (hg1 : ∀ (s : Shared) (H : Hp) (C : Addr) (cl : List (Str × Addr)) (fp : List Addr), AXGc (X.blk s H scope (compEnvC scope cl C X.env) fp) vs1 tg1 ag1) (ht1 : ∀ (s : Shared) (H : Hp) (C : Addr) (cl : List (Str × Addr)) (fp : List Addr), AXTs (X.blk s H scope (compEnvC scope cl C X.env) fp) W0 ifs1 xt1)
    (he : ∀ (s : Shared) (H : Hp) (C : Addr) (cl : List (Str × Addr)) (fp : List Addr), AX (X.blk s H scope (compEnvC scope cl C X.env) fp) W0 elt ae)
    (hsw : swapsWith (.ListComp elt [⟨tg, iter, ifs, 0⟩, ⟨tg1, iter1, ifs1, 0⟩] scope pos) (some (.Name y py)) spos.line X.env = pure true := by exact sw_true rfl rfl rfl (by decide +kernel)) (hy : X.N[i]? = some y := by rfl) (hyl : X.env.scope.names.lookup y = some .local := by rfl) (hv : ∀ i ∈ vs1, i ∈ own.map (·.2) := by decide) (hs : ∀ x, foldedSetIterable iter X.env x = pure x := by intro _; rfl) (hs1 : ∀ env x, foldedSetIterable iter1 env x = pure x := by intro _ _; rfl) :
    AXS X W (.Assign [.Name y py] (.ListComp elt [⟨tg, iter, ifs, 0⟩, ⟨tg1, iter1, ifs1, 0⟩] scope pos) spos) (sAsg (aFr (fLc2 ai ag xt ai1 ag1 xt1 ae (own.map (·.2)) vs1)) (agName i)) ∧ AXS X W (.Assign [.Name y py] (.ListComp elt [⟨tg, iter, ifs, 0⟩, ⟨tg1, iter1, ifs1, 0⟩] scope pos) spos) (sCell (fLc2 ai ag xt ai1 ag1 xt1 ae (own.map (·.2)) vs1) i) := by
  obtain ⟨t, p, r⟩ := hi
  have q := ps_setLc2 (i := i) (g := rdG X.K (own.map (·.2)) ag) (tt := rdT X.K W0 xt) (wi1 := rdI X.K W0 ai1) (g1 := rdG X.K vs1 ag1) (tt1 := rdT X.K W0 xt1) (te := rdE X.K W0 ae) C.calm C.nd hy hyl hsw p ok hv (fun s H C cl fp => (hg s H C cl fp).pg) (fun s H C cl fp => (ht s H C cl fp).pts) (fun s H C cl fp => (hi1 s H C cl fp).pi) (fun s H C cl fp => (hg1 s H C cl fp).pg) (fun s H C cl fp => (ht1 s H C cl fp).pts) (fun s H C cl fp => (he s H C cl fp).pe) hs hs1
  have f := refF_lc2 (vs := own.map (·.2)) (vs1 := vs1) r (rdG_ref (vs := own.map (·.2)) (ag := ag)) rdG_stays (rdT_ref (xt := xt)) (rdI_ref (ai := ai1)) (rdG_ref (vs := vs1) (ag := ag1)) rdG_stays (rdT_ref (xt := xt1)) (rdE_ref (ae := ae))
  exact ⟨⟨_, q, refS_asg f.e (refG_name i)⟩, _, q, refS_cell f⟩
end
/-! ### what is walked -/
def iSeq (K : PySem.W.Frag) (tl : TE) : TI := fun σ H R => tl σ H fun x H1 => ∃ a, x = .ref a ∧ ((∃ xs, SqL K H1 a xs ∧ R (Itl K a) H1) ∨ (∃ xs, SqT K H1 a xs ∧ R (Itt K a) H1))
def itemsD : D → Option (List D)
  | .lst l => some l
  | .tup l => some l
  | _ => none
/-- what must stand while d is walked -/
def gdOf (st : S) : D → Gd
  | .ref n => match st[n]? with
    | some c => [(n, c)]
    | none => []
  | _ => []
def aIter (a : AE) : AI := fun env st q er => a env st (fun d s1 => ∃ l, itemsD (vw s1 d) = some l ∧ q l (gdOf s1 d) s1) er
def aRng1 (a : AE) : AI := fun env st q er => a env st (fun d s1 => match d with
  | .int j => (-(2 ^ 62) ≤ j ∧ j < 2 ^ 62) ∧ q ((List.range j.toNat).map fun (i : Nat) => D.int (i : Int)) [] s1
  | _ => False) er
def aRng2 (a b : AE) : AI := fun env st q er => a env st (fun d s1 => b env s1 (fun d2 s2 => match d, d2 with
  | .int i, .int j => (-(2 ^ 62) ≤ i ∧ i < 2 ^ 62 ∧ -(2 ^ 62) ≤ j ∧ j < 2 ^ 62) ∧ q ((List.range (j - i).toNat).map fun (n : Nat) => D.int (i + (n : Int))) [] s2
  | _, _ => False) er) er
section
variable {X : Cx} {W : WX} {tg l e e2 : Expr} {tl : TE} {al ae ab : AE} {p pos : Pos}
theorem pi_seq (hl : PE X l tl) : PI X tg l (iSeq X.K tl) := by
  refine ⟨fun pins s σ H R I h => ?_⟩
  refine thn (hl.run pins s σ H _ I h) fun v s1 ⟨x, H1, I1, r1, q1⟩ => ?_
  obtain ⟨a, e, q1⟩ := q1
  subst e
  cases r1
  rcases q1 with ⟨xs, hq, q⟩ | ⟨xs, hq, q⟩
  · obtain ⟨its, rv, p, hz⟩ := I1.list hq
    refine wpAny_pyIter_list p.isList ?_
    refine ⟨s1.heap.objs.size, [s1.heap.objs.size], _, _, H1, rfl, I1.kept (t' := s1.toks) fun b o e => Heap.get?_push_of_some _ e, turn_list a _, ⟨_, Heap.get?_push_size _ rfl, rfl, rfl⟩, fun b hb => ?_, q⟩
    have e : b = s1.heap.objs.size := by simpa using hb
    subst e
    exact I1.fpOk (Nat.le_refl _) (I1.hok.fresh (Nat.le_refl _))
  · obtain ⟨its, rv, p, hz⟩ := I1.tuple hq
    refine wpAny_pyIter_tuple (show s1.heap.IsTuple a its.toArray from p) ?_
    refine ⟨s1.heap.objs.size, [s1.heap.objs.size], _, _, H1, rfl, I1.kept (t' := s1.toks) fun b o e => Heap.get?_push_of_some _ e, turn_tuple a _, ⟨_, Heap.get?_push_size _ rfl, rfl, rfl⟩, fun b hb => ?_, q⟩
    have e : b = s1.heap.objs.size := by simpa using hb
    subst e
    exact I1.fpOk (Nat.le_refl _) (I1.hok.fresh (Nat.le_refl _))
/-- a sequence that is read as long as it is walked -/
def SeqAt (K : PySem.W.Frag) (G0 : Gh) (gd : Gd) (a : Addr) (vs : List V) (tup : Bool) : Prop := ∀ G st H, G0.le G → SS K G st H → gdOk gd st → if tup = true then SqT K H a vs else SqL K H a vs
/-- the items, wherever they are represented -/
theorem rep_seq {K : PySem.W.Frag} {G : Gh} {st : S} {H : Hp} {d : D} {v : V} {l : List D} (s : SS K G st H) (r : Rep K G d v) (e : itemsD (vw st d) = some l) : ∃ a vs tup, v = .ref a ∧ Reps K G l vs ∧ gdOk (gdOf st d) st ∧ ∀ G2 st2 H2, G.le G2 → SS K G2 st2 H2 → gdOk (gdOf st d) st2 → ∃ us, Reps K G2 l us ∧ if tup = true then SqT K H2 a us else SqL K H2 a us := by
  cases r with
  | lst h rs =>
    cases e
    exact ⟨_, _, false, rfl, rs, fun _ z => (by cases z), fun G2 st2 H2 le s2 _ => ⟨_, rs.mono le, SqL.of (s2.ex _ _ (le.g _ _ h))⟩⟩
  | tup h rs =>
    cases e
    exact ⟨_, _, true, rfl, rs, fun _ z => (by cases z), fun G2 st2 H2 le s2 _ => ⟨_, rs.mono le, SqT.of (s2.ex _ _ (le.g _ _ h))⟩⟩
  | ref hp =>
    rename_i n p
    cases hc : st[n]? with
    | none => simp only [vw, hc] at e; cases e
    | some c =>
      have hgd : gdOf st (.ref n) = [(n, c)] := by unfold gdOf; simp only [hc]
      unfold vw at e
      simp only [hc] at e
      cases c with
      | lst l' =>
        cases e
        obtain ⟨vs, _, h1, rs⟩ := s.cell n _ p hc hp
        refine ⟨p, vs, false, rfl, rs, ?_, fun G2 st2 H2 le s2 gk => ?_⟩
        · rw [hgd]
          intro x hx
          have : x = (n, C.lst l) := by simpa using hx
          subst this
          exact hc
        · rw [hgd] at gk
          obtain ⟨us, _, h2, rs2⟩ := s2.cell n _ p (gk (n, C.lst l) (by simp)) (pre_get le.a hp)
          exact ⟨us, rs2, SqL.of h2⟩
      | _ => cases e
  | _ => cases e
theorem walks_seq {K : PySem.W.Frag} {G : Gh} {gd : Gd} {a : Addr} {ds : List D} (h : ∀ G2 st2 H2, G.le G2 → SS K G2 st2 H2 → gdOk gd st2 → ∃ us, Reps K G2 ds us ∧ SqL K H2 a us) : Walks K G (Itl K a) ds gd where
  stop := fun i G2 st H le s gk hi => by
    obtain ⟨us, r, q⟩ := h G2 st H le s gk
    exact ⟨us, q, by rw [← r.length]; exact Nat.le_of_eq hi⟩
  go := fun i G2 st H le s gk hi => by
    obtain ⟨us, r, q⟩ := h G2 st H le s gk
    exact ⟨us, us[i]'(by rw [← r.length]; exact hi), q, by simp [← r.length, hi]⟩
  yld := fun i G2 st H d x H' le s gk hd y => by
    obtain ⟨us, r, q⟩ := h G2 st H le s gk
    obtain ⟨e1, y⟩ := y
    obtain ⟨v, h1, h2⟩ := r.get hd
    have := y us q
    rw [h1] at this
    cases this
    exact .inl ⟨e1, h2⟩
theorem walks_tup {K : PySem.W.Frag} {G : Gh} {gd : Gd} {a : Addr} {ds : List D} (h : ∀ G2 st2 H2, G.le G2 → SS K G2 st2 H2 → gdOk gd st2 → ∃ us, Reps K G2 ds us ∧ SqT K H2 a us) : Walks K G (Itt K a) ds gd where
  stop := fun i G2 st H le s gk hi => by
    obtain ⟨us, r, q⟩ := h G2 st H le s gk
    exact ⟨us, q, by rw [← r.length]; exact Nat.le_of_eq hi⟩
  go := fun i G2 st H le s gk hi => by
    obtain ⟨us, r, q⟩ := h G2 st H le s gk
    exact ⟨us, us[i]'(by rw [← r.length]; exact hi), q, by simp [← r.length, hi]⟩
  yld := fun i G2 st H d x H' le s gk hd y => by
    obtain ⟨us, r, q⟩ := h G2 st H le s gk
    obtain ⟨e1, y⟩ := y
    obtain ⟨v, h1, h2⟩ := r.get hd
    have := y us q
    rw [h1] at this
    cases this
    exact .inl ⟨e1, h2⟩
theorem walks_rng {K : PySem.W.Frag} {G : Gh} {lo : Int} {n : Nat} : Walks K G (Itr lo n) ((List.range n).map fun (i : Nat) => D.int (lo + i)) [] where
  stop := fun i _ _ H _ _ _ hi => by
    rw [List.length_map, List.length_range] at hi
    exact Nat.le_of_eq hi
  go := fun i _ _ H _ _ _ hi => by
    rw [List.length_map, List.length_range] at hi
    exact hi
  yld := fun i _ _ H d x H' _ _ _ hd y => by
    obtain ⟨e1, y⟩ := y
    rw [List.getElem?_map] at hd
    have hi : i < n := by
      by_cases h : i < n
      · exact h
      · rw [List.getElem?_eq_none (by simpa using h)] at hd; cases hd
    rw [List.getElem?_range hi] at hd
    cases hd
    subst y
    exact .inl ⟨e1, .int _⟩
theorem axi_seq (h : AX X W l al) : AXI X W tg l (aIter al) := by
  obtain ⟨t, p, r⟩ := h
  refine ⟨_, pi_seq p, fun G env st σ H R q er s sl a t tX => r G env st σ H _ _ er s sl a (fun v d st2 G2 H2 p2 s2 r2 ⟨l, el, h2⟩ => ?_) tX⟩
  obtain ⟨a, vs, tup, rfl, rs, gk, hh⟩ := rep_seq s2 r2 el
  obtain ⟨us, _, q2⟩ := hh G2 st2 H2 (Gh.le.refl _) s2 gk
  refine ⟨a, rfl, ?_⟩
  cases tup with
  | false => exact .inl ⟨us, q2, t _ _ _ st2 G2 H2 p2 s2 (walks_seq hh) h2⟩
  | true => exact .inr ⟨us, q2, t _ _ _ st2 G2 H2 p2 s2 (walks_tup hh) h2⟩
theorem axi_rng1 (hm : X.mg "range" = none) (h : AX X W e ae) (hg : Gl X "range" := by rfl) (hs : starEach [e] X.env = [(false, eval e X.env)] := by rfl) : AXI X W tg (.Call (.Name "range" p) [e] [] pos) (aRng1 ae) := by
  obtain ⟨t, p, r⟩ := h
  refine ⟨_, pi_range1 hg hm (pa_cons p pa_nil (by rw [hs]; rfl)) hs, fun G env st σ H R q er s sl a t tX => r G env st σ H _ _ er s sl a (fun v d st2 G2 H2 p2 s2 r2 h2 => ?_) tX⟩
  cases r2 with
  | int j =>
    refine ⟨j, rfl, h2.1.1, h2.1.2, t _ _ _ st2 G2 H2 p2 s2 ?_ h2.2⟩
    have := walks_rng (K := X.K) (G := G2) (lo := 0) (n := j.toNat)
    simpa using this
  | _ => exact h2.elim
theorem axi_rng2 (hm : X.mg "range" = none) (h : AX X W e ae) (h' : AX X W e2 ab) (hg : Gl X "range" := by rfl) (hs : starEach [e, e2] X.env = [(false, eval e X.env), (false, eval e2 X.env)] := by rfl) (hs2 : starEach [e2] X.env = [(false, eval e2 X.env)] := by rfl) : AXI X W tg (.Call (.Name "range" p) [e, e2] [] pos) (aRng2 ae ab) := by
  obtain ⟨t, p, r⟩ := h
  obtain ⟨t', p', r'⟩ := h'
  refine ⟨_, pi_range2 hg hm (pa_cons p (pa_cons p' pa_nil (by rw [hs2]; rfl)) (by rw [hs, hs2])) hs hs2, fun G env st σ H R q er s sl a t tX => r G env st σ H _ _ er s sl a (fun v d st2 G2 H2 p2 s2 r2 h2 => r' G2 env st2 σ H2 _ _ er s2 (sl.mono p2.le) h2 (fun v' d' st3 G3 H3 p3 s3 r3 h3 => ?_) (tX.on p2)) tX⟩
  cases r2 with
  | int i =>
    cases r3 with
    | int j => exact ⟨i, j, rfl, h3.1, t _ _ _ st3 G3 H3 (p2.trans p3) s3 walks_rng h3.2⟩
    | _ => exact h3.elim
  | _ => cases d' <;> exact h3.elim
end
/-! ### calls -/
section
variable {X : Cx} {W : WX} {k j : Nat} {x : Str} {p pos : Pos} {e : Expr} {es : List Expr} {aa : AEs} {m : AF} {f : Addr} {fd : FuncData} {ps : List Str} {ds : List Value} {dd : List D} {dvs : List V}
/-- how defaults come in -/
def BindsD (K : PySem.W.Frag) (fd : FuncData) (ps : List Str) (dvs : List V) : Prop := ∃ ds, Vals dvs ds ∧ Binds K fd ps ds
theorem BindsD.no {K : PySem.W.Frag} {fd : FuncData} {ps : List Str} (b : Binds K fd ps []) : BindsD K fd ps [] := ⟨[], .nil, b⟩
theorem ax_call (C : CxE X W k) (F : FnOk X.prog X.w X.K X.mg X.base (L2N.CX X.prog X.w) j f fd ps (SpA X.K m)) (hm : X.mg x = some (.ref f)) (hk : PySem.W.keepIn X.K (.ref f) = true) (hb : BindsD X.K fd ps dvs) (hdd : ∀ G, Reps X.K G dd dvs) (ha : AXA X W (e :: es) aa) (hj : j ≤ k)
    (hg : Gl X x := by rfl) (hdb : (x == ("__debug__" : Str)) = false := by decide) (he : starEach (e :: es) X.env = (false, eval e X.env) :: starEach es X.env := by rfl) (hpl : (backTo pos (starEach es X.env)).any (·.1) = false := by rfl) : AX X W (.Call (.Name x p) (e :: es) [] pos) (aCall m aa dd) := by
  obtain ⟨t, p, r⟩ := ha
  obtain ⟨ds, hv, hb⟩ := hb
  exact ⟨_, pe_callSD F (C.room.mono hj) hg hm hk hb hv (fun σ => L2N.passAt C.takes σ) p hdb he hpl, refE_call r hdd⟩
theorem axf_call (C : CxE X W k) (F : FnOk X.prog X.w X.K X.mg X.base (L2N.CX X.prog X.w) j f fd ps (SpA X.K m)) (hm : X.mg x = some (.ref f)) (hk : PySem.W.keepIn X.K (.ref f) = true) (hb : BindsD X.K fd ps dvs) (hdd : ∀ G, Reps X.K G dd dvs) (ha : AXA X W (e :: es) aa) (hj : j ≤ k)
    (hg : Gl X x := by rfl) (hdb : (x == ("__debug__" : Str)) = false := by decide) (he : starEach (e :: es) X.env = (false, eval e X.env) :: starEach es X.env := by rfl) (hpl : (backTo pos (starEach es X.env)).any (·.1) = false := by rfl) : AXF X W (.Call (.Name x p) (e :: es) [] pos) (fCall m aa dd) := by
  obtain ⟨t, p, r⟩ := ha
  obtain ⟨ds, hv, hb⟩ := hb
  exact ⟨_, pe_callSD F (C.room.mono hj) hg hm hk hb hv (fun σ => L2N.passAt C.takes σ) p hdb he hpl, refF_call r hdd⟩
end
end AM
set_option Elab.async false
set_option linter.all false
set_option maxRecDepth 100000
set_option maxHeartbeats 4000000
namespace AM
open PySem L2 Evl PyProof.Rows
theorem OpR.or {X : Cx} {f : Value → Value → Sem Value} {r r' : R2} (h : OpR X f r) (h' : OpR X f r') : OpR X f (fun x y H Q => r x y H Q ∨ r' x y H Q) := fun pins s σ H x y v u Q I rx ry q => by
  rcases q with q | q
  · exact h pins s σ H x y v u Q I rx ry q
  · exact h' pins s σ H x y v u Q I rx ry q
theorem CallR.or {X : Cx} {f : Value} {r r' : List V → Hp → VK → Prop} (h : CallR X f r) (h' : CallR X f r') : CallR X f (fun x H Q => r x H Q ∨ r' x H Q) := fun pins s σ H x v Q I rx q => by
  rcases q with q | q
  · exact h pins s σ H x v Q I rx q
  · exact h' pins s σ H x v Q I rx q
/-! ### plain data, equality -/
mutual
def D.py : D → PyData
  | .non => .none
  | .bl b => .bool b
  | .int i => .int i
  | .str x => .str x
  | .lst l => .list (D.pys l)
  | .tup l => .tuple (D.pys l)
  | .dic _ => .dict []
  | .obj _ _ => .dict []
  | .fn _ => .dict []
  | .ty _ => .dict []
  | .ref _ => .dict []
  | .scr _ => .dict []
def D.pys : List D → List PyData
  | [] => []
  | d :: ds => d.py :: D.pys ds
end
mutual
def D.plain : D → Bool
  | .non => true
  | .bl _ => true
  | .int _ => true
  | .str x => PyData.strOk x
  | .lst l => D.plains l
  | .tup l => D.plains l
  | _ => false
def D.plains : List D → Bool
  | [] => true
  | d :: ds => d.plain && D.plains ds
end
mutual
def D.dep : D → Nat
  | .lst l => D.deps l + 1
  | .tup l => D.deps l + 1
  | _ => 0
def D.deps : List D → Nat
  | [] => 0
  | d :: ds => max d.dep (D.deps ds)
end
mutual
def D.eqv : D → D → Bool
  | .non, .non => true
  | .bl a, .bl b => a == b
  | .bl a, .int j => (if a then 1 else 0) == j
  | .int i, .bl b => i == (if b then 1 else 0)
  | .int i, .int j => i == j
  | .str x, .str y => x == y
  | .lst xs, .lst ys => D.eqvs xs ys
  | .tup xs, .tup ys => D.eqvs xs ys
  | _, _ => false
def D.eqvs : List D → List D → Bool
  | [], [] => true
  | x :: xs, y :: ys => D.eqv x y && D.eqvs xs ys
  | _, _ => false
end
mutual
theorem D.py_eqv : ∀ {a b : D}, a.plain = true → b.plain = true → PyData.eqv a.py b.py = D.eqv a b
  | .non, b, _, hb => by cases b <;> first | rfl | cases hb
  | .bl _, b, _, hb => by cases b <;> first | rfl | cases hb
  | .int _, b, _, hb => by cases b <;> first | rfl | cases hb
  | .str _, b, _, hb => by cases b <;> first | rfl | cases hb
  | .lst xs, b, ha, hb => by
    cases b with
    | lst ys => exact D.pys_eqv ha hb
    | _ => first | rfl | cases hb
  | .tup xs, b, ha, hb => by
    cases b with
    | tup ys => exact D.pys_eqv ha hb
    | _ => first | rfl | cases hb
  | .dic _, _, ha, _ => by cases ha
  | .obj _ _, _, ha, _ => by cases ha
  | .fn _, _, ha, _ => by cases ha
  | .ty _, _, ha, _ => by cases ha
  | .ref _, _, ha, _ => by cases ha
  | .scr _, _, ha, _ => by cases ha
theorem D.pys_eqv : ∀ {a b : List D}, D.plains a = true → D.plains b = true → PyData.eqvAll (D.pys a) (D.pys b) = D.eqvs a b
  | [], [], _, _ => rfl
  | [], _ :: _, _, _ => rfl
  | _ :: _, [], _, _ => rfl
  | x :: xs, y :: ys, ha, hb => by
    obtain ⟨h1, h2⟩ := Bool.and_eq_true_iff.mp (show (x.plain && D.plains xs) = true from ha)
    obtain ⟨h3, h4⟩ := Bool.and_eq_true_iff.mp (show (y.plain && D.plains ys) = true from hb)
    show (PyData.eqv x.py y.py && PyData.eqvAll (D.pys xs) (D.pys ys)) = (D.eqv x y && D.eqvs xs ys)
    rw [D.py_eqv h1 h3, D.pys_eqv h2 h4]
end
mutual
theorem D.py_lay : ∀ {a : D}, a.plain = true → PyData.canLay0 a.py = true
  | .non, _ => rfl
  | .bl _, _ => rfl
  | .int _, _ => rfl
  | .str _, h => h
  | .lst xs, h => D.pys_lay (a := xs) h
  | .tup xs, h => D.pys_lay (a := xs) h
  | .dic _, h => by cases h
  | .obj _ _, h => by cases h
  | .fn _, h => by cases h
  | .ty _, h => by cases h
  | .ref _, h => by cases h
  | .scr _, h => by cases h
theorem D.pys_lay : ∀ {a : List D}, D.plains a = true → PyData.canLayAll0 (D.pys a) = true
  | [], _ => rfl
  | x :: xs, h => by
    obtain ⟨h1, h2⟩ := Bool.and_eq_true_iff.mp (show (x.plain && D.plains xs) = true from h)
    show (PyData.canLay0 x.py && PyData.canLayAll0 (D.pys xs)) = true
    rw [D.py_lay h1, D.pys_lay h2]; rfl
end
mutual
theorem D.py_dep : ∀ {a : D}, a.plain = true → PyData.depth a.py = a.dep
  | .non, _ => rfl
  | .bl _, _ => rfl
  | .int _, _ => rfl
  | .str _, h => rfl
  | .lst xs, h => congrArg (· + 1) (D.pys_dep (a := xs) h)
  | .tup xs, h => congrArg (· + 1) (D.pys_dep (a := xs) h)
  | .dic _, h => by cases h
  | .obj _ _, h => by cases h
  | .fn _, h => by cases h
  | .ty _, h => by cases h
  | .ref _, h => by cases h
  | .scr _, h => by cases h
theorem D.pys_dep : ∀ {a : List D}, D.plains a = true → PyData.depthAll (D.pys a) = D.deps a
  | [], _ => rfl
  | x :: xs, h => by
    obtain ⟨h1, h2⟩ := Bool.and_eq_true_iff.mp (show (x.plain && D.plains xs) = true from h)
    show max (PyData.depth x.py) (PyData.depthAll (D.pys xs)) = max x.dep (D.deps xs)
    rw [D.py_dep h1, D.pys_dep h2]
end
def D.shp (d : D) : Prop := d.plain = true ∧ d.dep ≤ 64
theorem D.shaped {d : D} (h : d.shp) : SeqAt.shaped d.py = true := by
  unfold SeqAt.shaped
  rw [D.py_lay h.1, D.py_dep h.1]
  simpa using h.2
section
variable {K : PySem.W.Frag} {G : Gh} {H : Hp}
mutual
theorem Rep.dp (e : Ex G.g H) : ∀ {d : D} {v : V}, Rep K G d v → d.plain = true → Dp K H v d.py
  | _, _, .non, _ => .non
  | _, _, .bl b, _ => .bl b
  | _, _, .int b, _ => .int b
  | _, _, .str b, _ => .str b
  | _, _, .lst h r, p => .lst (SqL.of (e _ _ h)) (Reps.dp e r p)
  | _, _, .tup h r, p => .tup (SqT.of (e _ _ h)) (Reps.dp e r p)
  | _, _, .dicT _ _, p => by cases p
  | _, _, .obj _ _, p => by cases p
  | _, _, .fn _, p => by cases p
  | _, _, .ty _, p => by cases p
  | _, _, .ref _, p => by cases p
  | _, _, .scr _ _, p => by cases p
theorem Reps.dp (e : Ex G.g H) : ∀ {d : List D} {v : List V}, Reps K G d v → D.plains d = true → DpAll K H v (D.pys d)
  | _, _, .nil, _ => .nil
  | _, _, .cons (d := x) (ds := xs) h r, p => by
    obtain ⟨h1, h2⟩ := Bool.and_eq_true_iff.mp (show (x.plain && D.plains xs) = true from p)
    exact .cons (Rep.dp e h h1) (Reps.dp e r h2)
end
end
theorem Rv.dp {K : PySem.W.Frag} {G : Gh} {H : Hp} (e : Ex G.g H) {d : D} {v : V} (r : Rv K G H d v) (p : d.plain = true) : Dp K H v d.py := by
  cases r with
  | non => exact .non
  | bl b => exact .bl b
  | int b => exact .int b
  | str b => exact .str b
  | lst h r => exact .lst (SqL.of h) (Reps.dp e r p)
  | tup h r _ => exact .tup (SqT.of h) (Reps.dp e r p)
  | _ => cases p
def oEq : O2 := fun x y q => x.shp ∧ y.shp ∧ q (.bl (D.eqv x y))
def oNe : O2 := fun x y q => x.shp ∧ y.shp ∧ q (.bl (!D.eqv x y))
section
variable {X : Cx} {K : PySem.W.Frag}
theorem ref_eq : RefO K (rEqD K) oEq := fun G st H x y dx dy Q q s rx ry ⟨h1, h2, h⟩ t =>
  ⟨dx.py, dy.py, rx.dp s.ex h1.1, ry.dp s.ex h2.1, D.shaped h1, D.shaped h2, by rw [D.py_eqv h1.1 h2.1]; exact t.here s (.bl _) h⟩
theorem ref_ne : RefO K (rNeD K) oNe := fun G st H x y dx dy Q q s rx ry ⟨h1, h2, h⟩ t =>
  ⟨dx.py, dy.py, rx.dp s.ex h1.1, ry.dp s.ex h2.1, D.shaped h1, D.shaped h2, by rw [D.py_eqv h1.1 h2.1]; exact t.here s (.bl _) h⟩
theorem u64 {A : Around} {k : Nat} (h : Room k A) : A.units + 65 < cLine := by have := h.un; omega
theorem op_Eq {W : WX} {k : Nat} (C : CxE X W k) : OpR X (compareOp .Eq) (rEqD X.K) ∧ RefO X.K (rEqD X.K) oEq := ⟨op_eqD (by have := u64 C.room; omega), ref_eq⟩
theorem op_Ne {W : WX} {k : Nat} (C : CxE X W k) : OpR X (compareOp .NotEq) (rNeD X.K) ∧ RefO X.K (rNeD X.K) oNe := ⟨op_neD (by have := u64 C.room; omega), ref_ne⟩
/-! ### numbers -/
def oI (g : Int → Int → D) : O2 := fun x y q => match x, y with
  | .int i, .int j => q (g i j)
  | _, _ => False
def oIC (C : Int → Int → Prop) (g : Int → Int → D) : O2 := fun x y q => match x, y with
  | .int i, .int j => C i j ∧ q (g i j)
  | _, _ => False
def CFd (_ j : Int) : Prop := j ≠ 0 ∧ j.natAbs.log2 < 9000
theorem ref_i {g : Int → Int → V} {g' : Int → Int → D} (h : ∀ G i j, Rep K G (g' i j) (g i j)) : RefO K (rI0 g) (oI g') := fun G st H x y dx dy Q q s rx ry h1 t => by
  cases rx with
  | int i =>
    cases ry with
    | int j => exact ⟨i, j, rfl, rfl, t.here s (h G i j) h1⟩
    | _ => exact h1.elim
  | _ => cases dy <;> exact h1.elim
theorem ref_ic {C : Int → Int → Prop} {g : Int → Int → V} {g' : Int → Int → D} (h : ∀ G i j, Rep K G (g' i j) (g i j)) : RefO K (rI C g) (oIC C g') := fun G st H x y dx dy Q q s rx ry h1 t => by
  cases rx with
  | int i =>
    cases ry with
    | int j => exact ⟨i, j, rfl, rfl, h1.1, t.here s (h G i j) h1.2⟩
    | _ => exact h1.elim
  | _ => cases dy <;> exact h1.elim
abbrev oSub : O2 := oI fun i j => .int (i - j)
abbrev oMul : O2 := oIC CMulW fun i j => .int (i * j)
abbrev oFdiv : O2 := oIC CFd fun i j => .int (i.fdiv j)
abbrev oMod : O2 := oIC (fun _ j => j ≠ 0) fun i j => .int (i.fmod j)
abbrev oPow : O2 := oIC CPow fun i j => .int (i ^ j.toNat)
abbrev oLt : O2 := oI fun i j => .bl (decide (i < j))
abbrev oLe : O2 := oI fun i j => .bl (decide (i ≤ j))
abbrev oGt : O2 := oI fun i j => .bl (decide (j < i))
abbrev oGe : O2 := oI fun i j => .bl (decide (j ≤ i))
theorem op_fdivX : OpR X (binaryOp .FloorDiv) (rI CFd fun i j => .int (i.fdiv j)) := opI fun i j _ _ _ _ _ hc q => floordiv_int hc.1 q (.inl (PyProof.noPylong_of_log2 hc.2))
theorem op_Sub : OpR X (binaryOp .Sub) (rI0 fun i j => .int (i - j)) ∧ RefO X.K (rI0 fun i j => .int (i - j)) oSub := ⟨op_sub, ref_i fun _ _ _ => .int _⟩
theorem op_Mul : OpR X (binaryOp .Mult) (rI CMulW fun i j => .int (i * j)) ∧ RefO X.K (rI CMulW fun i j => .int (i * j)) oMul := ⟨op_mulW, ref_ic fun _ _ _ => .int _⟩
theorem op_Fdiv : OpR X (binaryOp .FloorDiv) (rI CFd fun i j => .int (i.fdiv j)) ∧ RefO X.K (rI CFd fun i j => .int (i.fdiv j)) oFdiv := ⟨op_fdivX, ref_ic fun _ _ _ => .int _⟩
theorem op_Mod : OpR X (binaryOp .Mod) (rI (fun _ j => j ≠ 0) fun i j => .int (i.fmod j)) ∧ RefO X.K (rI (fun _ j => j ≠ 0) fun i j => .int (i.fmod j)) oMod := ⟨op_modN, ref_ic fun _ _ _ => .int _⟩
theorem op_Pow : OpR X (binaryOp .Pow) (rI CPow fun i j => .int (i ^ j.toNat)) ∧ RefO X.K (rI CPow fun i j => .int (i ^ j.toNat)) oPow := ⟨op_pow, ref_ic fun _ _ _ => .int _⟩
theorem op_Lt : OpR X (compareOp .Lt) (rI0 fun i j => .bl (decide (i < j))) ∧ RefO X.K (rI0 fun i j => .bl (decide (i < j))) oLt := ⟨op_lt, ref_i fun _ _ _ => .bl _⟩
theorem op_Le : OpR X (compareOp .LtE) (rI0 fun i j => .bl (decide (i ≤ j))) ∧ RefO X.K (rI0 fun i j => .bl (decide (i ≤ j))) oLe := ⟨op_le, ref_i fun _ _ _ => .bl _⟩
theorem op_Gt : OpR X (compareOp .Gt) (rI0 fun i j => .bl (decide (j < i))) ∧ RefO X.K (rI0 fun i j => .bl (decide (j < i))) oGt := ⟨op_gt, ref_i fun _ _ _ => .bl _⟩
theorem op_Ge : OpR X (compareOp .GtE) (rI0 fun i j => .bl (decide (j ≤ i))) ∧ RefO X.K (rI0 fun i j => .bl (decide (j ≤ i))) oGe := ⟨op_ge, ref_i fun _ _ _ => .bl _⟩
def oNeg : O1 := fun x q => match x with
  | .int i => q (.int (-i))
  | _ => False
theorem op_Neg : UnR X (unaryOp .USub) (rU fun i => .int (-i)) ∧ RefU X.K (rU fun i => .int (-i)) oNeg := ⟨un_neg, fun G st H x dx Q q s rx h t => by
  cases rx with
  | int i => exact ⟨i, rfl, t.here s (.int _) h⟩
  | _ => exact h.elim⟩
/-- +: ints, lists, texts -/
def oAdd : O2 := fun x y q => match x, y with
  | .int i, .int j => q (.int (i + j))
  | .lst a, .lst b => a.length + b.length ≤ 100000 ∧ q (.lst (a ++ b))
  | .str a, .str b => a.length + b.length ≤ 100000 ∧ q (.str (a ++ b))
  | .tup a, .tup b => a.length + b.length ≤ 100000 ∧ q (.tup (a ++ b))
  | _, _ => False
def rSqL2 (K : PySem.W.Frag) : R2 := fun x y H Q => ∃ p p' a b, x = .ref p ∧ y = .ref p' ∧ SqL K H p a ∧ SqL K H p' b ∧ a.length + b.length ≤ sizeLine ∧ ∀ l, H l = none → Q (.ref l) (upd H l (.lst (a ++ b)))
end
section
variable {X : Cx} {K : PySem.W.Frag} {W : WX} {k : Nat}
def rAddA (K : PySem.W.Frag) : R2 := fun x y H Q => rI0 (fun i j => .int (i + j)) x y H Q ∨ rCat x y H Q ∨ rCatA K x y H Q ∨ (∃ i j, x = .str i ∧ y = .str j ∧ i.length + j.length ≤ sizeLine ∧ Q (.str (i ++ j)) H)
theorem op_Add : OpR X (binaryOp .Add) (rAddA X.K) ∧ RefO X.K (rAddA X.K) oAdd := by
  refine ⟨OpR.or op_add (OpR.or op_cat (OpR.or op_catA op_add_str)), fun G st H x y dx dy Q q s rx ry h t => ?_⟩
  cases rx with
  | int i =>
    cases ry with
    | int j => exact .inl ⟨i, j, rfl, rfl, t.here s (.int _) h⟩
    | _ => exact h.elim
  | lst h1 r1 =>
    cases ry with
    | lst h2 r2 => exact .inr (.inl ⟨_, _, _, _, rfl, rfl, h1, h2, sz_of (by rw [← r1.length, ← r2.length]; exact h.1), fun p hp => t.newL s (r1.append r2) h.2 hp⟩)
    | _ => exact h.elim
  | str i =>
    cases ry with
    | str j => exact .inr (.inr (.inr ⟨i, j, rfl, rfl, sz_of h.1, t.here s (.str _) h.2⟩))
    | _ => exact h.elim
  | tup h1 r1 ra =>
    cases ry with
    | tup h2 r2 rb =>
      refine .inr (.inr (.inl ⟨_, _, _, _, rfl, rfl, SqT.of h1, SqT.of h2, sz_of (by rw [← r1.length, ← r2.length]; exact h.1), fun e => ?_, fun _ e => ?_, fun _ _ p hp => t.newT s (r1.append r2) h.2 hp⟩))
      · subst e
        cases r1
        exact t.here s rb h.2
      · subst e
        cases r2
        have h2' := h.2
        rw [List.append_nil] at h2'
        exact t.here s ra h2'
    | _ => exact h.elim
  | _ => cases dy <;> exact h.elim
/-- x[i] -/
theorem atI_reps {G : Gh} {ds : List D} {vs : List V} {i : Int} {d : D} (r : Reps K G ds vs) (h : atI ds i = some d) : ∃ v, atI vs i = some v ∧ Rep K G d v := by
  unfold atI at h ⊢
  rw [← r.length]
  cases hj : ixN ds.length i with
  | none => rw [hj] at h; cases h
  | some j =>
    rw [hj] at h
    exact r.get h
def oIx : O2 := fun x y q => match x, y with
  | .lst l, .int i => ∃ d, atI l i = some d ∧ q d
  | .tup l, .int i => ∃ d, atI l i = some d ∧ q d
  | .str s, .int i => s.length ≤ 100000 ∧ ∃ c, atI s.cps.toList i = some c ∧ q (.str ⟨#[c]⟩)
  | _, _ => False
def rIxA (K : PySem.W.Frag) : R2 := fun x y H Q => rIxL K x y H Q ∨ rIxT K x y H Q ∨ rIxS x y H Q
theorem op_Ix : IxR X (rIxA X.K) ∧ RefO X.K (rIxA X.K) oIx := by
  refine ⟨IxR.or ix_list (IxR.or ix_tup ix_str), fun G st H x y dx dy Q q s rx ry h t => ?_⟩
  cases rx with
  | lst h1 r1 =>
    cases ry with
    | int i =>
      obtain ⟨d, hd, h⟩ := h
      obtain ⟨v, hv, rv⟩ := atI_reps r1 hd
      exact .inl ⟨_, _, i, v, rfl, rfl, SqL.of h1, hv, t.here s rv h⟩
    | _ => exact h.elim
  | tup h1 r1 rt =>
    cases ry with
    | int i =>
      obtain ⟨d, hd, h⟩ := h
      obtain ⟨v, hv, rv⟩ := atI_reps r1 hd
      exact .inr (.inl ⟨_, _, i, v, rfl, rfl, SqT.of h1, hv, t.here s rv h⟩)
    | _ => exact h.elim
  | str sx =>
    cases ry with
    | int i =>
      obtain ⟨hl, c, hc, h⟩ := h
      exact .inr (.inr ⟨sx, i, c, rfl, rfl, sz_of hl, hc, t.here s (.str _) h⟩)
    | _ => exact h.elim
  | _ => cases dy <;> exact h.elim
/-! ### built-ins -/
def bAbs : ON := fun xs q => match xs with
  | [.int i] => q (.int (if i < 0 then -i else i))
  | _ => False
theorem cb_abs : CB X (.builtin "abs") bAbs := ⟨_, call_abs, fun G st H xs ds Q q s r h t => by
  unfold bAbs at h
  split at h
  · cases r with
    | cons r1 r2 => cases r1; cases r2; exact ⟨_, rfl, t.here s (.int _) h⟩
  · exact h.elim⟩
def bMax2 : ON := fun xs q => match xs with
  | [.int i, .int j] => q (.int (if j > i then j else i))
  | _ => False
theorem cb_max2 (C : CxE X W k) : CB X (.builtin "max") bMax2 := ⟨_, call_max2 C.calm, fun G st H xs ds Q q s r h t => by
  unfold bMax2 at h
  split at h
  · cases r with
    | cons r1 r2 =>
      cases r2 with
      | cons r2 r3 => cases r1; cases r2; cases r3; exact ⟨_, _, rfl, t.here s (.int _) h⟩
  · exact h.elim⟩
def bMin2 : ON := fun xs q => match xs with
  | [.int i, .int j] => q (.int (if j < i then j else i))
  | _ => False
theorem cb_min2 (C : CxE X W k) : CB X (.builtin "min") bMin2 := ⟨_, call_min2 C.calm, fun G st H xs ds Q q s r h t => by
  unfold bMin2 at h
  split at h
  · cases r with
    | cons r1 r2 =>
      cases r2 with
      | cons r2 r3 => cases r1; cases r2; cases r3; exact ⟨_, _, rfl, t.here s (.int _) h⟩
  · exact h.elim⟩
def bInt : ON := fun xs q => match xs with
  | [.int i] => q (.int i)
  | [.bl b] => q (.int (if b then 1 else 0))
  | _ => False
theorem cb_int : CB X (.type "int") bInt := ⟨_, call_int1, fun G st H xs ds Q q s r h t => by
  unfold bInt at h
  split at h
  · cases r with
    | cons r1 r2 => cases r1; cases r2; exact .inl ⟨_, rfl, t.here s (.int _) h⟩
  · cases r with
    | cons r1 r2 => cases r1; cases r2; exact .inr ⟨_, rfl, t.here s (.int _) h⟩
  · exact h.elim⟩
def lenD : D → Option Nat
  | .lst l => some l.length
  | .tup l => some l.length
  | .str s => if s.length ≤ 100000 then some s.length else none
  | _ => none
def bLen : ON := fun xs q => match xs with
  | [x] => ∃ n, lenD x = some n ∧ q (.int n)
  | _ => False
theorem cb_len : CB X (.builtin "len") bLen := ⟨_, call_len, fun G st H xs ds Q q s r h t => by
  unfold bLen at h
  split at h
  · rename_i x
    obtain ⟨n, hn, h⟩ := h
    cases r with
    | cons r1 r2 =>
      cases r2
      refine ⟨_, n, rfl, ?_, t.here s (.int _) h⟩
      cases r1 with
      | lst h1 r1 => cases hn; exact .inl ⟨_, SqL.of h1, r1.length⟩
      | tup h1 r1 rt => cases hn; exact .inr ⟨_, SqT.of h1, r1.length⟩
      | str s =>
        have hn' : (if s.length ≤ 100000 then some s.length else none) = some n := hn
        by_cases hz : s.length ≤ 100000
        · rw [if_pos hz] at hn'
          cases hn'
          exact ⟨sz_of hz, rfl⟩
        · rw [if_neg hz] at hn'; cases hn'
      | _ => cases hn
  · exact h.elim⟩
def bList : ON := fun xs q => match xs with
  | [x] => ∃ l, itemsD x = some l ∧ q (.lst l)
  | _ => False
theorem cb_list : CB X (.type "list") bList := ⟨_, call_list_of, fun G st H xs ds Q q s r h t => by
  unfold bList at h
  split at h
  · obtain ⟨l, hl, h⟩ := h
    cases r with
    | cons r1 r2 =>
      cases r2
      cases r1 with
      | lst h1 r1 => cases hl; exact ⟨_, _, rfl, .inl (SqL.of h1), fun p hp => t.newL s r1 h hp⟩
      | tup h1 r1 rt => cases hl; exact ⟨_, _, rfl, .inr (SqT.of h1), fun p hp => t.newL s r1 h hp⟩
      | _ => cases hl
  · exact h.elim⟩
def bTuple : ON := fun xs q => match xs with
  | [x] => ∃ l, itemsD x = some l ∧ q (.tup l)
  | _ => False
theorem cb_tuple : CB X (.type "tuple") bTuple := ⟨_, call_tuple_of, fun G st H xs ds Q q s r h t => by
  unfold bTuple at h
  split at h
  · obtain ⟨l, hl, h⟩ := h
    cases r with
    | cons r1 r2 =>
      cases r2
      cases r1 with
      | lst h1 r1 => cases hl; exact ⟨_, _, rfl, .inl ⟨SqL.of h1, fun p hp => t.newT s r1 h hp⟩⟩
      | tup h1 r1 rt => cases hl; exact ⟨_, _, rfl, .inr ⟨SqT.of h1, t.here s rt h⟩⟩
      | _ => cases hl
  · exact h.elim⟩
/-! ### isinstance of data and built-in classes -/
def tyD : D → Option String
  | .non => some "NoneType"
  | .bl _ => some "bool"
  | .int _ => some "int"
  | .str _ => some "str"
  | .lst _ => some "list"
  | .tup _ => some "tuple"
  | .dic _ => some "dict"
  | _ => none
theorem ty_ok {G : Gh} {H : Hp} {d : D} {v : V} {t : String} (r : Rv K G H d v) (h : tyD d = some t) : TyX K H v (.type t) := by
  cases r with
  | non => cases h; exact .base .non
  | bl b => cases h; exact .base (.bl b)
  | int b => cases h; exact .base (.int b)
  | str b => cases h; exact .base (.str b)
  | lst h1 _ => cases h; exact .base (.lst h1)
  | tup h1 _ _ => cases h; exact .base (.tup h1)
  | dicT h1 _ => cases h; exact .base (.dT h1)
  | _ => cases h
def clsD : D → Option (List String)
  | .ty n => some [n]
  | .tup l => l.mapM fun d => match d with
    | .ty n => some n
    | _ => none
  | _ => none
def kitS (t : String) : List String → Option Bool
  | [] => some false
  | c :: r => match kitB t c with
    | some true => some true
    | some false => kitS t r
    | none => none
def bIsi : ON := fun xs q => match xs with
  | [x, .ty c] => ∃ t b, tyD x = some t ∧ kitB t c = some b ∧ q (.bl b)
  | [x, .tup l] => ∃ t cs b, tyD x = some t ∧ l = cs.map D.ty ∧ kitS t cs = some b ∧ q (.bl b)
  | _ => False
theorem kitS_ok {t : String} {b : Bool} : ∀ {cs : List String}, kitS t cs = some b → PySem.W.kitAny K (.type t) (cs.map fun c => Value.type c) = some b
  | [], h => h
  | c :: cs, h => by
    have h' : (match kitB t c with | some true => some true | some false => kitS t cs | none => none) = some b := h
    show (match PySem.W.kitOne K (.type t) (.type c) with | some true => some true | some false => PySem.W.kitAny K (.type t) (cs.map fun c => Value.type c) | none => none) = some b
    cases hk : kitB t c with
    | none => rw [hk] at h'; cases h'
    | some x =>
      rw [kit_ty hk]
      rw [hk] at h'
      cases x with
      | true => exact h'
      | false => exact kitS_ok h'
theorem tys_ok {G : Gh} : ∀ {cs : List String} {vs : List V}, Reps K G (cs.map D.ty) vs → vs = cs.map V.ty
  | [], _, .nil => rfl
  | c :: cs, _, .cons h r => by
    cases h
    rw [tys_ok (cs := cs) r]; rfl
theorem cls_tys : ∀ (cs : List String), Paired ClsV (cs.map V.ty) (cs.map fun c => Value.type c)
  | [] => .nil
  | c :: cs => .cons (.ty c) (cls_tys cs)
theorem cb_isi : CB X (.builtin "isinstance") bIsi := ⟨_, CallR.or call_isi call_isiT, fun G st H xs ds Q q s r h t => by
  unfold bIsi at h
  split at h
  · obtain ⟨ty, b, h1, h2, h⟩ := h
    cases r with
    | cons r1 r2 =>
      cases r2 with
      | cons r2 r3 =>
        cases r2; cases r3
        exact .inl ⟨_, _, _, _, b, rfl, .ty _, ty_ok r1 h1, kit_ty h2, t.here s (.bl _) h⟩
  · obtain ⟨ty, cs, b, h1, rfl, h2, h⟩ := h
    cases r with
    | cons r1 r2 =>
      cases r2 with
      | cons r2 r3 =>
        cases r3
        cases r2 with
        | tup ht rt _ =>
          have := tys_ok rt
          subst this
          exact .inr ⟨_, _, _, _, _, b, rfl, ht, cls_tys cs, ty_ok r1 h1, kitS_ok h2, t.here s (.bl _) h⟩
  · exact h.elim⟩
/-- a built-in class's name as a value -/
theorem ax_ty {x : Str} {n : String} {pos : Pos} (hm : X.mg x = none) (hv : bootBuiltins x = some (.type n)) (hg : Gl X x := by rfl) (hn : x ≠ "__name__" := by decide) (hd : (x == ("__debug__" : Str)) = false := by decide) : AX X W (.Name x pos) (aC (.ty n)) := ⟨_, pe_bltn (v := .ty n) hg hm hv rfl hn hd, refE_c fun _ => .ty n⟩
/-- all, any, sum of lists -/
theorem bls_ok {G : Gh} : ∀ {bs : List Bool} {vs : List V}, Reps K G (bs.map D.bl) vs → vs = bs.map V.bl
  | [], _, .nil => rfl
  | c :: cs, _, .cons h r => by
    cases h
    rw [bls_ok (bs := cs) r]; rfl
theorem ints_ok {G : Gh} : ∀ {bs : List Int} {vs : List V}, Reps K G (bs.map D.int) vs → vs = bs.map V.int
  | [], _, .nil => rfl
  | c :: cs, _, .cons h r => by
    cases h
    rw [ints_ok (bs := cs) r]; rfl
def bAll : ON := fun xs q => ∃ bs : List Bool, xs = [.lst (bs.map D.bl)] ∧ q (.bl (bs.all id))
def bAny : ON := fun xs q => ∃ bs : List Bool, xs = [.lst (bs.map D.bl)] ∧ q (.bl (bs.any id))
def bSum : ON := fun xs q => ∃ ns : List Int, xs = [.lst (ns.map D.int)] ∧ q (.int ns.sum)
theorem cb_all (C : CxE X W k) : CB X (.builtin "all") bAll := ⟨_, cr_all C.calm, fun G st H xs ds Q q s r ⟨bs, eb, h⟩ t => by
  subst eb
  cases r with
  | cons r1 r2 =>
    cases r2
    cases r1 with
    | lst h1 r1 =>
      have := bls_ok r1
      subst this
      exact ⟨_, bs, rfl, SqL.of h1, t.here s (.bl _) h⟩⟩
theorem cb_any (C : CxE X W k) : CB X (.builtin "any") bAny := ⟨_, cr_any C.calm, fun G st H xs ds Q q s r ⟨bs, eb, h⟩ t => by
  subst eb
  cases r with
  | cons r1 r2 =>
    cases r2
    cases r1 with
    | lst h1 r1 =>
      have := bls_ok r1
      subst this
      exact ⟨_, bs, rfl, SqL.of h1, t.here s (.bl _) h⟩⟩
theorem cb_sum (C : CxE X W k) : CB X (.builtin "sum") bSum := ⟨_, cr_sum C.calm, fun G st H xs ds Q q s r ⟨bs, eb, h⟩ t => by
  subst eb
  cases r with
  | cons r1 r2 =>
    cases r2
    cases r1 with
    | lst h1 r1 =>
      have := ints_ok r1
      subst this
      exact ⟨_, bs, rfl, SqL.of h1, t.here s (.int _) h⟩⟩
end
end AM
set_option Elab.async false
set_option linter.all false
set_option maxRecDepth 100000
set_option maxHeartbeats 4000000
namespace AM
open PySem PySem.W PySem.Calls PyProof.Rows
/-! ### an own error's __init__: super().__init__(text), then at most one field -/
section
variable {prog : Program} {w : World} {A : Around} {E : Value → Shared → Prop} {h : Heap} {g : Array GenState} {d : Drawn} {t : Nat} {os : OsState}
variable {nm q : Str} {C N : Addr} {bs bm : List Value} {hdct : Bool} {sn : List Str} {sub : List Value} {ab : Bool} {col : Option Bool} {dd : Option Addr} {k0 k1 k2 k3 k5 : Option Value}
theorem call_mw {u e t0 : Addr} {rest : List Value} {Q : Value → Shared → Prop}
    (hC : h.get? C = some (excClassObj nm q C N bs bm hdct sn sub ab col dd k0 k1 k2 k3 k5 "ValueError.__new__")) (he : h.get? e = some (HandSPX.excO C t0)) (hu : h.get? u = some (kxs_mw "ValueError.__init__" e)) (hrest : rest.length ≤ sizeLine)
    (hq : ∀ h' t1, (∀ b o, b ≠ e → h.get? b = some o → h'.get? b = some o) → h'.get? e = some (HandSPX.excO C t1) → h.objs.size ≤ h'.objs.size → Q .none ⟨h', g, d, t, os⟩) :
    wpAny (model prog w) A (call (.ref u) rest) Q E ⟨h, g, d, t, os⟩ := by
  refine wpAny_call (codeAny_of_tree ?_)
  show wpAny _ A.in1 (callAny (.ref u) ⟨rest, []⟩) _ _ _
  simp only [callAny]
  refine wpAny_bind (wpAny_load hu ?_)
  simp only [kxs_mw, show (Value.type "method-wrapper" == Value.type "method" || Value.type "method-wrapper" == Value.type "builtin_function_or_method" || Value.type "method-wrapper" == Value.type "method-wrapper") = true by decide, if_true]
  refine KFB.if_so (by decide) ?_
  refine wpAny_bind (check_bound_init F.excBase_ValueError.toExcCallFacts hC he rfl ?_)
  refine wpAny_bind (wpAny_pure (wpAny_pure ?_))
  refine ⟨Code.quiet_builtin _ (by decide +kernel), codeAny_builtin F.excBase_ValueError.initEntry ?_⟩
  rw [Around.under_plainId F.excBase_ValueError.init.plain _]
  wp_walk
  refine hq _ h.objs.size (fun b o hb ho => ?_) ?_ ?_
  · rw [Heap.get?_update_other _ _ (Ne.symm hb)]
    exact Heap.get?_push_of_some _ ho
  · rw [Heap.get?_update_self _ (Heap.get?_push_of_some _ he) rfl]
    rfl
  · rw [Heap.size_update, Heap.size_push]; exact Nat.le_succ _
end
/-- what is known of the class and of its __init__ -/
structure XC (P : Program) (K : Frag) (mg : Str → Option Value) (C f : Addr) (fd : FuncData) (params : Arguments) (body : List Stmt) (scope : Scope) : Prop where
  ox : L2.OexC K C
  fn : ∃ (qual : Str) (kV doc pm ct oc : Value) (an od : Option Addr) (osl : Array (Option Value)) (cc cda : Addr) (cl : Value) (cld : Option Addr) (csl : Array (Option Value)) (ccl : Value) (cdd : Option Addr) (vs : Array Value) (ccs : Array (Option Value)) (tf : Tok),
    fd = ksFn "__init__" qual params body scope .none kV doc pm an (.ref cda) ct cc ∧ K.lookup f = some ⟨oc, od, .func fd, osl⟩ ∧ codeIn K (.ref cda) qual = true ∧ K.lookup cc = some ⟨cl, cld, .cell (some (.ref C)), csl⟩ ∧
    K.lookup cda = some ⟨ccl, cdd, .fields vs, ccs⟩ ∧ vs[2]? = some (.str P.main.file tf)
  su : ks_superIn K C C "__init__" = some (some (.builtin "ValueError.__init__"))
  ve : subIn K (.ref C) (.type "ValueError") = some true
  mr : mroIn K C (.ref C) = some true
  st : nsIn K cStatics "thirdparty.any" = some none
  mgs : mg "super" = none
  top : (P.main.scope.names.lookup ("super" : Str)).isSome = false
  ini : findIn K (.ref C) "__init__" = some (some (.ref f))
  tyf : typeIn K (.ref f) = some (.type "function")
section
variable {P : Program} {w : World} {K : Frag} {mg : Str → Option Value} {C f : Addr} {fd : FuncData} {params : Arguments} {body : List Stmt} {scope : Scope} {A : Around} {R : Result → Shared → Prop} {base : Heap}
/-- the run of super().__init__(text) within the def's frame -/
theorem run_super {rest : List Stmt} {E : Value → Shared → Prop} {L cc cda e t0 : Addr} {qual : Str} {dV kV doc pm ct oc : Value} {an od : Option Addr} {osl : Array (Option Value)} {cl : Value} {cld : Option Addr} {csl : Array (Option Value)} {ccl : Value} {cdd : Option Addr} {vs : Array Value} {ccs : Array (Option Value)} {tf : Tok} {body : List Stmt}
    {m : Str → Option Value} {hh : Heap} {g : Array GenState} {d : Drawn} {t : Nat} {os : OsState} {txt : Str} {k : Nat} {p0 p1 p2 p3 p4 p5 : Pos} {ar : PySem.Arg} {Q : Flow → Shared → Prop}
    (ox : L2.OexC K C) (hf : K.lookup f = some ⟨oc, od, .func (ksFn "__init__" qual params body scope dV kV doc pm an (.ref cda) ct cc), osl⟩) (hcell : K.lookup cc = some ⟨cl, cld, .cell (some (.ref C)), csl⟩) (hcode : K.lookup cda = some ⟨ccl, cdd, .fields vs, ccs⟩) (hvs : vs[2]? = some (.str P.main.file tf))
    (su : ks_superIn K C C "__init__" = some (some (.builtin "ValueError.__init__"))) (ve : subIn K (.ref C) (.type "ValueError") = some true) (mr : mroIn K C (.ref C) = some true) (st : nsIn K cStatics "thirdparty.any" = some none) (mgs : mg "super" = none) (top : (P.main.scope.names.lookup ("super" : Str)).isSome = false)
    (X : K.In hh) (G : hh.Ns mainGlobals mg) (B : ∃ mb, hh.Ns builtinsNs mb ∧ ∀ x : Str, x ≠ "__name__" → mb x = bootBuiltins x) (hL : hh.Ns L m) (hself : m "self" = some (.ref e)) (he : hh.get? e = some (HandSPX.excO C t0))
    (hev : ∀ env : Env, ∃ pl : Sem Bool, eval (.Call (.Attribute (.Call (.Name "super" p0) [] [] p1) "__init__" p2) [.Constant (.str txt) k p3] [] p4) env = (do
      let ov ← attributeBase (.Call (.Name "super" p0) [] [] p1) "__init__" env (eval (.Call (.Name "super" p0) [] [] p1) env)
      standAt p2.atName
      let (f, first) ← holding [ov] (getMethod ov "__init__" pl)
      callWith p4 f first (backTo p4 (starEach [.Constant (.str txt) k p3] env)) []))
    (hp : (params.posonlyargs ++ params.args).head? = some ar) (har : ar.arg = "self") (hks : scope.names.lookup ("super" : Str) = some .globalImplicit) (hkc : scope.names.lookup ("__class__" : Str) = some .free) (hka : scope.names.lookup ("self" : Str) = some .local) (hk : scope.kind = .function)
    (h : ∀ h' t1 tk, (∀ b o, b ≠ e → hh.get? b = some o → h'.get? b = some o) → h'.get? e = some (HandSPX.excO C t1) → hh.objs.size ≤ h'.objs.size → _root_.PySem.wpAt (model P w) A (.func body (ksEnv qual scope L f (.ref cda) cc)) (execs rest (ksEnv qual scope L f (.ref cda) cc)) Q E ⟨h', g, d, tk, os⟩) :
    _root_.PySem.wpAt (model P w) A (.func body (ksEnv qual scope L f (.ref cda) cc)) (execs (.Expr (.Call (.Attribute (.Call (.Name "super" p0) [] [] p1) "__init__" p2) [.Constant (.str txt) k p3] [] p4) p5 :: rest) (ksEnv qual scope L f (.ref cda) cc)) Q E ⟨hh, g, d, t, os⟩ := by
  obtain ⟨nm, q, N, bs, bm, sn, sub, ab, col, dd, k0, k1, k2, k3, k5, hC, hbm⟩ := ox.cls
  obtain ⟨mb, hmb, hbb⟩ := B
  have hcd : clsIn K C = some { name := nm, bases := bs, mro := .ref C :: bm, ns := N, qualname := q, hasDict := true, slotNames := sn, subclasses := sub, abstract := ab, collection := col, hasDel := false } := by unfold clsIn; rw [hC] <;> rfl
  have I : InstAt hh e (HandSPX.excO C t0) C none := ⟨he, rfl, rfl, trivial⟩
  obtain ⟨pl, hev⟩ := hev (ksEnv qual scope L f (.ref cda) cc)
  refine ks_wpAt_execs_cons (ks_wpAt_Expr_any (ks_wpAt_MethodCall (pl := pl) ?_ hev) (by show interactive _ = false; simp [interactive, hk]) rfl)
  refine ks_wpAt_super_base (env := ksEnv qual scope L f (.ref cda) cc) hks hkc (by decide) rfl (X _ _ hf) rfl hp rfl (X _ _ hcode) rfl hvs (by simp) top ?_
  refine ks_loadName_global hk hks (loadGlobal_builtin (env := ksEnv qual scope L f (.ref cda) cc) G mgs hmb ((hbb _ (by decide +kernel)).trans (by decide +kernel)) ⟨rfl, ?_⟩)
  refine wpAny_loadName_free hk hkc rfl ⟨_, X _ _ hcell, rfl⟩ ?_
  rw [har]
  refine wpAny_loadName_local hk hka hL hself ?_
  refine ks_wpAny_isType_cls (X _ _ hC) rfl ⟨rfl, ?_⟩
  refine ks_wpAny_call_super (X _ _ hC) rfl he rfl (fun c z => by cases z) (looks_mroIn X mr) (fun h1 e1 k1 => ?_)
  have X1 : K.In h1 := X.keeps k1
  have I1 : InstAt h1 e (HandSPX.excO C t0) C none := ⟨k1 _ _ he, rfl, rfl, trivial⟩
  unfold ks_superIn at su
  rw [hcd] at su
  refine kxs_getMethod kxs_ValueError (so := hh.objs.size) (D := C) (x := e) (C := C) e1 (looks_opaque X1 st) (l₀ := .ref C :: bm) ?_ rfl X1 su (I1.type.andThen (looks_subIn X1 ve)) (ks_ne X1 I1 hcd) (by decide) ?_
  · exact fun A Q E s k q => wpAny_bind ((looks_clsIn X1 hcd) A _ E s k (wpAny_pure q))
  have hu : (h1.push (kxs_mw "ValueError.__init__" e)).get? h1.objs.size = some (kxs_mw "ValueError.__init__" e) := Heap.get?_push_size _ rfl
  have k2 : ∀ b o, h1.get? b = some o → (h1.push (kxs_mw "ValueError.__init__" e)).get? b = some o := fun b o z => Heap.get?_push_of_some _ z
  refine kxs_callWith (i := "ValueError.__init__") (x := e) rfl ?_
  refine evalArgs_plain (spliced_cons (Calls.Constant_str (k := k) (pos := p3) ?_))
  refine Calls.spliced_nil ⟨hu, ?_⟩
  refine call_mw (t0 := t0) (X1.keeps k2 _ _ hC) (k2 _ _ (k1 _ _ he)) hu (by show 1 ≤ sizeLine; decide) fun h' t1 k3 e3 z3 => ?_
  refine h h' t1 _ (fun b o hb ho => k3 b o hb (k2 _ _ (k1 _ _ ho))) e3 ?_
  have e5 : hh.objs.size < h1.objs.size := Heap.lt_size e1
  rw [Heap.size_push] at z3
  omega
end
open L2 in
/-- no field -/
def spX0 (C : Addr) : L2.Sp := fun vs H Q _ => ∃ e : Addr, vs = [.ref e] ∧ H e = some (L2.exo e C none) ∧ Q .non H
open L2 in
/-- one field -/
def spX1 (C : Addr) (fld : Str) : L2.Sp := fun vs H Q _ => ∃ (e : Addr) (v : V), vs = [.ref e, v] ∧ H e = some (L2.exo e C none) ∧ ∀ dx, H dx = none → dx ≠ e → Q .non (L2.upd (L2.upd H dx (L2.exd dx [(fld, v)])) e (L2.exo e C (some dx)))
section
open L2
variable {P : Program} {w : World} {K : Frag} {mg : Str → Option Value} {C f : Addr} {fd : FuncData} {params : Arguments} {scope : Scope} {base : Heap} {CX : CXT}
theorem ns_keep {h h' : Heap} {L e : Addr} {m : Str → Option Value} (n : h.Ns L m) (ne : L ≠ e) (k : ∀ b o, b ≠ e → h.get? b = some o → h'.get? b = some o) : h'.Ns L m := by
  obtain ⟨o, es, ep, ho, r⟩ := n
  exact ⟨o, es, ep, k _ _ ne ho, r⟩
theorem ns_lt {h : Heap} {L : Addr} {m : Str → Option Value} (n : h.Ns L m) : L < h.objs.size := by
  obtain ⟨o, es, ep, ho, r⟩ := n
  exact Heap.lt_size ho
/-- the tracked things but e, where e's own object has changed -/
theorem un_at {fs : List Addr} {H H' : Hp} {h h' : Heap} {e : Addr} {x : HO} (hx : H e = some x) (k : ∀ b o, b ≠ e → h.get? b = some o → h'.get? b = some o) (he : ∃ o, h'.get? e = some o) (fr : ∀ b o, h.get? b = some o → H b = none → H' b = none)
    (tu : ∀ b xs, H b = some (.tup xs) → H' b = some (.tup xs)) (fz : ∀ b o v, H b = some (.frz o v) → H' b = some (.frz o v)) (tb : ∀ b ps, H b = some (.tbl ps) → H' b = some (.tbl ps)) : Un fs [] H H' h h' where
  keep := fun b o q n _ _ => k b o (fun z => by rw [z, hx] at n; cases n) q
  slot := fun b o q n _ _ => ⟨o.slots, k b o (fun z => by rw [z, hx] at n; cases n) q⟩
  free := fun b o q n _ => fr b o q n
  there := fun b o q _ => by
    by_cases hb : b = e
    · rw [hb]; exact he
    · exact ⟨o, k b o hb q⟩
  tups := tu
  frzs := fz
  tbls := fun b ps q => ⟨#[], by rw [tb b ps q]; simp⟩
theorem xfn0 {txt : Str} {k : Nat} {p0 p1 p2 p3 p4 p5 : Pos} {ar : PySem.Arg} {j : Nat}
    (T : XC P K mg C f fd params [.Expr (.Call (.Attribute (.Call (.Name "super" p0) [] [] p1) "__init__" p2) [.Constant (.str txt) k p3] [] p4) p5] scope)
    (hev : ∀ env : Env, ∃ pl : Sem Bool, eval (.Call (.Attribute (.Call (.Name "super" p0) [] [] p1) "__init__" p2) [.Constant (.str txt) k p3] [] p4) env = (do
      let ov ← attributeBase (.Call (.Name "super" p0) [] [] p1) "__init__" env (eval (.Call (.Name "super" p0) [] [] p1) env)
      standAt p2.atName
      let (f, first) ← holding [ov] (getMethod ov "__init__" pl)
      callWith p4 f first (backTo p4 (starEach [.Constant (.str txt) k p3] env)) []))
    (hp : (params.posonlyargs ++ params.args).head? = some ar) (har : ar.arg = "self") (hks : scope.names.lookup ("super" : Str) = some .globalImplicit) (hkc : scope.names.lookup ("__class__" : Str) = some .free) (hka : scope.names.lookup ("self" : Str) = some .local) (hk : scope.kind = .function)
    (hcell : ∀ x ∈ scope.names, x.2 ≠ .cell) (hco : scope.isCoroutine = false) (hgen : scope.isGenerator = false) : FnOk P w K mg base CX (j + 1) f fd ["self"] (spX0 C) := by
  obtain ⟨qual, kV, doc, pm, ct, oc, an, od, osl, cc, cda, cl, cld, csl, ccl, cdd, vs, ccs, tf, rfl, lk, hcd, hcc, hcda, hvs⟩ := T.fn
  refine ⟨fun vs H Q E h => ?_, fun A outer s H args us vs Q E hr e0 hb r h => ?_⟩
  · obtain ⟨e, rfl, _⟩ := h
    rfl
  · obtain ⟨e, rfl, hx, hq⟩ := h
    cases r with
    | @cons _ u0 _ ur ra rr =>
    cases rr
    obtain rfl : u0 = Value.ref e := ra
    have KX : K.In s.heap := e0.mod.kin.keeps fun b o z => (e0.bs b o z).1
    obtain ⟨t1, he⟩ := exo_at e0.hok hx
    have hel := Heap.lt_size he
    refine ks_codeAny_call_defAt (fd := ksFn "__init__" qual params _ scope .none kV doc pm an (.ref cda) ct cc) (body := _) (binds := (["self"] : List Str).zip [Value.ref e]) (by have := hr.dp; omega) (KX _ _ lk) rfl (e0.mod.nolimit.keeps fun b o z => (e0.bs b o z).1) (codeRec_of KX hcd) rfl hb hcell (fun x hx => ?_) (fun h0 hns hk0 => ?_) hco hgen hk
    · have : x = (("self" : Str), Value.ref e) := by simpa using hx
      subst this
      exact hka
    · obtain ⟨hh, gg, dd, tt, oo⟩ := s
      refine run_super (L := hh.objs.size) (e := e) (t0 := t1) (m := fun x => ((["self"] : List Str).zip [Value.ref e]).reverse.lookup x) T.ox lk hcc hcda hvs T.su T.ve T.mr T.st T.mgs T.top (KX.keeps hk0) (e0.mod.glob.keeps fun b o z => hk0 _ _ (e0.bs b o z).1) ?_ hns rfl (hk0 _ _ he) hev hp har hks hkc hka hk fun h2 t2 tk k2 e2 z2 => ?_
      · obtain ⟨mb, hmb, hbb⟩ := e0.mod.blt
        exact ⟨mb, hmb.keeps fun b o z => hk0 _ _ (e0.bs b o z).1, hbb⟩
      · refine wpAt_of_wpAny (wpAny_execs_nil ?_)
        have kk : ∀ b o, b ≠ e → hh.get? b = some o → h2.get? b = some o := fun b o hb z => k2 b o hb (hk0 _ _ z)
        refine ⟨.non, H, rfl, e0.bare, un_at hx kk ⟨_, e2⟩ (fun _ _ _ z => z) (fun _ _ z => z) (fun _ _ _ z => z) (fun _ _ z => z), fun b o z => ?_, rfl, hq⟩
        by_cases hb : b = e
        · subst hb
          rw [hx] at z
          cases z
          exact exo_ok e2
        · exact (e0.hok b o z).stay (fun c v hc y => kk c v (by
            rcases hc with hc | hc
            · rw [hc]; exact hb
            · exact at_ne hx hc exo_own) y) (fun c hc => hc) (fun c xs hc => hc)
theorem xfn1 {txt fld : Str} {k : Nat} {p0 p1 p2 p3 p4 p5 p6 p7 p8 p9 : Pos} {ar : PySem.Arg} {j : Nat}
    (T : XC P K mg C f fd params [.Expr (.Call (.Attribute (.Call (.Name "super" p0) [] [] p1) "__init__" p2) [.Constant (.str txt) k p3] [] p4) p5, .Assign [.Attribute (.Name "self" p6) fld p7] (.Name fld p8) p9] scope)
    (hev : ∀ env : Env, ∃ pl : Sem Bool, eval (.Call (.Attribute (.Call (.Name "super" p0) [] [] p1) "__init__" p2) [.Constant (.str txt) k p3] [] p4) env = (do
      let ov ← attributeBase (.Call (.Name "super" p0) [] [] p1) "__init__" env (eval (.Call (.Name "super" p0) [] [] p1) env)
      standAt p2.atName
      let (f, first) ← holding [ov] (getMethod ov "__init__" pl)
      callWith p4 f first (backTo p4 (starEach [.Constant (.str txt) k p3] env)) []))
    (hp : (params.posonlyargs ++ params.args).head? = some ar) (har : ar.arg = "self") (hks : scope.names.lookup ("super" : Str) = some .globalImplicit) (hkc : scope.names.lookup ("__class__" : Str) = some .free) (hka : scope.names.lookup ("self" : Str) = some .local) (hkf : scope.names.lookup fld = some .local) (hk : scope.kind = .function)
    (hcell : ∀ x ∈ scope.names, x.2 ≠ .cell) (hco : scope.isCoroutine = false) (hgen : scope.isGenerator = false) (hno : findIn K (.ref C) fld = some none) (hsf : ("self" : Str) ≠ fld) (hdb : (fld == ("__debug__" : Str)) = false) (hsw : ∀ env : Env, swapsWith (.Name fld p8) (some (.Attribute (.Name "self" p6) fld p7)) p9.line env = pure false) :
    FnOk P w K mg base CX (j + 1) f fd ["self", fld] (spX1 C fld) := by
  obtain ⟨qual, kV, doc, pm, ct, oc, an, od, osl, cc, cda, cl, cld, csl, ccl, cdd, vs, ccs, tf, rfl, lk, hcd, hcc, hcda, hvs⟩ := T.fn
  refine ⟨fun vs H Q E h => ?_, fun A outer s H args us vs Q E hr e0 hb r h => ?_⟩
  · obtain ⟨e, v, rfl, _⟩ := h
    rfl
  · obtain ⟨e, v, rfl, hx, hq⟩ := h
    cases r with
    | @cons _ u0 _ ur ra rr =>
    cases rr with
    | @cons _ u1 _ ur rv rr =>
    cases rr
    obtain rfl : u0 = Value.ref e := ra
    have KX : K.In s.heap := e0.mod.kin.keeps fun b o z => (e0.bs b o z).1
    obtain ⟨t1, he⟩ := exo_at e0.hok hx
    have hel := Heap.lt_size he
    refine ks_codeAny_call_defAt (fd := ksFn "__init__" qual params _ scope .none kV doc pm an (.ref cda) ct cc) (body := _) (binds := (["self", fld] : List Str).zip [Value.ref e, u1]) (by have := hr.dp; omega) (KX _ _ lk) rfl (e0.mod.nolimit.keeps fun b o z => (e0.bs b o z).1) (codeRec_of KX hcd) rfl hb hcell (fun x hx => ?_) (fun h0 hns hk0 => ?_) hco hgen hk
    · have : x = (("self" : Str), Value.ref e) ∨ x = (fld, u1) := by simpa using hx
      rcases this with rfl | rfl
      · exact hka
      · exact hkf
    · obtain ⟨hh, gg, dd, tt, oo⟩ := s
      have m1 : ((["self", fld] : List Str).zip [Value.ref e, u1]).reverse.lookup ("self" : Str) = some (.ref e) := by
        show ([(fld, u1), (("self" : Str), Value.ref e)]).lookup ("self" : Str) = some (.ref e)
        have : (("self" : Str) == fld) = false := by simpa using hsf
        simp [List.lookup, this]
      have m2 : ((["self", fld] : List Str).zip [Value.ref e, u1]).reverse.lookup fld = some u1 := by
        show ([(fld, u1), (("self" : Str), Value.ref e)]).lookup fld = some u1
        simp [List.lookup]
      refine run_super (L := hh.objs.size) (e := e) (t0 := t1) (m := fun x => ((["self", fld] : List Str).zip [Value.ref e, u1]).reverse.lookup x) T.ox lk hcc hcda hvs T.su T.ve T.mr T.st T.mgs T.top (KX.keeps hk0) (e0.mod.glob.keeps fun b o z => hk0 _ _ (e0.bs b o z).1) ?_ hns m1 (hk0 _ _ he) hev hp har hks hkc hka hk fun h2 t2 tk k2 e2 z2 => ?_
      · obtain ⟨mb, hmb, hbb⟩ := e0.mod.blt
        exact ⟨mb, hmb.keeps fun b o z => hk0 _ _ (e0.bs b o z).1, hbb⟩
      · have kk : ∀ b o, b ≠ e → hh.get? b = some o → h2.get? b = some o := fun b o hb z => k2 b o hb (hk0 _ _ z)
        have ns2 := ns_keep hns (Ne.symm (Nat.ne_of_lt hel)) k2
        obtain ⟨nm, q, N, bs, bm, sn, sub, ab, col, dd', k0, k1, k2', k3, k5, hC, hbm⟩ := T.ox.cls
        have hcl : clsIn K C = some { name := nm, bases := bs, mro := .ref C :: bm, ns := N, qualname := q, hasDict := true, slotNames := sn, subclasses := sub, abstract := ab, collection := col, hasDel := false } := by unfold clsIn; rw [hC] <;> rfl
        have KC : K.In h2 := fun a o z => by
          refine kk a o (fun y => ?_) (KX a o z)
          subst y
          have y := e0.mod.kin a o z
          have y2 := (e0.bs a o y).2
          rw [hx] at y2
          cases y2
        refine ks_wpAt_execs_cons (ks_wpAt_Assign_Attr (wpAt_of_wpAny (wpAny_Name (wpAny_loadName_local hk hkf ns2 m2 ?_) hdb)) (hsw _))
        refine wpAny_Name (wpAny_loadName_local hk hka ns2 m1 ?_) (by decide)
        refine set_plain KC (ox := HandSPX.excO C t2) (od := none) ⟨e2, rfl, rfl, trivial⟩ T.ox.sa ?_
        refine HandSPX.exc_osa KC e2 hcl (show HandSPX.refsVE (.ref C :: bm) = true from hbm) rfl hno (fun h3 tk3 dx k3 dn dne hx3 hn3 => ?_)
        refine wpAt_of_wpAny (wpAny_execs_nil ?_)
        have nL : hh.objs.size < h0.objs.size := ns_lt hns
        have z5 : hh.objs.size ≤ dx := Nat.le_trans (Nat.le_of_lt nL) (Nat.le_trans z2 dn)
        have hnd : H dx = none := e0.hok.fresh z5
        have kk3 : ∀ b o, b ≠ e → hh.get? b = some o → h3.get? b = some o := fun b o hb z => k3 b o hb (kk b o hb z)
        have nd : ∀ {b : Addr} {o : Obj}, hh.get? b = some o → b ≠ dx := fun {b o} z y => by
          have z6 := Heap.lt_size z
          rw [y] at z6
          exact absurd z6 (Nat.not_lt_of_le z5)
        have na : ∀ {b : Addr}, H b = none → b ≠ e := fun {b} n z => by
          rw [z, hx] at n
          cases n
        refine ⟨.non, _, rfl, e0.bare, un_at hx kk3 ⟨_, hx3⟩ (fun b o z n => by rw [upd_ne (na n), upd_ne (nd z)]; exact n) (fun b xs z => by rw [upd_ne (at_ne hx z exo_tup), upd_ne (ne_of_none z hnd)]; exact z) (fun b o v z => by rw [upd_ne (at_ne hx z exo_frz), upd_ne (ne_of_none z hnd)]; exact z) (fun b ps z => by rw [upd_ne (at_ne hx z exo_tbl), upd_ne (ne_of_none z hnd)]; exact z), fun b o z => ?_, rfl, hq dx hnd dne⟩
        by_cases hb : b = e
        · subst hb
          rw [upd_same] at z
          cases z
          exact exo_ok hx3
        · rw [upd_ne hb] at z
          by_cases hd : b = dx
          · subst hd
            rw [upd_same] at z
            cases z
            exact exd_ok hn3 (relO_put (fs := []) rv fun g => True.intro)
          · rw [upd_ne hd] at z
            exact (e0.hok b o z).stay (fun c v hc y => kk3 c v (by
              rcases hc with hc | hc
              · rw [hc]; exact hb
              · exact at_ne hx hc exo_own) y)
              (fun c hc => by rw [upd_ne (at_ne hx hc exo_own), upd_ne (ne_of_none hc hnd)]; exact hc) (fun c xs hc => by rw [upd_ne (at_ne hx hc exo_tup), upd_ne (ne_of_none hc hnd)]; exact hc)
end
end AM
set_option Elab.async false
set_option linter.all false
set_option maxRecDepth 100000
set_option maxHeartbeats 4000000
namespace AM
open PySem PySem.Spec PyProof.Rows L2 Evl
section
variable {X : Cx} {e : Expr} {es : List Expr} {ta : TA} {p pos : Pos}
theorem mk_endN {pins : List (Addr × Obj)} {σ : L2.St} {H1 H2 : Hp} {Q : XK} {hp hp2 h2 : Heap} {g1 g2 : Array GenState} {d1 d2 : Drawn} {t1 t2 : Nat} {os1 os2 : OsState} {a C : Addr} (T : Raises X (.ref C)) (I1 : Inv X pins σ H1 ⟨hp, g1, d1, t1, os1⟩)
    (ha : hp.objs.size ≤ a) (k : ∀ b o, hp.get? b = some o → hp2.get? b = some o) (un : Un (frs X.stack) [] (upd H1 a (exo a C none)) H2 hp2 h2) (hok : HOk X.prog X.w H2 h2) (ho : os2 = os1) (hb : AllBare g2)
    (ea : H2 a = some (exo a C none)) (q : Q (.ref C) none (del H2 a)) : L2N.MkP X pins σ Q (.ref a) ⟨h2, g2, d2, t2, os2⟩ := by
  obtain ⟨t0, hoe⟩ := exo_at hok ea
  have hn : H1 a = none := I1.hok.fresh ha
  obtain ⟨G, g1', g2'⟩ := restrict h2 fun b => decide (b ≠ a)
  have gk : ∀ b, b ≠ a → G.get? b = h2.get? b := fun b hb => g1' b (decide_eq_true hb)
  have ge : G.get? a = none := g2' a (by simp)
  have nha : ∀ {b : Addr} {o : Obj}, hp.get? b = some o → b ≠ a := fun {b o} z => Nat.ne_of_lt (Nat.lt_of_lt_of_le (Heap.lt_size z) ha)
  have up : ∀ {b : Addr}, b ≠ a → H1 b = none → upd H1 a (exo a C none) b = none := fun {b} hb n => by rw [upd_ne hb]; exact n
  have U : Un (frs X.stack) [] H1 (del H2 a) hp G := {
    keep := fun b o z n hf hx => by
      rw [gk b (nha z)]
      exact un.keep b o (k b o z) (up (nha z) n) hf hx
    slot := fun b o z n hf hx => by
      rw [gk b (nha z)]
      exact un.slot b o (k b o z) (up (nha z) n) hf hx
    free := fun b o z n hx => by
      rw [del_ne (nha z)]
      exact un.free b o (k b o z) (up (nha z) n) hx
    there := fun b o z hx => by
      rw [gk b (nha z)]
      exact un.there b o (k b o z) hx
    tups := fun b xs z => by
      rw [del_ne (ne_of_none z hn)]
      exact un.tups b xs (by rw [upd_ne (ne_of_none z hn)]; exact z)
    frzs := fun b o v z => by
      rw [del_ne (ne_of_none z hn)]
      exact un.frzs b o v (by rw [upd_ne (ne_of_none z hn)]; exact z)
    tbls := fun b ps z => by
      rw [del_ne (ne_of_none z hn)]
      exact un.tbls b ps (by rw [upd_ne (ne_of_none z hn)]; exact z) }
  have hok3 : HOk X.prog X.w (del H2 a) G := fun b o z => by
    have hba : b ≠ a := fun e => by
      rw [e, del_same] at z
      cases z
    rw [del_ne hba] at z
    have noa : ∀ {c : Addr}, H2 c = some (.own b) → c ≠ a := fun {c} hc => at_ne ea hc exo_own
    exact (hok b o z).stay (fun c v hc y => by
        have hca : c ≠ a := by
          rcases hc with hc | hc
          · rw [hc]
            exact hba
          · exact noa hc
        rw [gk c hca]
        exact y)
      (fun c hc => by rw [del_ne (noa hc)]; exact hc) (fun c xs hc => by rw [del_ne (at_ne ea hc exo_tup)]; exact hc)
  have J : Inv X pins σ (del H2 a) ⟨G, g2, d2, t2, os2⟩ := I1.call' (ch := []) ho U hok3 hb (fun b z => absurd z (by simp))
  have kG : ∀ b o, G.get? b = some o → h2.get? b = some o := fun b o z => by
    by_cases hba : b = a
    · rw [hba, ge] at z
      cases z
    · exact (gk b hba).symm.trans z
  exact ⟨a, _, _, ⟨G, g2, d2, t2, os2⟩, _, .ref C, none, rfl, J, kG, ge, hoe, ⟨rfl, rfl, fun vs hv => by cases hv; rfl⟩, rfl, rfl, del_same, rfl, hb, T, q⟩
/-- C() -/
def tMk0 (C : Addr) : L2.St → Hp → XK → Prop := fun σ H Q => Q (.ref C) none H
theorem pmk_oex0 {CX : CXT} {x : Str} {C fI : Addr} {k : Nat} {fd : FuncData} {ps : List Str} (T : OexC X.K C) (iC : PySem.W.findIn X.K (.ref C) "__init__" = some (some (.ref fI))) (tI : PySem.W.typeIn X.K (.ref fI) = some (.type "function"))
    (F1 : FnOk X.prog X.w X.K X.mg X.base CX k fI fd ps (spX0 C)) (hr : Room (k + 1) X.A) (hb : Binds X.K fd ps []) (hx : Passes CX X (fun _ _ _ => False)) (hg : Gl X x) (hm : X.mg x = some (.ref C))
    (hdb : (x == ("__debug__" : Str)) = false := by decide) :
    L2N.PMk X (.Call (.Name x p) [] [] pos) (tMk0 C) := by
  intro pins s σ H Q I h
  obtain ⟨nm, q, N, bs, bm, sn, sub, ab, col, dd, k0, k1, k2, k3, k5, hC, hbm⟩ := T.cls
  refine wpAny_Call_Name_kw (ld_glob I hg hm ?_ hdb)
  refine PySem.W.callWith_K0 I.kIn T.kC ?_
  show wpAny _ _ (call (.ref C) []) _ _ _
  obtain ⟨hp, g, dr, tk, os⟩ := s
  have hsz : hp.objs.size ≤ hp.objs.size + 1 := Nat.le_succ _
  have hn : H (hp.objs.size + 1) = none := I.hok.fresh hsz
  have kk : ∀ b o, hp.get? b = some o → ((hp.push (PySem.W.kdv_tup [])).push (PySem.HandSPX.excO C hp.objs.size)).get? b = some o := fun b o e => Heap.get?_push_of_some _ (Heap.get?_push_of_some _ e)
  have hget : ((hp.push (PySem.W.kdv_tup [])).push (PySem.HandSPX.excO C hp.objs.size)).get? (hp.objs.size + 1) = some (PySem.HandSPX.excO C hp.objs.size) := by heap_get
  have I2 : Inv X pins σ (upd H (hp.objs.size + 1) (exo (hp.objs.size + 1) C none)) ⟨(hp.push (PySem.W.kdv_tup [])).push (PySem.HandSPX.excO C hp.objs.size), g, dr, tk, os⟩ :=
    I.laid (t' := tk) (a := hp.objs.size + 1) (o := exo (hp.objs.size + 1) C none) (h' := (hp.push (PySem.W.kdv_tup [])).push (PySem.HandSPX.excO C hp.objs.size)) kk hsz (exo_ok hget)
  have r2 : Vals [V.ref (hp.objs.size + 1)] [Value.ref (hp.objs.size + 1)] := .cons rfl .nil
  have hq : spX0 C [V.ref (hp.objs.size + 1)] (upd H (hp.objs.size + 1) (exo (hp.objs.size + 1) C none)) (fun v H2 => v = .non ∧ H2 (hp.objs.size + 1) = some (exo (hp.objs.size + 1) C none) ∧ Q (.ref C) none (del H2 (hp.objs.size + 1))) (fun _ _ _ => False) := by
    refine ⟨_, rfl, upd_same, rfl, upd_same, ?_⟩
    have e : del (upd H (hp.objs.size + 1) (exo (hp.objs.size + 1) C none)) (hp.objs.size + 1) = H := by
      funext b
      by_cases hb : b = hp.objs.size + 1
      · rw [hb, del_same, hn]
      · rw [del_ne hb, upd_ne hb]
    rw [e]
    exact h
  have hl : ([Value.ref (hp.objs.size + 1)] ++ [] : List Value).length = ps.length := by
    have e := F1.len _ _ _ _ hq
    exact e
  have bb := hb ⟨(hp.push (PySem.W.kdv_tup [])).push (PySem.HandSPX.excO C hp.objs.size), g, dr, tk, os⟩ [Value.ref (hp.objs.size + 1)] I2.kIn hl
  rw [List.append_nil] at bb
  refine wpAny_call (PySem.HandSPX.call_own F.excBase_ValueError (fun Y => PySem.HandSPX.refsVE_contains Y bm hbm) (I.kIn _ _ hC) (PySem.W.looks_findIn I.kIn iC) (fun self => PySem.W.bind_fn I.kIn self tI) (Nat.zero_le _)
    (codeAny_mono (F1.run _ X.stack _ _ ⟨[Value.ref (hp.objs.size + 1)], []⟩ [Value.ref (hp.objs.size + 1)] _ _ (fun _ _ _ => False) (hr.make C [] []) (I2.env0.make C [] []) bb r2 hq) fun r s' hq' => ?_))
  cases r with
  | error er => exact hx pins σ _ _ er s' I2 hq'
  | ok fl =>
    cases fl with
    | ret u =>
      obtain ⟨v, H2, os2, bare2, un2, hok2, rv, ev, ea, q2⟩ := hq'
      subst ev
      obtain ⟨h2, g2, d2, t2, os'⟩ := s'
      exact ⟨rv, mk_endN (raises_own T.exC T.tyC) I hsz kk un2 hok2 os2 bare2 ea q2⟩
    | next => exact False.elim hq'
    | brk => exact False.elim hq'
    | cont => exact False.elim hq'
/-- C(e, ..) -/
theorem pmk_oex1 {CX : CXT} {x : Str} {C fI : Addr} {k : Nat} {fd : FuncData} {ps : List Str} {sp : Sp} (T : OexC X.K C) (iC : PySem.W.findIn X.K (.ref C) "__init__" = some (some (.ref fI))) (tI : PySem.W.typeIn X.K (.ref fI) = some (.type "function"))
    (F1 : FnOk X.prog X.w X.K X.mg X.base CX k fI fd ps sp) (hr : Room (k + 1) X.A) (hb : Binds X.K fd ps []) (hx : Passes CX X (fun _ _ _ => False)) (hg : Gl X x) (hm : X.mg x = some (.ref C)) (ha : PA X (e :: es) ta)
    (hdb : (x == ("__debug__" : Str)) = false := by decide) (he : starEach (e :: es) X.env = (false, eval e X.env) :: starEach es X.env := by rfl) (hpl : (backTo pos (starEach es X.env)).any (·.1) = false := by rfl) :
    L2N.PMk X (.Call (.Name x p) (e :: es) [] pos) (tMkO C sp [] ta) := by
  intro pins s σ H Q I h
  obtain ⟨nm, q, N, bs, bm, sn, sub, ab, col, dd, k0, k1, k2, k3, k5, hC, hbm⟩ := T.cls
  refine wpAny_Call_Name_kw (ld_glob I hg hm ?_ hdb)
  refine PySem.W.callWith_K (h₀ := X.base) I.ok.mod.kin T.kC (thn (ha.run pos pins s σ H _ I h) fun us s1 ⟨vs, H1, I1, r1, hz, q1⟩ => ⟨I1.kIn, ?_⟩) he hpl
  show wpAny _ _ (call (.ref C) us) _ _ _
  obtain ⟨hp, g, dr, tk, os⟩ := s1
  have hn : H1 (hp.objs.size + 1) = none := I1.hok.fresh (Nat.le_succ _)
  have hq := q1 (hp.objs.size + 1) hn
  rw [List.append_nil] at hq
  have kk : ∀ b o, hp.get? b = some o → ((hp.push (PySem.W.kdv_tup us)).push (PySem.HandSPX.excO C hp.objs.size)).get? b = some o := fun b o e => Heap.get?_push_of_some _ (Heap.get?_push_of_some _ e)
  have I2 : Inv X pins σ (upd H1 (hp.objs.size + 1) (exo (hp.objs.size + 1) C none)) ⟨(hp.push (PySem.W.kdv_tup us)).push (PySem.HandSPX.excO C hp.objs.size), g, dr, tk, os⟩ :=
    I1.laid (t' := tk) (a := hp.objs.size + 1) (o := exo (hp.objs.size + 1) C none) (h' := (hp.push (PySem.W.kdv_tup us)).push (PySem.HandSPX.excO C hp.objs.size)) kk (Nat.le_succ _) (exo_ok (by heap_get))
  have r2 : Vals (V.ref (hp.objs.size + 1) :: vs) (Value.ref (hp.objs.size + 1) :: us) := .cons rfl r1
  have hl : (Value.ref (hp.objs.size + 1) :: us ++ []).length = ps.length := by
    rw [List.append_nil, ← r2.length]
    exact F1.len _ _ _ _ hq
  have hus : us.length ≤ sizeLine := by rw [← Paired.length r1, sizeLine_eq]; omega
  have b2 := hb _ (Value.ref (hp.objs.size + 1) :: us) I2.kIn hl
  rw [List.append_nil] at b2
  refine wpAny_call (PySem.HandSPX.call_own F.excBase_ValueError (fun Y => PySem.HandSPX.refsVE_contains Y bm hbm) (I1.kIn _ _ hC) (PySem.W.looks_findIn I1.kIn iC) (fun self => PySem.W.bind_fn I1.kIn self tI) hus
    (codeAny_mono (F1.run _ X.stack _ _ ⟨Value.ref (hp.objs.size + 1) :: us, []⟩ (Value.ref (hp.objs.size + 1) :: us) _ _ (fun _ _ _ => False) (hr.make C us []) (I2.env0.make C us []) b2 r2 hq) fun r s' hq' => ?_))
  cases r with
  | error er => exact hx pins σ _ _ er s' I2 hq'
  | ok fl =>
    cases fl with
    | ret u =>
      obtain ⟨v, H2, os2, bare2, un2, hok2, rv, ev, d, fs, ea, ed, hd1, q2⟩ := hq'
      subst ev
      obtain ⟨h2, g2, d2, t2, os'⟩ := s'
      obtain ⟨t0, G, J, kG, ge, hoe, na⟩ := mk_end0 (d2 := d2) (t2 := t2) I1 (Nat.le_succ _) kk un2 hok2 os2 bare2 ea ed hd1
      exact ⟨rv, hp.objs.size + 1, _, _, ⟨G, g2, d2, t2, os'⟩, _, .ref C, some d, rfl, J, kG, ge, hoe, ⟨rfl, rfl, fun vs hv => by cases hv; rfl⟩, rfl, rfl, na, rfl, bare2, raises_own T.exC T.tyC, q2⟩
    | _ => exact False.elim hq'
end
/-! ### raise, by data -/
def sRaise0 (c : Str) : AS := fun env st k => k.er ⟨c, none⟩ env st
def sRaise1 (c f : Str) (a : AE) : AS := fun env st k => a env st (fun d s1 => k.er ⟨c, some (f, d)⟩ env s1) (fun e s1 => k.er e env s1)
section
variable {X : Cx} {W : WX} {k j : Nat} {e : Expr} {ae : AE} {c fld : Str} {fI : Addr} {fd : FuncData} {p pos pos' : Pos}
theorem axs_raise0 (C : CxS X W (k + 1)) (T : OexC X.K (He.ga X.K c)) (iC : PySem.W.findIn X.K (.ref (He.ga X.K c)) "__init__" = some (some (.ref fI))) (tI : PySem.W.typeIn X.K (.ref fI) = some (.type "function"))
    (F1 : FnOk X.prog X.w X.K X.mg X.base CX0 k fI fd ["self"] (spX0 (He.ga X.K c))) (hb : Binds X.K fd ["self"] []) (hm : X.mg c = some (.ref (He.ga X.K c))) (hg : Gl X c := by rfl) (hdb : (c == ("__debug__" : Str)) = false := by decide) :
    AXS X W (.Raise (some (.Call (.Name c p) [] [] pos)) none pos') (sRaise0 c) :=
  ⟨_, L2N.ps_raise C.calm C.takes (pmk_oex0 T iC tI F1 C.room hb pass0 hg hm hdb), fun G env st σ H D k s l h t => t.er ⟨c, none⟩ _ _ env σ st G H Post.refl s l ⟨rfl, rfl⟩ h⟩
theorem axs_raise1 (C : CxS X W (k + 1)) (T : OexC X.K (He.ga X.K c)) (iC : PySem.W.findIn X.K (.ref (He.ga X.K c)) "__init__" = some (some (.ref fI))) (tI : PySem.W.typeIn X.K (.ref fI) = some (.type "function"))
    (F1 : FnOk X.prog X.w X.K X.mg X.base CX0 k fI fd ["self", fld] (spX1 (He.ga X.K c) fld)) (hb : Binds X.K fd ["self", fld] []) (hm : X.mg c = some (.ref (He.ga X.K c))) (ha : AX X W e ae) (hg : Gl X c := by rfl) (hdb : (c == ("__debug__" : Str)) = false := by decide)
    (hs : starEach [e] X.env = (false, eval e X.env) :: starEach [] X.env := by rfl) :
    AXS X W (.Raise (some (.Call (.Name c p) [e] [] pos)) none pos') (sRaise1 c fld ae) := by
  obtain ⟨ta, pa, ra⟩ := ha
  refine ⟨_, L2N.ps_raise C.calm C.takes (pmk_oex1 T iC tI F1 C.room hb pass0 hg hm (pa_cons pa pa_nil hs) hdb hs rfl), fun G env st σ H D k s l h t => ?_⟩
  refine ra G env st σ H _ _ _ s l h (fun v d st1 G1 H1 p1 s1 r1 h1 => ?_) (t.x l)
  refine ⟨by show 1 ≤ 1000; decide, fun a hna => ⟨a, v, rfl, upd_same, fun dx hdx ne => ⟨rfl, dx, [(fld, v)], upd_same, ?_, ?_, ?_⟩⟩⟩
  · rw [upd_ne ne, upd_same]
  · rw [upd_ne ne] at hdx; exact hdx
  · have hdx1 : H1 dx = none := by rw [upd_ne ne] at hdx; exact hdx
    have e : upd (del (upd (upd (upd H1 a (exo a (He.ga X.K c) none)) dx (exd dx [(fld, v)])) a (exo a (He.ga X.K c) (some dx))) a) dx (.xd [(fld, v)]) = upd H1 dx (.xd [(fld, v)]) := by
      funext b
      by_cases hb : b = dx
      · rw [hb, upd_same, upd_same]
      · rw [upd_ne hb, upd_ne hb]
        by_cases hba : b = a
        · rw [hba, del_same, hna]
        · rw [del_ne hba, upd_ne hba, upd_ne hb, upd_ne hba]
    rw [e]
    obtain ⟨s2, p2⟩ := s1.new (o := .xd [(fld, v)]) hdx1
    exact t.er ⟨c, some (fld, d)⟩ _ _ env σ st1 _ _ (p1.trans p2) s2 (l.mono (p1.trans p2).le) ⟨rfl, dx, v, rfl, upd_same, r1.mono p2.le⟩ h1
end
end AM
set_option Elab.async false
set_option linter.all false
set_option maxRecDepth 100000
set_option maxHeartbeats 4000000
namespace AM
open PySem PySem.Spec L2 Evl
/-! ### try: body, except h as n: suite -/
/-- what an error of the body meets: xm tells which classes the clause takes -/
def erAs (xm : Str → Option Bool) (i : Nat) (su : Addr → Value → Option Addr → AS) (k : AK) : Er → List A → S → Prop := fun e env st => ∃ b, xm e.cls = some b ∧
  (b = true → ∀ a c dx, su a c dx (env.set i (.exc a c dx e)) st { nx := fun env' s => k.nx (env'.set i .no) s, rt := k.rt, bk := fun env' s => k.bk (env'.set i .no) s, ct := fun env' s => k.ct (env'.set i .no) s, er := fun _ _ _ => False }) ∧
  (b = false → k.er e env st)
def sTryAs (xm : Str → Option Bool) (i : Nat) (b : AS) (su : Addr → Value → Option Addr → AS) : AS := fun env st k => b env st { k with er := erAs xm i su k }
/-- clauses without names -/
def erOnly : List ((Str → Option Bool) × AS) → AK → Er → List A → S → Prop
  | [], k, e, env, st => k.er e env st
  | (xm, su) :: r, k, e, env, st => ∃ b, xm e.cls = some b ∧ (b = true → su env st { k with er := fun _ _ _ => False }) ∧ (b = false → erOnly r k e env st)
def sTryOnly (b : AS) (cs : List ((Str → Option Bool) × AS)) : AS := fun env st k => b env st { k with er := erOnly cs k }
/-- the field of a caught error -/
def aXf (a : Addr) (c : Value) (dx : Option Addr) (cn : Str) (i : Nat) (f : Str) : AE := fun env st q _ => match env[i]? with
  | some (.exc a' c' dx' e) => a' = a ∧ c' = c ∧ dx' = dx ∧ e.cls = cn ∧ ∃ x, e.fld = some (f, x) ∧ q x st
  | _ => False
section
variable {X : Cx} {W : WX} {k : Nat} {x n cn f : Str} {i : Nat} {body suite : List Stmt} {b0 : Stmt} {np pos pos' : Pos} {ab : AS} {xm : Str → Option Bool}
theorem CxS.tr (C : CxS X W k) {W' : WX} {pn : List (Addr × Obj)} {xe : Value → Shared → Prop} (tk : L2N.Takes (X.tr pn xe) W') (po : PassesOwn (model X.prog X.w) X.A X.env xe) : CxS (X.tr pn xe) W' k := ⟨⟨C.calm, C.nd, C.room, tk⟩, po, C.stk, C.frm⟩
theorem axs_tryAs {su : Addr → Value → Option Addr → AS} (C : CxS X W k) (hm : X.mg x = some (.ref (He.ga X.K x))) (hx : ∀ c b, xm c = some b → PySem.W.exmOne X.K (.ref (He.ga X.K c)) (.ref (He.ga X.K x)) = some b)
    (hb : ∀ (W' : WX) (pn : List (Addr × Obj)) (xe : Value → Shared → Prop), CxS (X.tr pn xe) W' k → AXB (X.tr pn xe) W' body ab)
    (hs : ∀ (a : Addr) (oe : Obj) (cls : Value) (d : Option Addr) (pn : List (Addr × Obj)), L2N.Zn cls d oe → (∃ vs, oe.data = .fields vs) → AXB (X.suite a ((a, oe) :: pn)) W0 (b0 :: suite) (su a cls d))
    (hi : X.N[i]? = some n := by rfl) (hln : X.env.kindOf n = some .local := by rfl) (hg : Gl X x := by rfl) (hdb : (x == ("__debug__" : Str)) = false := by decide) :
    AXS X W (.Try body [.ExceptHandler (some (.Name x np)) (some n) (b0 :: suite) pos'] [] [] pos) (sTryAs xm i ab su) := by
  refine ⟨_, L2N.ps_try_as (tb := fun W' => rdS X.K W' ab) (ts := fun a cls d => rdS X.K W0 (su a cls d)) C.stk C.frm C.nd hi hln ⟨hg, hdb, .inl hm⟩ C.takes (fun W' pn xe tk po => (hb W' pn xe (C.tr tk po)).ps) (fun a oe cls d pn hz hf => (hs a oe cls d pn hz hf).ps), fun G env st σ H D kk s l h t => ?_⟩
  refine ⟨G, env, st, _, s, l, h, ⟨t.nx, t.rt, t.bk, t.ct, fun e c dx env' σ' st2 G2 H2 p2 s2 l2 ea he => ?_⟩⟩
  obtain ⟨b, hb1, h1, h2⟩ := he
  refine ⟨b, ?_, fun hbt a ha => ?_, fun hbf => t.er e c dx env' σ' st2 G2 H2 p2 s2 l2 ea (h2 hbf)⟩
  · obtain ⟨rfl, _⟩ := ea
    exact hx _ _ hb1
  · refine ⟨G2, _, st2, _, s2, l2.put i (x := .exc a c dx e) (v := some (.ref a)) ⟨rfl, ea⟩, h1 hbt a c dx, ?_⟩
    exact ⟨fun env4 σ4 st4 G4 H4 p4 s4 l4 h4 => t.nx _ _ st4 G4 H4 (p2.trans p4) s4 (l4.drop i none) h4, (t.on p2).rt,
      fun env4 σ4 st4 G4 H4 p4 s4 l4 h4 => t.bk _ _ st4 G4 H4 (p2.trans p4) s4 (l4.drop i none) h4, fun env4 σ4 st4 G4 H4 p4 s4 l4 h4 => t.ct _ _ st4 G4 H4 (p2.trans p4) s4 (l4.drop i none) h4, fun _ _ _ _ _ _ _ _ _ _ _ _ z => z.elim⟩
/-- the clauses of a try, one by one: which classes each takes, what it does -/
def AXHs (X : Cx) (hds : List ExceptHandler) (cs : List ((Str → Option Bool) × AS)) : Prop := ∃ l, L2N.HdsOk X hds l ∧ ∀ (W : WX) (G : Gh) (H : Hp) (kk : AK) (D : Ends), ThenS X.K W G H kk D → ∀ e c dx env σ st, SS X.K G st H → Sl X.K G env σ → ErAt X.K G e c dx → erOnly cs kk e env st → wMany X.K W D l c dx σ H
theorem axh_nil : AXHs X [] [] := ⟨[], .nil, fun W G H kk D t e c dx env σ st s l ea h => t.er e c dx env σ st G H Post.refl s l ea h⟩
theorem axh_cons {hds : List ExceptHandler} {cs : List ((Str → Option Bool) × AS)} {su : AS} (hm : X.mg x = some (.ref (He.ga X.K x))) (hx : ∀ c b, xm c = some b → PySem.W.exmOne X.K (.ref (He.ga X.K c)) (.ref (He.ga X.K x)) = some b)
    (hs : ∀ (a : Addr) (oe : Obj) (cls : Value) (d : Option Addr) (pn : List (Addr × Obj)), L2N.Zn cls d oe → (∃ vs, oe.data = .fields vs) → AXB (X.suite a ((a, oe) :: pn)) W0 (b0 :: suite) su) (hr : AXHs X hds cs)
    (hg : Gl X x := by rfl) (hdb : (x == ("__debug__" : Str)) = false := by decide) : AXHs X (.ExceptHandler (some (.Name x np)) none (b0 :: suite) pos' :: hds) ((xm, su) :: cs) := by
  obtain ⟨l, hl, hh⟩ := hr
  refine ⟨_, .cons (ts := fun a cls d => rdS X.K W0 su) ⟨hg, hdb, .inl hm⟩ (fun a oe cls d pn hz hf => (hs a oe cls d pn hz hf).ps) hl, fun W G H kk D t e c dx env σ st s sl ea h => ?_⟩
  obtain ⟨b, hb1, h1, h2⟩ := h
  refine ⟨b, ?_, fun hbt a ha => ?_, fun hbf => hh W G H kk D t e c dx env σ st s sl ea (h2 hbf)⟩
  · obtain ⟨rfl, _⟩ := ea
    exact hx _ _ hb1
  · exact ⟨G, _, st, _, s, sl, h1 hbt, ⟨t.nx, t.rt, t.bk, t.ct, fun _ _ _ _ _ _ _ _ _ _ _ _ z => z.elim⟩⟩
theorem axs_tryOnly {h0 : ExceptHandler} {hds : List ExceptHandler} {cs : List ((Str → Option Bool) × AS)} (C : CxS X W k)
    (hb : ∀ (W' : WX) (pn : List (Addr × Obj)) (xe : Value → Shared → Prop), CxS (X.tr pn xe) W' k → AXB (X.tr pn xe) W' body ab) (hh : AXHs X (h0 :: hds) cs) :
    AXS X W (.Try body (h0 :: hds) [] [] pos) (sTryOnly ab cs) := by
  obtain ⟨l, hl, hh⟩ := hh
  refine ⟨_, L2N.ps_try_many (tb := fun W' => rdS X.K W' ab) C.stk C.frm C.takes (fun W' pn xe tk po => (hb W' pn xe (C.tr tk po)).ps) hl, fun G env st σ H D kk s sl h t => ?_⟩
  exact ⟨G, env, st, _, s, sl, h, ⟨t.nx, t.rt, t.bk, t.ct, fun e c dx env' σ' st2 G2 H2 p2 s2 l2 ea he => hh W G2 H2 kk D (t.on p2) e c dx env' σ' st2 s2 l2 ea he⟩⟩
theorem ax_xf {a : Addr} {oe : Obj} {cls : Value} {d : Option Addr} {pn : List (Addr × Obj)} {y : Str} (T : XfC X.K (He.ga X.K cn)) (hno : PySem.W.findIn X.K (.ref (He.ga X.K cn)) f = some none) (hz : L2N.Zn cls d oe) (hf : ∃ vs, oe.data = .fields vs)
    (hN : X.N[i]? = some y := by rfl) (hv : Vis X.env.scope y := by first | exact Or.inl rfl | exact Or.inr (Or.inl rfl)) (hd : (y == ("__debug__" : Str)) = false := by decide) (hcd : (y == ("__classdict__" : Str)) = false := by decide)
    (hb : attributeBase (.Name y np) f X.env (eval (.Name y np) X.env) = eval (.Name y np) X.env := by rfl) : AX (X.suite a ((a, oe) :: pn)) W0 (.Attribute (.Name y np) f pos) (aXf a cls d cn i f) := by
  refine ⟨_, pe_xf T hno hz.zc hf (pe_var (X := X.suite a ((a, oe) :: pn)) (i := i) hN hv hd hcd) hb, fun G env st σ H Q q er s l h tE tX => ?_⟩
  unfold aXf at h
  split at h
  · rename_i a' c' dx' e ee
    obtain ⟨rfl, rfl, rfl, hcn, x, hx, h⟩ := h
    obtain ⟨e1, e2, e3⟩ := l.slot i _ ee
    rw [hx] at e3
    obtain ⟨dd, v, h1, h2, h3⟩ := e3
    refine ⟨.ref a', e1, rfl, by rw [e2, hcn], dd, _, v, h1, s.ex _ _ h2, ?_, tE v x st G H Post.refl s h3 h⟩
    simp [List.lookup]
  · exact h.elim
end
end AM
set_option Elab.async false
set_option linter.all false
set_option maxRecDepth 100000
set_option maxHeartbeats 4000000
namespace AM
open PySem PySem.Spec L2 Evl
/-! ### cells are changed -/
section
variable {K : PySem.W.Frag} {W : WX}
/-- x.append(e) -/
def aApp (o a : AE) : AE := fun env st q er => o env st (fun x s1 => ∃ n l, x = .ref n ∧ s1[n]? = some (.lst l) ∧ a env s1 (fun y s2 => ∃ l, s2[n]? = some (.lst l) ∧ l.length < 100000 ∧ q .non (s2.set n (.lst (l ++ [y])))) er) er
theorem refE_app {to te : TE} {ao ae : AE} (ho : RefE K W to ao) (he : RefE K W te ae) : RefE K W (tBM K "list" rAppend to (tCons te tNil)) (aApp ao ae) := fun G env st σ H Q q er s l h tE tX => by
  refine ho G env st σ H _ _ er s l h (fun v d st1 G1 H1 p1 s1 r1 h1 => ?_) tX
  obtain ⟨n, ls, rfl, hn, h1⟩ := h1
  cases r1 with
  | ref ep =>
    rename_i p
    obtain ⟨vs, gp, hp, rs⟩ := s1.cell n _ p hn ep
    refine ⟨Or.inl ⟨rfl, _, Or.inl (Or.inl hp)⟩, he G1 env st1 σ H1 _ _ er s1 (l.mono p1.le) h1 (fun w d st2 G2 H2 p2 s2 r2 h2 => ?_) (tX.on p1)⟩
    obtain ⟨ls2, hn2, hl, h2⟩ := h2
    obtain ⟨vs2, gp2, hp2, rs2⟩ := s2.cell n _ p hn2 (pre_get p2.le.a ep)
    obtain ⟨s3, p3⟩ := s2.setCell (n := n) (c' := .lst (ls2 ++ [d])) (o := .lst (vs2 ++ [w])) (pre_get p2.le.a ep) gp2 ⟨_, gp2, upd_same, rs2.append (.one r2)⟩
    exact ⟨p, vs2, w, rfl, rfl, hp2, sz_lt (by rw [← rs2.length]; exact hl), tE .non .non _ G2 _ ((p1.trans p2).trans p3) s3 .non h2⟩
/-- x[i] = e: the value first -/
def sSetIx (o b a : AE) : AS := fun env st k => a env st (fun d s1 => o env s1 (fun x s2 => b env s2 (fun j s3 => match x, j with
  | .ref n, .int i => ∃ l j, s3[n]? = some (.lst l) ∧ ixN l.length i = some j ∧ k.nx env (s3.set n (.lst (l.set j d)))
  | _, _ => False) (fun e s => k.er e env s)) (fun e s => k.er e env s)) (fun e s => k.er e env s)
theorem refS_setIx {ta to tb : TE} {aa ao ab : AE} (ha : RefE K W ta aa) (ho : RefE K W to ao) (hb : RefE K W tb ab) : RefS K W (tAsg ta (gSub to tb rSetL)) (sSetIx ao ab aa) := fun G env st σ H D k s l h t => by
  refine ha G env st σ H _ _ _ s l h (fun v d st1 G1 H1 p1 s1 r1 h1 => ?_) (t.x l)
  refine ho G1 env st1 σ H1 _ _ _ s1 (l.mono p1.le) h1 (fun w x st2 G2 H2 p2 s2 r2 h2 => ?_) ((t.x l).on p1)
  refine hb G2 env st2 σ H2 _ _ _ s2 (l.mono (p1.trans p2).le) h2 (fun u j st3 G3 H3 p3 s3 r3 h3 => ?_) ((t.x l).on (p1.trans p2))
  split at h3
  · rename_i n i
    obtain ⟨ls, j, hn, hj, h3⟩ := h3
    cases r2 with
    | ref ep =>
      rename_i p
      cases r3
      have ep3 := pre_get p3.le.a ep
      obtain ⟨vs, gp, hp, rs⟩ := s3.cell n _ p hn ep3
      obtain ⟨s4, p4⟩ := s3.setCell (n := n) (c' := .lst (ls.set j d)) (o := .lst (vs.set j v)) ep3 gp ⟨_, gp, upd_same, rs.set (r1.mono (p2.trans p3).le) j⟩
      exact ⟨p, vs, i, j, rfl, rfl, hp, by rw [← rs.length]; exact hj, t.nx env σ _ G3 _ (((p1.trans p2).trans p3).trans p4) s4 (l.mono (((p1.trans p2).trans p3).trans p4).le) h3⟩
  · exact h3.elim
/-- list(e), fresh -/
def fList (a : AE) : AFr := fun env st q er => a env st (fun d s1 => ∃ l, itemsD (vw s1 d) = some l ∧ q l s1) er
end
section
variable {X : Cx} {W : WX} {k : Nat} {o e a b : Expr} {ao ae ab aa : AE} {p pos apos spos : Pos} {x : Str}
theorem ax_app (ho : AX X W o ao) (he : AX X W e ae) (hbase : attributeBase o "append" X.env (eval o X.env) = eval o X.env := by rfl)
    (hfew : ((backTo pos (starEach [e] X.env)).all (fun x => !x.1) && (backToKw pos (keywordEach [] X.env)).all (fun x => x.1.isSome) && decide (([e] : List Expr).length + ([] : List Keyword).length + (if ([] : List Keyword).isEmpty then 0 else 1) < 30)) = true := by rfl)
    (hline : (apos.endLine == pos.line) = true := by rfl) (hs : starEach [e] X.env = (false, eval e X.env) :: starEach [] X.env := by rfl) : AX X W (.Call (.Attribute o "append" apos) [e] [] pos) (aApp ao ae) := by
  obtain ⟨to, po, ro⟩ := ho
  obtain ⟨te, pe, re⟩ := he
  exact ⟨_, pe_bm PySem.F.plainAttrs_list PySem.F.slot_list_append PySem.F.type_list_append mt_append po (pa_cons pe pa_nil hs) hbase hfew hline hs rfl, refE_app ro re⟩
theorem axs_setIx (ha : AX X W a aa) (ho : AX X W o ao) (hb : AX X W b ab)
    (hg : ∀ v, assign (.Subscript o b spos) X.env v = (do
      let ov ← holding [v] (eval o X.env)
      let iv ← holding [v, ov] (eval b X.env)
      standAt spos
      holding [v, ov, iv] (setItem ov iv v)
      release [v, ov, iv] []) := by intro _; rfl)
    (hs : swapsWithSole [.Subscript o b spos] a pos.line X.env = pure false := by rfl) (hw : swappedStores [.Subscript o b spos] a X.env = pure none := by rfl) (h1 : (assignEach [.Subscript o b spos] X.env).map (·.2) = [assign (.Subscript o b spos) X.env] := by rfl) :
    AXS X W (.Assign [.Subscript o b spos] a pos) (sSetIx ao ab aa) := by
  obtain ⟨ta, pa, ra⟩ := ha
  obtain ⟨to, po, ro⟩ := ho
  obtain ⟨tb, pb, rb⟩ := hb
  exact ⟨_, ps_asg pa (pg_sub po pb set_list hg) hs hw h1, refS_setIx ra ro rb⟩
theorem axf_list (hm : X.mg "list" = none) (ha : AX X W e ae) (hg : Gl X "list" := by rfl) (he : starEach [e] X.env = (false, eval e X.env) :: starEach [] X.env := by rfl) (hpl : (backTo pos (starEach [] X.env)).any (·.1) = false := by rfl) : AXF X W (.Call (.Name "list" p) [e] [] pos) (fList ae) := by
  obtain ⟨ta, pa, ra⟩ := ha
  refine ⟨_, pe_callTy call_list_of hg hm (by decide +kernel) (pa_cons pa pa_nil he) (by decide) (by decide) he hpl, fun G env st σ H Q q er s sl h tF tX => ra G env st σ H _ _ er s sl h (fun v d st1 G1 H1 p1 s1 r1 h1 => ?_) tX⟩
  obtain ⟨l, hl, h1⟩ := h1
  have fin : ∀ {vs : List V}, Reps X.K G1 l vs → ∀ ad, H1 ad = none → Q (.ref ad) (upd H1 ad (.lst vs)) := fun {vs} rs ad hn => by
    obtain ⟨s2, p2, n2, g2⟩ := s1.room (o := .lst vs) hn
    exact tF _ l st1 G1 _ (p1.trans p2) s2 (ResOk.on p1 ⟨ad, vs, rfl, upd_same, g2, n2, hn, rs⟩) h1
  have rv := r1.vw s1
  generalize vw st1 d = d' at hl rv
  cases rv with
  | lst h1 rs => cases hl; exact ⟨_, _, rfl, .inl (SqL.of h1), fin rs⟩
  | tup h1 rs _ => cases hl; exact ⟨_, _, rfl, .inr (SqT.of h1), fin rs⟩
  | _ => cases hl
end
/-! ### a cell's list is frozen, ahead of a piece -/
def sFrz (i : Nat) (a : AS) : AS := fun env st k => ∃ n l, env[i]? = some (.d (.ref n)) ∧ st[n]? = some (.lst l) ∧ a (env.set i (.d (.lst l))) (st.set n .dead) k
theorem refS_frz {K : PySem.W.Frag} {W : WX} {ts : TS} {as : AS} (i : Nat) (h : RefS K W ts as) : RefS K W ts (sFrz i as) := fun G env st σ H D k s l a t => by
  obtain ⟨n, ls, ei, hn, a⟩ := a
  obtain ⟨u, eu, r⟩ := l.slot i _ ei
  cases r with
  | ref ep =>
    obtain ⟨vs, gp, hp, rs⟩ := s.cell n _ _ hn ep
    obtain ⟨s2, p2⟩ := s.freezeCell ep gp hp
    refine h _ _ _ σ H D k s2 ?_ a (t.on p2)
    refine ⟨by rw [List.length_set]; exact l.len, fun j x e => ?_⟩
    rcases get_set e with ⟨rfl, rfl, _⟩ | ⟨hj, e⟩
    · exact ⟨_, eu, .lst upd_same (rs.mono p2.le)⟩
    · exact (l.slot j x e).mono p2.le
theorem axs_frz {X : Cx} {W : WX} {st : Stmt} {as : AS} (i : Nat) (h : AXS X W st as) : AXS X W st (sFrz i as) := by
  obtain ⟨t, p, r⟩ := h
  exact ⟨_, p, refS_frz i r⟩
/-- a slot is forgotten, ahead of a piece -/
def sForget (i : Nat) (a : AS) : AS := fun env st k => a (env.set i .no) st k
theorem axs_forget {X : Cx} {W : WX} {st : Stmt} {as : AS} (i : Nat) (h : AXS X W st as) : AXS X W st (sForget i as) := by
  obtain ⟨t, p, r⟩ := h
  refine ⟨_, p, fun G env st σ H D k s l a t => r G _ st σ H D k s ⟨by rw [List.length_set]; exact l.len, fun j x e => ?_⟩ a t⟩
  rcases get_set e with ⟨rfl, rfl, _⟩ | ⟨hj, e⟩
  · trivial
  · exact l.slot j x e
/-! ### the pool -/
theorem ax_listScr {X : Cx} {W : WX} {p p' pos : Pos} {x : Str} (i : Nat) (hm : X.mg "list" = none) (hN : X.N[i]? = some x := by rfl) (hv : Vis X.env.scope x := by first | exact Or.inl rfl | exact Or.inr (Or.inl rfl)) (hd : (x == ("__debug__" : Str)) = false := by decide) (hcd : (x == ("__classdict__" : Str)) = false := by decide)
    (hg : Gl X "list" := by rfl) (he : starEach [.Name x p'] X.env = (false, eval (.Name x p') X.env) :: starEach [] X.env := by rfl) (hpl : (backTo pos (starEach [] X.env)).any (·.1) = false := by rfl) :
    AX X W (.Call (.Name "list" p) [.Name x p'] [] pos) (fun env st q _ => ∃ ns, env[i]? = some (.d (.scr ns)) ∧ q (.lst (ns.map .int)) st) := by
  refine ⟨_, pe_callTy call_list_of hg hm (by decide +kernel) (pa_cons (pe_var (i := i) hN hv hd hcd) pa_nil he) (by decide) (by decide) he hpl, fun G env st σ H Q q er s sl h tF tX => ?_⟩
  obtain ⟨ns, e, h⟩ := h
  obtain ⟨u, eu, r⟩ := sl.slot i _ e
  cases r with
  | scr hs hl =>
    refine ⟨_, eu, _, _, rfl, .inl (ex_l s.ex hs), fun ad hn => ?_⟩
    obtain ⟨s2, p2⟩ := s.new (o := .lst (ns.map V.int)) hn
    exact tF _ _ st _ _ p2 s2 (.lst upd_same (Reps.ints ns)) h
def aPoolIx (i c : Nat) : AE := fun env st q _ => ∃ n m ns, env[i]? = some (.d (.ref n)) ∧ st[n]? = some (.pool m ns) ∧ match c with
  | 0 => ∀ a : Int, 0 ≤ a → a ≤ m → q (.int a) st
  | 1 => ∀ l : Int, 0 ≤ l → q (.int l) st
  | _ => ns.length ≤ 63 → q (.lst (ns.map .int)) st
theorem ax_poolIx {X : Cx} {W : WX} {c : Nat} {kk : Nat} {p p' pos : Pos} {x : Str} (i : Nat) (hc : c < 3 := by decide) (hN : X.N[i]? = some x := by rfl) (hv : Vis X.env.scope x := by first | exact Or.inl rfl | exact Or.inr (Or.inl rfl)) (hd : (x == ("__debug__" : Str)) = false := by decide) (hcd : (x == ("__classdict__" : Str)) = false := by decide) :
    AX X W (.Subscript (.Name x p) (.Constant (.int (c : Int)) kk p') pos) (aPoolIx i c) := by
  refine ⟨_, pe_ix ix_list (pe_var (i := i) hN hv hd hcd) pe_int (fun _ _ => rfl), fun G env st σ H Q q er s sl h tE tX => ?_⟩
  obtain ⟨n, m, ns, e, hn, h⟩ := h
  obtain ⟨u, eu, r⟩ := sl.slot i _ e
  cases r with
  | ref ep =>
    rename_i a
    obtain ⟨ga, at_, lf, qa, hp, h1, h2, h3, h4, h5⟩ := s.cell n _ a hn ep
    refine ⟨.ref a, eu, ?_⟩
    match c, hc, h with
    | 0, _, h => exact ⟨a, _, 0, .int at_, rfl, rfl, SqL.of hp, rfl, tE _ _ st G H Post.refl s (.int _) (h at_ h1 h2)⟩
    | 1, _, h => exact ⟨a, _, 1, .int lf, rfl, rfl, SqL.of hp, rfl, tE _ _ st G H Post.refl s (.int _) (h lf h3)⟩
    | 2, _, h => exact ⟨a, _, 2, .ref qa, rfl, rfl, SqL.of hp, rfl, tE _ _ st G H Post.refl s (.lst h4 (Reps.ints _)) (h h5)⟩
def sPoolSet (i : Nat) (c : Nat) (a : AE) : AS := fun env st k => a env st (fun d s1 => ∃ n m ns v, env[i]? = some (.d (.ref n)) ∧ s1[n]? = some (.pool m ns) ∧ d = .int v ∧ 0 ≤ v ∧ match c with
  | 0 => k.nx env (s1.set n (.pool (max m v.toNat) ns))
  | _ => k.nx env (s1.set n (.pool m ns))) (fun e s => k.er e env s)
theorem axs_poolSet {X : Cx} {W : WX} {c : Nat} {kk : Nat} {p p' pos spos : Pos} {x : Str} {a : Expr} {ae : AE} (i : Nat) (ha : AX X W a ae) (hc : c < 2 := by decide) (hN : X.N[i]? = some x := by rfl) (hv : Vis X.env.scope x := by first | exact Or.inl rfl | exact Or.inr (Or.inl rfl)) (hd : (x == ("__debug__" : Str)) = false := by decide) (hcd : (x == ("__classdict__" : Str)) = false := by decide)
    (hg : ∀ v, assign (.Subscript (.Name x p) (.Constant (.int (c : Int)) kk p') spos) X.env v = (do
      let ov ← holding [v] (eval (.Name x p) X.env)
      let iv ← holding [v, ov] (eval (.Constant (.int (c : Int)) kk p') X.env)
      standAt spos
      holding [v, ov, iv] (setItem ov iv v)
      release [v, ov, iv] []) := by intro _; rfl)
    (hs : swapsWithSole [.Subscript (.Name x p) (.Constant (.int (c : Int)) kk p') spos] a pos.line X.env = pure false := by rfl) (hw : swappedStores [.Subscript (.Name x p) (.Constant (.int (c : Int)) kk p') spos] a X.env = pure none := by rfl) (h1 : (assignEach [.Subscript (.Name x p) (.Constant (.int (c : Int)) kk p') spos] X.env).map (·.2) = [assign (.Subscript (.Name x p) (.Constant (.int (c : Int)) kk p') spos) X.env] := by rfl) :
    AXS X W (.Assign [.Subscript (.Name x p) (.Constant (.int (c : Int)) kk p') spos] a pos) (sPoolSet i c ae) := by
  obtain ⟨ta, pa, ra⟩ := ha
  refine ⟨_, ps_asg pa (pg_sub (pe_var (i := i) hN hv hd hcd) pe_int set_list hg) hs hw h1, fun G env st σ H D k s l h t => ?_⟩
  refine ra G env st σ H _ _ _ s l h (fun v d st1 G1 H1 p1 s1 r1 h1 => ?_) (t.x l)
  obtain ⟨n, m, ns, w, e, hn, rfl, h0, h1⟩ := h1
  cases r1
  obtain ⟨u, eu, r⟩ := (l.mono p1.le).slot i _ e
  cases r with
  | ref ep =>
    rename_i ad
    obtain ⟨ga, at_, lf, qa, hp, g1, g2, g3, g4, g5⟩ := s1.cell n _ ad hn ep
    refine ⟨.ref ad, eu, ad, _, (c : Int), c, rfl, rfl, hp, ?_, ?_⟩
    · match c, hc with
      | 0, _ => rfl
      | 1, _ => rfl
    · match c, hc, h1 with
      | 0, _, h1 =>
        obtain ⟨s2, p2⟩ := s1.setCell (n := n) (c' := .pool (max m w.toNat) ns) (o := .lst [.int w, .int lf, .ref qa]) ep ga ⟨ga, w, lf, qa, upd_same, h0, by show w ≤ ((max m w.toNat : Nat) : Int); omega, g3, g4, g5⟩
        exact t.nx _ _ _ G1 _ (p1.trans p2) s2 (l.mono (p1.trans p2).le) h1
      | 1, _, h1 =>
        obtain ⟨s2, p2⟩ := s1.setCell (n := n) (c' := .pool m ns) (o := .lst [.int at_, .int w, .ref qa]) ep ga ⟨ga, at_, w, qa, upd_same, g1, g2, h0, g4, g5⟩
        exact t.nx _ _ _ G1 _ (p1.trans p2) s2 (l.mono (p1.trans p2).le) h1
/-- a cell that is a pool's list is a pool from now on -/
theorem SS.pool {K : PySem.W.Frag} {G : Gh} {st : S} {H : Hp} (s : SS K G st H) {n : Nat} {a l : Int} {ns : List Int} (h : st[n]? = some (.lst [.int a, .int l, .lst (ns.map .int)])) (h0 : 0 ≤ a) (h1 : 0 ≤ l) (h2 : ns.length ≤ 63) : SS K G (st.set n (.pool a.toNat ns)) H := by
  refine ⟨s.ex, by rw [List.length_set]; exact s.len, s.nd, fun m c p e1 e2 => ?_⟩
  rcases get_set e1 with ⟨rfl, rfl, _⟩ | ⟨hj, e1⟩
  · obtain ⟨vs, gp, hp, rs⟩ := s.cell m _ p h e2
    match vs, rs with
    | [_, _, _], .cons (.int _) (.cons (.int _) (.cons (.lst hq rq) .nil)) =>
      have : ∀ {ns : List Int} {vs : List V}, Reps K G (ns.map D.int) vs → vs = ns.map V.int := fun {ns} => by
        induction ns with
        | nil => intro vs r; cases r; rfl
        | cons n ns ih =>
          intro vs r
          cases r with
          | cons h r => cases h; rw [ih r]; rfl
      have e := this rq
      subst e
      exact ⟨gp, a, l, _, hp, h0, by omega, h1, hq, h2⟩
  · exact s.cell m c p e1 e2
end AM
set_option Elab.async false
set_option linter.all false
set_option maxRecDepth 100000
set_option maxHeartbeats 4000000
namespace AM
open PySem PySem.Spec L2 Evl
/-! ### a def's data by its place -/
def fdAt (K : PySem.W.Frag) (a : Addr) : FuncData := match K.lookup a with
  | some ⟨_, _, .func fd, _⟩ => fd
  | _ => PySem.W.fnOf "" "" { posonlyargs := [], args := [], vararg := none, kwonlyargs := [], kw_defaults := [], kwarg := none, defaults := [] } [] { kind := .function, names := [], isGenerator := false, isCoroutine := false } .none .none .none .none none .none .none
theorem fdAt_of {K : PySem.W.Frag} {x qual : Str} {params : Arguments} {body : List Stmt} {scope : Scope} {dvs : List V} {kws : List (Str × V)} {f : Addr} {fd : FuncData} (F : FunD K x qual params body scope dvs kws f fd) : FunD K x qual params body scope dvs kws f (fdAt K f) := by
  have e : fdAt K f = fd := by
    obtain ⟨oc, od, dV, kV, doc, pm, an, cdv, ct, osl, _, lk, _⟩ := F.ex
    unfold fdAt
    rw [lk]
  rw [e]
  exact F
theorem XC.binds {P : Program} {K : PySem.W.Frag} {mg : Str → Option Value} {C f : Addr} {fd : FuncData} {params : Arguments} {body : List Stmt} {scope : Scope} {ps : List Str} (T : XC P K mg C f fd params body scope)
    (h : ∀ (qual : Str) (kV doc pm ct : Value) (an : Option Addr) (cda cc : Addr) (us : List Value), us.length = ps.length → bindArgs (PySem.W.ksFn "__init__" qual params body scope .none kV doc pm an (.ref cda) ct cc) ⟨us, []⟩ = pure (ps.zip us)) : Binds K fd ps [] := by
  obtain ⟨qual, kV, doc, pm, ct, oc, an, od, osl, cc, cda, cl, cld, csl, ccl, cdd, vs, ccs, tf, rfl, _⟩ := T.fn
  exact .all (h qual kV doc pm ct an cda cc)
/-! ### a comprehension's scope, looked at once -/
def blkB (N : List Str) (sc scope : Scope) (own : List (Str × Nat)) : Bool := decide (scope.kind = .function) && (scope.names.all (fun y => decide (scope.names.lookup y.1 = some y.2)) && (own.all (fun p => decide (N[p.2]? = some p.1)) &&
  (scope.names.all (fun y => !decide (y.2 = .free) || (decide (sc.names.lookup y.1 = some .cell) || decide (sc.names.lookup y.1 = some .free))) && scope.names.all (fun y => !(decide (y.2 = .local) || decide (y.2 = .cell)) || (decide (y.1 ∈ own.map (·.1)) || !decide (y.1 ∈ N))))))
theorem blk_of {N : List Str} {sc scope : Scope} {own : List (Str × Nat)} (h : blkB N sc scope own = true) : BlkOk N sc scope own := by
  unfold blkB at h
  simp only [Bool.and_eq_true, decide_eq_true_eq, List.all_eq_true, Bool.or_eq_true, Bool.not_eq_true', decide_eq_false_iff_not] at h
  obtain ⟨h1, h2, h3, h4, h5⟩ := h
  refine ⟨h1, fun y hy => h2 y hy, fun p hp => h3 p hp, fun y hy e => ?_, fun y hy e => ?_⟩
  · exact (h4 y hy).resolve_left fun n => n e
  · rcases h5 y hy with n | n
    · rcases e with e | e <;> simp [e] at n
    · exact n
/-! ### a promise may be weakened -/
theorem FnOk.weak {P : Program} {w : World} {K : PySem.W.Frag} {mg : Str → Option Value} {base : Heap} {CX : CXT} {k : Nat} {f : Addr} {fd : FuncData} {ps : List Str} {m m' : AF} (F : FnOk P w K mg base CX k f fd ps (SpA K m)) (h : ∀ args st q er, m' args st q er → m args st q er) : FnOk P w K mg base CX k f fd ps (SpA K m') := by
  have e : ∀ vs H Q E, SpA K m' vs H Q E → SpA K m vs H Q E := fun vs H Q E ⟨G, st, args, q, er, a, b, c, d⟩ => ⟨G, st, args, q, er, a, b, h _ _ _ _ c, d⟩
  exact ⟨fun vs H Q E z => F.len vs H Q E (e _ _ _ _ z), fun A outer s H args us vs Q E h1 h2 h3 h4 z => F.run A outer s H args us vs Q E h1 h2 h3 h4 (e _ _ _ _ z)⟩
/-! ### the law's own def -/
def aPoolNew : AS := sRetF (fLst (aCons (aC (.int 0)) (aCons (aC (.int 0)) (aCons (fun env st q _ => ∃ ns, env[0]? = some (.d (.scr ns)) ∧ q (.lst (ns.map .int)) st) (aNil)))))
def spLaw (K : PySem.W.Frag) : Sp := fun vs H Q _ => ∃ (a : Addr) (ns : List Int), vs = [.ref a] ∧ SqL K H a (ns.map V.int) ∧ ns.length ≤ 63 ∧ ∀ H', Q (.bl true) H'
/-- the end that a law wants -/
def yes : AK := ⟨fun _ _ => False, fun r _ => r = .d (.bl true), fun _ _ => False, fun _ _ => False, fun _ _ _ => False⟩
theorem law_fn {P : Program} {w : World} {K : PySem.W.Frag} {mg : Str → Option Value} {base : Heap} {x qual : Str} {params : Arguments} {st : Stmt} {rest : List Stmt} {scope : Scope} {dvs : List V} {kws : List (Str × V)} {f : Addr} {fd : FuncData} {p1 p2 : Str} {N : List Str} {k : Nat} {as : AS}
    (F : FunD K x qual params (st :: rest) scope dvs kws f fd) (S : FnScope (p1 :: p2 :: N) [p1] scope)
    (hb : ∀ (cdv : Value) (Ar : Around) (outer : List Env) (s : Shared) (H : Hp) (E : XK), CxS (cxOf (L2N.CX P w) P w K mg base (p1 :: p2 :: N) qual scope f cdv Ar outer s H E) (dE E) k → AXS (cxOf (L2N.CX P w) P w K mg base (p1 :: p2 :: N) qual scope f cdv Ar outer s H E) (dE E) st (sCell (fCall (fnP 1 1 aPoolNew) (aCons (aVar 0) aNil) []) 1) ∧ AXB (cxOf (L2N.CX P w) P w K mg base (p1 :: p2 :: N) qual scope f cdv Ar outer s H E) (dE E) rest as)
    (hm : ∀ (ns : List Int), ns.length ≤ 63 → as (.d (.scr ns) :: .d (.ref 0) :: List.replicate N.length .no) [.pool 0 ns] yes) : FnOk P w K mg base (L2N.CX P w) (k + 1) f fd [p1] (spLaw K) := by
  refine F.ok S (fun vs H Q E h => ?_) (fun cdv Ar outer s H vs Q E hr h => ?_)
  · obtain ⟨a, ns, rfl, _⟩ := h
    rfl
  · obtain ⟨a, ns, rfl, hs, hl, hq⟩ := h
    obtain ⟨⟨t1, q1, r1⟩, t2, q2, r2⟩ := hb cdv Ar outer s H E ⟨⟨rfl, S.nd, hr, L2N.takes_of rfl rfl rfl rfl⟩, passes_of rfl, rfl, rfl⟩
    refine ⟨_, pss_cons q1 q2, ?_⟩
    have G0 : ∃ G : Hp, Ex G H ∧ SqL K G a (ns.map V.int) := by
      rcases hs with hs | hs
      · refine ⟨fun b => if b = a then H a else none, fun b o e => ?_, .inl ?_⟩
        · by_cases hb : b = a
          · subst hb; simpa using e
          · simp [hb] at e
        · rcases hs with hs | ⟨o, hs⟩
          · exact .inl (by show (if a = a then H a else none) = _; rw [if_pos rfl]; exact hs)
          · exact .inr ⟨o, by show (if a = a then H a else none) = _; rw [if_pos rfl]; exact hs⟩
      · exact ⟨fun _ => none, fun _ _ e => (by cases e), .inr hs⟩
    obtain ⟨G, gx, gs⟩ := G0
    have e : L2.start (p1 :: p2 :: N) [V.ref a] = [V.ref a].map some ++ List.replicate (N.length + 1) none := by
      unfold L2.start
      rfl
    have ss : SS K ⟨G, []⟩ [] H := ⟨gx, rfl, List.nodup_nil, fun n c p e => by simp at e⟩
    have rr : Reps K ⟨G, []⟩ [.scr ns] [V.ref a] := .one (.scr gs hl)
    rw [e]
    refine r1 ⟨G, []⟩ _ [] _ H _ ⟨fun env st => env = .d (.scr ns) :: .d (.ref 0) :: List.replicate N.length .no ∧ st = [.lst [.int 0, .int 0, .lst (ns.map .int)]], fun _ _ => False, fun _ _ => False, fun _ _ => False, fun _ _ _ => False⟩ ss (rr.sl (N.length + 1)) ?_ ⟨fun env' σ' st2 G2 H2 _ s2 l2 h2 => ?_, fun _ _ _ _ _ _ _ _ z => z.elim, fun _ _ _ _ _ _ _ _ z => z.elim, fun _ _ _ _ _ _ _ _ z => z.elim, fun _ _ _ _ _ _ _ _ _ _ _ _ z => z.elim⟩
    · refine ⟨rfl, ?_⟩
      refine ⟨ns, rfl, ?_⟩
      exact ⟨by show 3 ≤ 100000; decide, rfl, rfl⟩
    · obtain ⟨rfl, rfl⟩ := h2
      have s3 := s2.pool (n := 0) (a := 0) (l := 0) (ns := ns) rfl (by decide) (by decide) hl
      refine r2 G2 _ _ σ' H2 _ yes s3 l2 (hm ns hl) ⟨fun _ _ _ _ _ _ _ _ z => z.elim, fun v r _ _ H3 _ _ r3 h3 => ?_, fun _ _ _ _ _ _ _ _ z => z.elim, fun _ _ _ _ _ _ _ _ z => z.elim, fun _ _ _ _ _ _ _ _ _ _ _ _ z => z.elim⟩
      have h4 : r = .d (.bl true) := h3
      subst h4
      cases r3
      exact hq H3
end AM
set_option Elab.async false
set_option linter.all false
set_option maxRecDepth 100000
set_option maxHeartbeats 4000000
namespace AM
open PySem PySem.Spec L2 Evl
/-! ### f(k = e, ..): keywords alone, every parameter named or filled up -/
/-- the values in the parameters' order: ix tells where each stands among the keywords -/
def pick {α : Type} (ix : List Nat) (l : List α) : List α := ix.filterMap fun i => l[i]?
theorem pick_vals {zs : List V} {ws : List Value} (r : Vals zs ws) : ∀ ix, Vals (pick ix zs) (pick ix ws)
  | [] => .nil
  | i :: ix => by
    have ih := pick_vals r ix
    unfold pick at ih ⊢
    cases h : zs[i]? with
    | some z =>
      obtain ⟨u, hu, rv⟩ := r.get h
      rw [List.filterMap_cons_some h, List.filterMap_cons_some hu]
      exact .cons rv ih
    | none =>
      have hn : ws[i]? = none := by
        rw [List.getElem?_eq_none_iff] at h ⊢
        rw [← r.length]; exact h
      rw [List.filterMap_cons_none h, List.filterMap_cons_none hn]
      exact ih
theorem pick_reps {K : PySem.W.Frag} {G : Gh} : ∀ {ds : List D} {vs : List V} (i : Nat), Reps K G ds vs → (∀ d, ds[i]? = some d → ∃ v, vs[i]? = some v ∧ Rep K G d v) ∧ (ds[i]? = none → vs[i]? = none)
  | [], _, i, .nil => ⟨fun d h => by simp at h, fun _ => by simp⟩
  | d :: ds, v :: vs, 0, .cons r _ => ⟨fun d' h => ⟨v, rfl, by cases h; exact r⟩, fun h => by simp at h⟩
  | d :: ds, v :: vs, i + 1, .cons _ rs => ⟨fun d' h => (pick_reps i rs).1 d' h, fun h => (pick_reps i rs).2 h⟩
theorem pick_rep {K : PySem.W.Frag} {G : Gh} {ds : List D} {vs : List V} (r : Reps K G ds vs) : ∀ ix, Reps K G (pick ix ds) (pick ix vs)
  | [] => .nil
  | i :: ix => by
    have ih := pick_rep r ix
    unfold pick at ih ⊢
    cases h : ds[i]? with
    | some z =>
      obtain ⟨u, hu, rv⟩ := (pick_reps i r).1 z h
      rw [List.filterMap_cons_some h, List.filterMap_cons_some hu]
      exact .cons rv ih
    | none =>
      rw [List.filterMap_cons_none h, List.filterMap_cons_none ((pick_reps i r).2 h)]
      exact ih
def BindsK (K : PySem.W.Frag) (fd : FuncData) (ps ks : List Str) (ix : List Nat) : Prop := ∀ (s : Shared) (ws : List Value), K.In s.heap → ws.length = ks.length → BindsTo s fd ⟨[], ks.zip ws⟩ (ps.zip (pick ix ws))
section
variable {K : PySem.W.Frag} {x qual : Str} {params : Arguments} {body : List Stmt} {scope : Scope} {dvs : List V} {kws : List (Str × V)} {f : Addr} {fd : FuncData} {ps ks : List Str} {ix : List Nat}
/-- with defaults, none of them read -/
theorem bindsK1 (F : FunD K x qual params body scope dvs kws f fd) (hd : dvs ≠ [])
    (h : ∀ (T : Addr) (kV doc pm : Value) (an : Option Addr) (cdv ct : Value) (ws its : List Value), ws.length = ks.length → its.length = dvs.length → ∃ k, bindArgs (PySem.W.fnOf x qual params body scope (.ref T) kV doc pm an cdv ct) ⟨[], ks.zip ws⟩ = seqItems? (.ref T) >>= k ∧ k (some its.toArray) = pure (ps.zip (pick ix ws))) : BindsK K fd ps ks ix := by
  obtain ⟨oc, od, dV, kV, doc, pm, an, cdv, ct, osl, rfl, lk, hcd, hD, hK⟩ := F.ex
  rcases hD with ⟨e, _⟩ | ⟨_, T, o, its, m, rfl, lT, oT, rT⟩
  · exact absurd e hd
  · intro s ws X hl
    obtain ⟨k, e1, e2⟩ := h T kV doc pm an cdv ct ws its hl rT.length.symm
    refine BindsTo.of_looks fun M => ?_
    rw [e1]
    exact looks_items X lT oT (.of_pure e2)
theorem bindsK0 (F : FunD K x qual params body scope [] kws f fd)
    (h : ∀ (kV doc pm : Value) (an : Option Addr) (cdv ct : Value) (ws : List Value), ws.length = ks.length → bindArgs (PySem.W.fnOf x qual params body scope .none kV doc pm an cdv ct) ⟨[], ks.zip ws⟩ = pure (ps.zip (pick ix ws))) : BindsK K fd ps ks ix := by
  obtain ⟨oc, od, dV, kV, doc, pm, an, cdv, ct, osl, rfl, lk, hcd, hD, hK⟩ := F.ex
  rcases hD with ⟨_, rfl⟩ | ⟨e, _⟩
  · exact fun s ws X hl => .of_eq (h kV doc pm an cdv ct ws hl)
  · exact absurd rfl e
end
def tCallK0 (n : Nat) (sp : Sp) (ix : List Nat) (E : L2.St → XK) (tk : TA) : TE := fun σ H Q => tk σ H fun zs H2 => zs.length = n ∧ sp (pick ix zs) H2 Q (E σ)
section
variable {X : Cx} {CX : CXT} {W : WX} {j k : Nat} {f : Addr} {fd : FuncData} {ps ks : List Str} {ix : List Nat} {sp : Sp} {E : L2.St → XK} {x : Str} {p pos : Pos} {kws : List Keyword} {tk : TA}
theorem pe_callK0 (F : FnOk X.prog X.w X.K X.mg X.base CX k f fd ps sp) (hr : Room k X.A) (hg : Gl X x) (hm : X.mg x = some (.ref f)) (hk : PySem.W.keepIn X.K (.ref f) = true) (hb : BindsK X.K fd ps ks ix) (hx : ∀ σ, PassesAt CX X σ (E σ)) (hkw : PK X kws tk)
    (hall : (backToKw pos (keywordEach kws X.env)).all (·.1.isSome) = true := by rfl) (hks : (backToKw pos (keywordEach kws X.env)).filterMap (·.1) = ks := by rfl) (hdb : (x == ("__debug__" : Str)) = false := by decide)
    (hpl : ((backTo pos (starEach [] X.env)).any (·.1) || (backToKw pos (keywordEach kws X.env)).any (·.1.isNone)) = false := by rfl) : PE X (.Call (.Name x p) [] kws pos) (tCallK0 ks.length sp ix E tk) := by
  refine ⟨fun pins s σ H Q I h => ?_⟩
  refine wpAny_Call_Name_kw (ld_glob I hg hm ?_ hdb)
  refine PySem.W.callWith_KW0 (h₀ := X.base) I.ok.mod.kin hk hall (thn (hkw.run pos pins s σ H _ I h) fun ws s2 ⟨zs, H2, I2, rz, l2, q2⟩ => ⟨I2.kIn, ?_⟩) hpl
  rw [hks]
  refine wpAny_call (codeAny_mono (F.run X.A X.stack s2 H2 ⟨[], ks.zip ws⟩ (pick ix ws) (pick ix zs) Q (E σ) hr I2.env0 (hb s2 ws I2.kIn (rz.length.symm.trans l2)) (pick_vals rz ix) q2) fun r s' hq => ?_)
  cases r with
  | error e => exact hx σ pins H2 s2 e s' I2 hq
  | ok fl =>
    cases fl with
    | ret u => exact I2.after hq
    | _ => exact False.elim hq
def AXK (X : Cx) (W : WX) (kws : List Keyword) (aa : AEs) : Prop := ∃ ta, PK X kws ta ∧ RefA X.K W ta aa
theorem axk_nil : AXK X W [] aNil := ⟨_, pk_nil, refA_nil⟩
theorem axk_cons {e : Expr} {aa : AE} {ar : AEs} {nm : Option Str} {kpos : Pos} (ha : AX X W e aa) (hr : AXK X W kws ar) : AXK X W (⟨nm, e, kpos⟩ :: kws) (aCons aa ar) := by
  obtain ⟨t, p, r⟩ := ha
  obtain ⟨t2, p2, r2⟩ := hr
  exact ⟨_, pk_cons p p2, refA_cons r r2⟩
def aCallK (n : Nat) (m : AF) (ix : List Nat) (as : AEs) : AE := fun env st q er => as env st (fun ds s1 => ds.length = n ∧ m (pick ix ds) s1 (fun r s2 => match r with
  | .d d => q d s2
  | .own xs => q (.lst xs) s2
  | .ownD xs => q (.dic xs) s2) er) er
theorem refE_callK {K : PySem.W.Frag} {m : AF} {as : AEs} {n : Nat} (ha : RefA K W tk as) : RefE K W (tCallK0 n (SpA K m) ix (fun σ c d H => W c d σ H) tk) (aCallK n m ix as) := fun G env st σ H Q q er s l h tE tX => by
  refine ha G env st σ H _ _ er s l h (fun vs ds st2 G2 H2 p2 s2 r2 h2 => ?_) tX
  obtain ⟨hl, h2⟩ := h2
  refine ⟨by rw [← r2.length]; exact hl, G2, st2, _, _, er, s2, pick_rep r2 ix, h2, fun v r st3 G3 H3 p3 s3 r3 h3 => ?_, fun e c dx st3 G3 H3 p3 s3 ea h3 => tX e c dx st3 G3 H3 (p2.trans p3) s3 ea h3⟩
  cases r with
  | d x => exact tE v x st3 G3 H3 (p2.trans p3) s3 r3 h3
  | own l =>
    obtain ⟨G4, s4, p4, r4⟩ := own_frz s3 p3 r3
    exact tE v _ st3 G4 H3 (p2.trans p4) s4 r4 h3
  | ownD l =>
    obtain ⟨G4, s4, p4, r4⟩ := ownd_frz s3 p3 r3
    exact tE v _ st3 G4 H3 (p2.trans p4) s4 r4 h3
theorem ax_callK {m : AF} {as : AEs} {C0 : Nat} (C : CxE X W k) (F : FnOk X.prog X.w X.K X.mg X.base (L2N.CX X.prog X.w) j f fd ps (SpA X.K m)) (hm : X.mg x = some (.ref f)) (hk : PySem.W.keepIn X.K (.ref f) = true) (hb : BindsK X.K fd ps ks ix) (ha : AXK X W kws as) (hj : j ≤ k)
    (hg : Gl X x := by rfl) (hall : (backToKw pos (keywordEach kws X.env)).all (·.1.isSome) = true := by rfl) (hks : (backToKw pos (keywordEach kws X.env)).filterMap (·.1) = ks := by rfl) (hdb : (x == ("__debug__" : Str)) = false := by decide)
    (hpl : ((backTo pos (starEach [] X.env)).any (·.1) || (backToKw pos (keywordEach kws X.env)).any (·.1.isNone)) = false := by rfl) : AX X W (.Call (.Name x p) [] kws pos) (aCallK ks.length m ix as) := by
  obtain ⟨t, p, r⟩ := ha
  exact ⟨_, pe_callK0 F (C.room.mono hj) hg hm hk hb (fun σ => L2N.passAt C.takes σ) p hall hks hdb hpl, refE_callK r⟩
end
end AM
set_option Elab.async false
set_option linter.all false
set_option maxRecDepth 100000
set_option maxHeartbeats 4000000
namespace AM
open PySem PySem.Spec L2 Evl
/-! ### defs called within an except suite -/
theorem fn_okH {P : Program} {w : World} {K : PySem.W.Frag} {mg : Str → Option Value} {base : Heap} {x qual : Str} {params : Arguments} {body : List Stmt} {scope : Scope} {dvs : List V} {kws : List (Str × V)} {f : Addr} {fd : FuncData} {N ps : List Str} {k : Nat} {as : AS} {m : AF}
    (F : FunD K x qual params body scope dvs kws f fd) (S : FnScope N ps scope) (L : Leads ps.length N.length as m)
    (hb : ∀ (cdv : Value) (A : Around) (outer : List Env) (s : Shared) (H : Hp) (E : XK) (p : Addr × Obj), AXB (L2H.cxH (L2N.CX P w) P w K mg base N qual scope f cdv A outer s H E p) (dE E) body as) : L2H.FnH P w K mg base (L2N.CX P w) (k + 1) f fd ps (SpA K m) := by
  obtain ⟨oc, od, dV, kV, doc, pm, an, cdv, ct, osl, rfl, lk, hcd, _, _⟩ := F.ex
  refine L2H.fn_ofH lk hcd S (fun vs H Q E h => ?_) (fun A outer s H vs Q E p hot hr h => ?_)
  · obtain ⟨G, st, args, q, er, ss, r, m, _⟩ := h
    rw [← r.length]
    exact L.ar _ _ _ _ m
  · obtain ⟨G, st, args, q, er, ss, r, m, hq, he⟩ := h
    obtain ⟨ts, p1, p2⟩ := hb cdv A outer s H E p
    refine ⟨ts, p1, ?_⟩
    obtain ⟨kk, hk, tk⟩ := L.run ss r m hq he
    have e : L2.start N vs = vs.map some ++ List.replicate (N.length - ps.length) none := by unfold L2.start; rw [← r.length, L.ar _ _ _ _ m]
    rw [e]
    exact p2 G _ st _ H _ kk ss (r.sl _) hk tk
section
variable {X : Cx} {W : WX} {k j : Nat} {x : Str} {p pos : Pos} {e : Expr} {es : List Expr} {aa : AEs} {m : AF} {f : Addr} {fd : FuncData} {ps : List Str} {a : Addr} {oe : Obj} {cls : Value} {d : Option Addr} {pn : List (Addr × Obj)}
theorem ax_callH (C : CxE X W k) (hz : L2N.Zn cls d oe) (hf : ∃ vs, oe.data = .fields vs) (F : L2H.FnH X.prog X.w X.K X.mg X.base (L2N.CX X.prog X.w) j f fd ps (SpA X.K m)) (hm : X.mg x = some (.ref f)) (hk : PySem.W.keepIn X.K (.ref f) = true) (hb : BindsD X.K fd ps []) (ha : AXA (X.suite a ((a, oe) :: pn)) W0 (e :: es) aa) (hj : j ≤ k)
    (hg : Gl X x := by rfl) (hdb : (x == ("__debug__" : Str)) = false := by decide) (he : starEach (e :: es) X.env = (false, eval e X.env) :: starEach es X.env := by rfl) (hpl : (backTo pos (starEach es X.env)).any (·.1) = false := by rfl) : AX (X.suite a ((a, oe) :: pn)) W0 (.Call (.Name x p) (e :: es) [] pos) (aCall m aa []) := by
  obtain ⟨t, pa, r⟩ := ha
  obtain ⟨ds, hv, hb⟩ := hb
  cases hv
  obtain ⟨vs, hvs⟩ := hf
  have hot : L2H.HotC (X.suite a ((a, oe) :: pn)) := ⟨(a, oe), ⟨rfl, vs, hvs, hz.2.2 vs hvs⟩, by simp [Cx.suite]⟩
  have rm : L2H.RoomH j (X.suite a ((a, oe) :: pn)).A := ⟨by have := (C.room.mono hj).dp; exact this, by have := (C.room.mono hj).un; exact this⟩
  refine ⟨_, L2H.pe_callH (X := X.suite a ((a, oe) :: pn)) (E := fun σ c d H => W0 c d σ H) F rm hot hg hm hk hb (fun σ => L2N.passAt (W := W0) takesN0 σ) pa hdb he hpl, fun G env st σ H Q q er s l h tE tX => ?_⟩
  refine r G env st σ H _ _ er s l h (fun vs ds st2 G2 H2 p2 s2 a2 h2 => ?_) tX
  rw [List.append_nil] at h2
  refine ⟨G2, st2, _, _, er, s2, a2, h2, fun v r st3 G3 H3 p3 s3 r3 h3 => ?_, fun e c dx st3 G3 H3 p3 s3 ea h3 => tX e c dx st3 G3 H3 (p2.trans p3) s3 ea h3⟩
  cases r with
  | d x => exact tE v x st3 G3 H3 (p2.trans p3) s3 r3 h3
  | own l =>
    obtain ⟨G4, s4, p4, r4⟩ := own_frz s3 p3 r3
    exact tE v _ st3 G4 H3 (p2.trans p4) s4 r4 h3
  | ownD l =>
    obtain ⟨G4, s4, p4, r4⟩ := ownd_frz s3 p3 r3
    exact tE v _ st3 G4 H3 (p2.trans p4) s4 r4 h3
end
/-! ### == within an except suite: enough that there is room -/
theorem op_EqR {X : Cx} {k : Nat} (r : Room k X.A) {a : Addr} {pn : List (Addr × Obj)} : OpR (X.suite a pn) (compareOp .Eq) (rEqD X.K) ∧ RefO X.K (rEqD X.K) oEq := ⟨op_eqD (by have := u64 r; show X.A.units + _ < _; omega), ref_eq⟩
end AM
set_option Elab.async false
set_option linter.all false
set_option maxRecDepth 100000
set_option maxHeartbeats 4000000
namespace AM
open PySem PySem.Spec PyProof.Rows L2 Evl
/-! ### methods and classes, what is raised at the caller's slots -/
section
variable {X : Cx} {CX : CXT} {k : Nat} {f C : Addr} {fd : FuncData} {ps : List Str} {sp : Sp} {dvs : List V} {ds : List Value} {E : L2.St → XK} {x m : Str} {p pos apos : Pos} {e o : Expr} {es : List Expr} {ta : TE} {t : TA}
def tMethSD (C : Addr) (m : Str) (sp : Sp) (dvs : List V) (E : L2.St → XK) (ta : TE) (t : TA) : TE := fun σ H Q => ta σ H fun x H1 => ∃ a dx fs, x = .ref a ∧ H1 a = some (.ins C dx fs) ∧ fs.lookup m = none ∧ t σ H1 fun vs H2 => sp (x :: (vs ++ dvs)) H2 Q (E σ)
theorem pe_methSD {pl : Sem Bool} (he : PE X o ta) (c : Cls X.K C) (hm : Meth X.K C m f) (F : FnOk X.prog X.w X.K X.mg X.base CX k f fd ps sp) (hr : Room k X.A) (hb : Binds X.K fd ps ds) (hd : Vals dvs ds) (hx : ∀ σ, PassesAt CX X σ (E σ)) (ha : PA X (e :: es) t)
    (hst : starEach (e :: es) X.env = (false, eval e X.env) :: starEach es X.env := by rfl) (hpl : (backTo pos (starEach es X.env)).any (·.1) = false := by rfl)
    (ht : eval (.Call (.Attribute o m apos) (e :: es) [] pos) X.env = (do
      let ov ← eval o X.env
      standAt apos.atName
      let (f, first) ← holding [ov] (getMethod ov m pl)
      callWith pos f first (backTo pos (starEach (e :: es) X.env)) (backToKw pos (keywordEach [] X.env))) := by rfl) :
    PE X (.Call (.Attribute o m apos) (e :: es) [] pos) (tMethSD C m sp dvs E ta t) := by
  refine ⟨fun pins s σ H Q I h => ?_⟩
  refine PySem.W.methodCall_KW (pl := pl) (thn (he.run pins s σ H _ I h) fun u s1 ⟨x, H1, I1, rx, a, dx, fs, ex, ea, l, q⟩ => ?_) ht
  subst ex
  obtain rfl : u = Value.ref a := rx
  refine getmeth_ok I1 ea c hm l ?_
  refine PySem.W.callWith_K (first := [.ref a]) (h₀ := X.base) I.ok.mod.kin hm.kp (thn (ha.run pos pins s1 σ H1 _ I1 q) fun us s2 ⟨vs, H2, I2, r, q2⟩ => ⟨I2.kIn, ?_⟩) hst hpl
  exact run_fnSD (us := .ref a :: us) (vs := .ref a :: vs) F hr hb hd (hx σ) I2 (.cons rfl r) q2
theorem pe_meth0SD {pl : Sem Bool} (he : PE X o ta) (c : Cls X.K C) (hm : Meth X.K C m f) (F : FnOk X.prog X.w X.K X.mg X.base CX k f fd ps sp) (hr : Room k X.A) (hb : Binds X.K fd ps ds) (hd : Vals dvs ds) (hx : ∀ σ, PassesAt CX X σ (E σ))
    (ht : eval (.Call (.Attribute o m apos) [] [] pos) X.env = (do
      let ov ← eval o X.env
      standAt apos.atName
      let (f, first) ← holding [ov] (getMethod ov m pl)
      callWith pos f first (backTo pos (starEach [] X.env)) (backToKw pos (keywordEach [] X.env))) := by rfl) :
    PE X (.Call (.Attribute o m apos) [] [] pos) (tMethSD C m sp dvs E ta tNil) := by
  refine ⟨fun pins s σ H Q I h => ?_⟩
  refine PySem.W.methodCall_KW (pl := pl) (thn (he.run pins s σ H _ I h) fun u s1 ⟨x, H1, I1, rx, a, dx, fs, ex, ea, l, q⟩ => ?_) ht
  subst ex
  obtain rfl : u = Value.ref a := rx
  refine getmeth_ok I1 ea c hm l ?_
  exact PySem.W.callWith_K0 (first := [.ref a]) I1.kIn hm.kp (run_fnSD (us := [.ref a]) (vs := [.ref a]) F hr hb hd (hx σ) I1 (.cons rfl .nil) q)
def tMakeSD (C : Addr) (sp : Sp) (dvs : List V) (E : L2.St → XK) (t : TA) : TE := fun σ H Q => t σ H fun vs H1 => ∀ x dx, H1 x = none → H1 dx = none → dx ≠ x → sp (.ref x :: (vs ++ dvs)) (upd (upd H1 dx (.own x)) x (.ins C dx [])) (fun v H2 => v = .non ∧ Q (.ref x) H2) (E σ)
theorem run_makeSD {pins : List (Addr × Obj)} {σ : L2.St} {H : Hp} {s : Shared} {Q : VK} {us : List Value} {vs : List V} (M : Mk X.K C f) (F : FnOk X.prog X.w X.K X.mg X.base CX k f fd ps sp) (hr : Room (k + 1) X.A) (hb : Binds X.K fd ps ds) (hd : Vals dvs ds)
    (hx : PassesAt CX X σ (E σ)) (I : Inv X pins σ H s) (r : Vals vs us)
    (h : ∀ x dx, H x = none → H dx = none → dx ≠ x → sp (.ref x :: (vs ++ dvs)) (upd (upd H dx (.own x)) x (.ins C dx [])) (fun v H2 => v = .non ∧ Q (.ref x) H2) (E σ)) :
    wpAny (model X.prog X.w) X.A (call (.ref C) us) (EP X pins σ Q) X.xe s := by
  have hq := h (s.heap.objs.size + 1) s.heap.objs.size (I.hok.fresh (Nat.le_succ _)) (I.hok.fresh (Nat.le_refl _)) (Nat.ne_of_lt (Nat.lt_succ_self _))
  have I2 := Inv.made (C := C) I
  have r2 : Vals (V.ref (s.heap.objs.size + 1) :: (vs ++ dvs)) (Value.ref (s.heap.objs.size + 1) :: (us ++ ds)) := .cons rfl (r.append hd)
  have hl : (Value.ref (s.heap.objs.size + 1) :: us ++ ds).length = ps.length := by
    have e := r2.length
    rw [F.len _ _ _ _ hq] at e
    exact e.symm
  refine wpAny_call (make_map (f := f) I.kIn M.makes M.init (beq_iff_eq.mp M.fn) (codeAny_mono (F.run _ X.stack _ _ ⟨Value.ref (s.heap.objs.size + 1) :: us, []⟩ (Value.ref (s.heap.objs.size + 1) :: (us ++ ds)) _ _ (E σ) (hr.make C us [])
    (I2.env0.make C us []) (hb _ (Value.ref (s.heap.objs.size + 1) :: us) I2.kIn hl) r2 hq) fun r s' hq' => ?_))
  cases r with
  | error e => exact hx pins _ _ e s' I2 hq'
  | ok fl =>
    cases fl with
    | ret u =>
      obtain ⟨v, H', I3, rv, ev, q3⟩ := I2.after hq'
      subst ev
      exact ⟨rv, ⟨V.ref (s.heap.objs.size + 1), H', I3, rfl, q3⟩⟩
    | next => exact False.elim hq'
    | brk => exact False.elim hq'
    | cont => exact False.elim hq'
theorem pe_makeSD (M : Mk X.K C f) (F : FnOk X.prog X.w X.K X.mg X.base CX k f fd ps sp) (hr : Room (k + 1) X.A) (hg : Gl X x) (hm : X.mg x = some (.ref C)) (hb : Binds X.K fd ps ds) (hd : Vals dvs ds) (hx : ∀ σ, PassesAt CX X σ (E σ))
    (ha : PA X (e :: es) t) (hdb : (x == ("__debug__" : Str)) = false := by decide) (he : starEach (e :: es) X.env = (false, eval e X.env) :: starEach es X.env := by rfl) (hpl : (backTo pos (starEach es X.env)).any (·.1) = false := by rfl) :
    PE X (.Call (.Name x p) (e :: es) [] pos) (tMakeSD C sp dvs E t) := by
  refine ⟨fun pins s σ H Q I h => ?_⟩
  refine wpAny_Call_Name_kw (ld_glob I hg hm ?_ hdb)
  refine PySem.W.callWith_K (h₀ := X.base) I.ok.mod.kin M.kp (thn (ha.run pos pins s σ H _ I h) fun us s1 ⟨vs, H1, I1, r, q⟩ => ⟨I1.kIn, ?_⟩) he hpl
  exact run_makeSD M F hr hb hd (hx σ) I1 r q
theorem pe_make0SD (M : Mk X.K C f) (F : FnOk X.prog X.w X.K X.mg X.base CX k f fd ps sp) (hr : Room (k + 1) X.A) (hg : Gl X x) (hm : X.mg x = some (.ref C)) (hb : Binds X.K fd ps ds) (hd : Vals dvs ds) (hx : ∀ σ, PassesAt CX X σ (E σ))
    (hdb : (x == ("__debug__" : Str)) = false := by decide) : PE X (.Call (.Name x p) [] [] pos) (tMakeSD C sp dvs E tNil) := by
  refine ⟨fun pins s σ H Q I h => ?_⟩
  refine wpAny_Call_Name_kw (ld_glob I hg hm ?_ hdb)
  exact PySem.W.callWith_K0 I.kIn M.kp (run_makeSD (us := []) M F hr hb hd (hx σ) I .nil h)
end
/-! ### attributes -/
def fldAt (cs : List Str) (f : Str) : D → Option D
  | .obj c fs => if c ∈ cs then fs.lookup f else none
  | _ => none
def aFld (cs : List Str) (f : Str) (a : AE) : AE := fun env st q er => a env st (fun d s1 => ∃ v, fldAt cs f (vw s1 d) = some v ∧ q v s1) er
theorem RepF.look {K : PySem.W.Frag} {G : Gh} {f : Str} {d : D} : ∀ {fs : List (Str × D)} {vs : List (Str × V)}, RepF K G fs vs → fs.lookup f = some d → ∃ v, vs.lookup f = some v ∧ Rep K G d v
  | _, _, .nil, h => by simp at h
  | _, _, .cons (f := g) h r, e => by
    rw [List.lookup_cons] at e ⊢
    cases hg : (f == g) with
    | true => rw [hg] at e; cases e; exact ⟨_, rfl, h⟩
    | false => rw [hg] at e; exact r.look e
theorem RepF.no {K : PySem.W.Frag} {G : Gh} {f : Str} : ∀ {fs : List (Str × D)} {vs : List (Str × V)}, RepF K G fs vs → fs.lookup f = none → vs.lookup f = none
  | _, _, .nil, h => rfl
  | _, _, .cons (f := g) h r, e => by
    rw [List.lookup_cons] at e ⊢
    cases hg : (f == g) with
    | true => rw [hg] at e; cases e
    | false => rw [hg] at e; exact r.no e
theorem RepF.length {K : PySem.W.Frag} {G : Gh} : ∀ {fs : List (Str × D)} {vs : List (Str × V)}, RepF K G fs vs → fs.length = vs.length
  | _, _, .nil => rfl
  | _, _, .cons _ r => congrArg Nat.succ r.length
def putD (f : Str) (v : D) : List (Str × D) → List (Str × D)
  | [] => [(f, v)]
  | (g, x) :: r => if g = f then (g, v) :: r else (g, x) :: putD f v r
theorem RepF.put {K : PySem.W.Frag} {G : Gh} {f : Str} {d : D} {v : V} (h : Rep K G d v) : ∀ {fs : List (Str × D)} {vs : List (Str × V)}, RepF K G fs vs → RepF K G (putD f d fs) (putF f v vs)
  | _, _, .nil => .cons h .nil
  | _, _, .cons (f := g) q r => by
    unfold putD putF
    by_cases hg : g = f
    · rw [if_pos hg, if_pos hg]; exact .cons h r
    · rw [if_neg hg, if_neg hg]; exact .cons q (r.put h)
section
variable {X : Cx} {W : WX} {k j : Nat} {o e value : Expr} {es : List Expr} {f m c x : Str} {p pos pos' apos : Pos} {ao ae av : AE} {aa : AEs} {cs : List Str} {mf : AF} {fa : Addr} {fd : FuncData} {ps : List Str} {dd : List D} {dvs : List V}
theorem ax_fld (ha : AX X W e ae) (hc : ∀ c ∈ cs, Cls X.K (He.ga X.K c) ∧ NoAttr X.K (He.ga X.K c) f) (hb : attributeBase e f X.env (eval e X.env) = eval e X.env := by rfl) : AX X W (.Attribute e f pos) (aFld cs f ae) := by
  obtain ⟨ta, pa, ra⟩ := ha
  refine ⟨_, pe_fld pa hb, fun G env st σ H Q q er s l h tE tX => ra G env st σ H _ _ er s l h (fun v d st1 G1 H1 p1 s1 r1 h1 => ?_) tX⟩
  obtain ⟨u, hu, h1⟩ := h1
  have rv := r1.vw s1
  generalize vw st1 d = d' at hu rv
  cases rv with
  | obj hp rf =>
    rename_i c p dx fs vs
    have hu : (if c ∈ cs then fs.lookup f else none) = some u := hu
    by_cases hcm : c ∈ cs
    · rw [if_pos hcm] at hu
      obtain ⟨w, hw, rw'⟩ := rf.look hu
      exact ⟨p, _, dx, vs, w, rfl, hp, (hc c hcm).1, (hc c hcm).2, hw, tE w u st1 G1 H1 p1 s1 rw' h1⟩
    · rw [if_neg hcm] at hu; cases hu
  | _ => cases hu
/-- o.f = e, o a cell -/
def sFldSet (c f : Str) (ao av : AE) : AS := fun env st k => av env st (fun d s1 => ao env s1 (fun x s2 => ∃ n fs, x = .ref n ∧ s2[n]? = some (.obj c fs) ∧ fs.length < 1000 ∧ k.nx env (s2.set n (.obj c (putD f d fs)))) (fun e s => k.er e env s)) (fun e s => k.er e env s)
theorem axs_fld (ho : AX X W o ao) (hv : AX X W value av) (hc : Cls X.K (He.ga X.K c)) (hn : NoAttr X.K (He.ga X.K c) f) (hs : swapsWith value (some (.Attribute o f pos')) pos.line X.env = pure false := by rfl) : AXS X W (.Assign [.Attribute o f pos'] value pos) (sFldSet c f ao av) := by
  obtain ⟨ta, pa, ra⟩ := ho
  obtain ⟨tv, pv, rv⟩ := hv
  refine ⟨_, ps_fld pa pv hs, fun G env st σ H D k s l h t => ?_⟩
  refine rv G env st σ H _ _ _ s l h (fun v d st1 G1 H1 p1 s1 r1 h1 => ?_) (t.x l)
  refine ra G1 env st1 σ H1 _ _ _ s1 (l.mono p1.le) h1 (fun w x st2 G2 H2 p2 s2 r2 h2 => ?_) ((t.x l).on p1)
  obtain ⟨n, fs, rfl, hcell, hl, h2⟩ := h2
  cases r2 with
  | ref ep =>
    rename_i p
    obtain ⟨dx, vs, gp, hp, rf⟩ := s2.cell n _ p hcell ep
    obtain ⟨s3, p3⟩ := s2.setCell (n := n) (c' := .obj c (putD f d fs)) (o := .ins (He.ga X.K c) dx (putF f v vs)) ep gp ⟨dx, _, gp, upd_same, rf.put (r1.mono p2.le)⟩
    exact ⟨p, _, dx, vs, rfl, hp, hc, hn, by rw [← rf.length]; exact hl, t.nx env σ _ G2 _ ((p1.trans p2).trans p3) s3 (l.mono ((p1.trans p2).trans p3).le) h2⟩
/-! ### methods -/
def isObj (c m : Str) : D → Prop
  | .obj c' fs => c' = c ∧ fs.lookup m = none
  | _ => False
def aMeth (c m : Str) (mf : AF) (a : AE) (args : AEs) (dd : List D) : AE := fun env st q er => a env st (fun d s1 => isObj c m (vw s1 d) ∧ args env s1 (fun ds s2 => mf (d :: (ds ++ dd)) s2 (fun r s3 => match r with
  | .d x => q x s3
  | .own l => q (.lst l) s3
  | .ownD l => q (.dic l) s3) er) er) er
def fMeth (c m : Str) (mf : AF) (a : AE) (args : AEs) (dd : List D) : AFr := fun env st q er => a env st (fun d s1 => isObj c m (vw s1 d) ∧ args env s1 (fun ds s2 => mf (d :: (ds ++ dd)) s2 (fun r s3 => match r with
  | .own l => q l s3
  | _ => False) er) er) er
theorem isObj_at {K : PySem.W.Frag} {G : Gh} {H : Hp} {d : D} {v : V} (r : Rv K G H d v) (h : isObj c m d) : ∃ a dx fs, v = .ref a ∧ H a = some (.ins (He.ga K c) dx fs) ∧ fs.lookup m = none := by
  cases r with
  | obj hp rf =>
    obtain ⟨rfl, h2⟩ := h
    exact ⟨_, _, _, rfl, hp, rf.no h2⟩
  | _ => exact h.elim
theorem refE_meth {K : PySem.W.Frag} {ta : TE} {t : TA} (ha : RefE K W ta ae) (ht : RefA K W t aa) (hd : ∀ G, Reps K G dd dvs) : RefE K W (tMethSD (He.ga K c) m (SpA K mf) dvs (fun σ c d H => W c d σ H) ta t) (aMeth c m mf ae aa dd) := fun G env st σ H Q q er s l h tE tX => by
  refine ha G env st σ H _ _ er s l h (fun v d st1 G1 H1 p1 s1 r1 h1 => ?_) tX
  obtain ⟨a, dx, fs, rfl, hp, hl⟩ := isObj_at (r1.vw s1) h1.1
  refine ⟨a, dx, fs, rfl, hp, hl, ht G1 env st1 σ H1 _ _ er s1 (l.mono p1.le) h1.2 (fun vs ds st2 G2 H2 p2 s2 a2 h2 => ?_) (tX.on p1)⟩
  have p12 := p1.trans p2
  refine ⟨G2, st2, _, _, er, s2, .cons (r1.mono p2.le) (a2.append (hd G2)), h2, fun v r st3 G3 H3 p3 s3 r3 h3 => ?_, fun e c dx st3 G3 H3 p3 s3 ea h3 => tX e c dx st3 G3 H3 (p12.trans p3) s3 ea h3⟩
  cases r with
  | d x => exact tE v x st3 G3 H3 (p12.trans p3) s3 r3 h3
  | own l =>
    obtain ⟨G4, s4, p4, r4⟩ := own_frz s3 p3 r3
    exact tE v _ st3 G4 H3 (p12.trans p4) s4 r4 h3
  | ownD l =>
    obtain ⟨G4, s4, p4, r4⟩ := ownd_frz s3 p3 r3
    exact tE v _ st3 G4 H3 (p12.trans p4) s4 r4 h3
theorem refF_meth {K : PySem.W.Frag} {ta : TE} {t : TA} (ha : RefE K W ta ae) (ht : RefA K W t aa) (hd : ∀ G, Reps K G dd dvs) : RefF K W (tMethSD (He.ga K c) m (SpA K mf) dvs (fun σ c d H => W c d σ H) ta t) (fMeth c m mf ae aa dd) := fun G env st σ H Q q er s l h tE tX => by
  refine ha G env st σ H _ _ er s l h (fun v d st1 G1 H1 p1 s1 r1 h1 => ?_) tX
  obtain ⟨a, dx, fs, rfl, hp, hl⟩ := isObj_at (r1.vw s1) h1.1
  refine ⟨a, dx, fs, rfl, hp, hl, ht G1 env st1 σ H1 _ _ er s1 (l.mono p1.le) h1.2 (fun vs ds st2 G2 H2 p2 s2 a2 h2 => ?_) (tX.on p1)⟩
  have p12 := p1.trans p2
  refine ⟨G2, st2, _, _, er, s2, .cons (r1.mono p2.le) (a2.append (hd G2)), h2, fun v r st3 G3 H3 p3 s3 r3 h3 => ?_, fun e c dx st3 G3 H3 p3 s3 ea h3 => tX e c dx st3 G3 H3 (p12.trans p3) s3 ea h3⟩
  cases r with
  | d x => exact h3.elim
  | ownD l => exact h3.elim
  | own l => exact tE v l st3 G3 H3 (p12.trans p3) s3 (r3.on p12) h3
theorem ax_meth {pl : Sem Bool} (C : CxE X W k) (ha : AX X W o ao) (hc : Cls X.K (He.ga X.K c)) (hm : Meth X.K (He.ga X.K c) m fa) (F : FnOk X.prog X.w X.K X.mg X.base (L2N.CX X.prog X.w) j fa fd ps (SpA X.K mf)) (hb : BindsD X.K fd ps dvs) (hdd : ∀ G, Reps X.K G dd dvs) (hr : AXA X W (e :: es) aa) (hj : j ≤ k)
    (hst : starEach (e :: es) X.env = (false, eval e X.env) :: starEach es X.env := by rfl) (hpl : (backTo pos (starEach es X.env)).any (·.1) = false := by rfl)
    (ht : eval (.Call (.Attribute o m apos) (e :: es) [] pos) X.env = (do
      let ov ← eval o X.env
      standAt apos.atName
      let (f, first) ← holding [ov] (getMethod ov m pl)
      callWith pos f first (backTo pos (starEach (e :: es) X.env)) (backToKw pos (keywordEach [] X.env))) := by rfl) :
    AX X W (.Call (.Attribute o m apos) (e :: es) [] pos) (aMeth c m mf ao aa dd) ∧ AXF X W (.Call (.Attribute o m apos) (e :: es) [] pos) (fMeth c m mf ao aa dd) := by
  obtain ⟨ta, pa, ra⟩ := ha
  obtain ⟨t, pr, rr⟩ := hr
  obtain ⟨ds, hv, hb⟩ := hb
  have q := pe_methSD (pl := pl) (E := fun σ c d H => W c d σ H) pa hc hm F (C.room.mono hj) hb hv (fun σ => L2N.passAt C.takes σ) pr hst hpl ht
  exact ⟨⟨_, q, refE_meth ra rr hdd⟩, _, q, refF_meth ra rr hdd⟩
theorem ax_meth0 {pl : Sem Bool} (C : CxE X W k) (ha : AX X W o ao) (hc : Cls X.K (He.ga X.K c)) (hm : Meth X.K (He.ga X.K c) m fa) (F : FnOk X.prog X.w X.K X.mg X.base (L2N.CX X.prog X.w) j fa fd ps (SpA X.K mf)) (hb : BindsD X.K fd ps dvs) (hdd : ∀ G, Reps X.K G dd dvs) (hj : j ≤ k)
    (ht : eval (.Call (.Attribute o m apos) [] [] pos) X.env = (do
      let ov ← eval o X.env
      standAt apos.atName
      let (f, first) ← holding [ov] (getMethod ov m pl)
      callWith pos f first (backTo pos (starEach [] X.env)) (backToKw pos (keywordEach [] X.env))) := by rfl) :
    AX X W (.Call (.Attribute o m apos) [] [] pos) (aMeth c m mf ao aNil dd) ∧ AXF X W (.Call (.Attribute o m apos) [] [] pos) (fMeth c m mf ao aNil dd) := by
  obtain ⟨ta, pa, ra⟩ := ha
  obtain ⟨ds, hv, hb⟩ := hb
  have q := pe_meth0SD (pl := pl) (E := fun σ c d H => W c d σ H) pa hc hm F (C.room.mono hj) hb hv (fun σ => L2N.passAt C.takes σ) ht
  exact ⟨⟨_, q, refE_meth ra refA_nil hdd⟩, _, q, refF_meth ra refA_nil hdd⟩
/-! ### a class is called -/
/-- the new object is frozen; what its __init__ made beside is left away -/
def aNew (c : Str) (mi : AF) (args : AEs) (dd : List D) : AE := fun env st q er => args env st (fun ds s1 => ltL s1.length ds → ltS s1.length s1 → mi (.ref s1.length :: (ds ++ dd)) (s1 ++ [.obj c []]) (fun r s2 => r = .d .non ∧ ∃ fs, s2[s1.length]? = some (.obj c fs) ∧ ltF s1.length fs ∧ ltS s1.length (s2.take s1.length) ∧ q (.obj c fs) (s2.take s1.length)) (fun e s2 => e.lt s1.length ∧ ltS s1.length (s2.take s1.length) ∧ er e (s2.take s1.length))) er
/-- the new object is a cell -/
def aNewM (c : Str) (mi : AF) (args : AEs) (dd : List D) : AE := fun env st q er => args env st (fun ds s1 => mi (.ref s1.length :: (ds ++ dd)) (s1 ++ [.obj c []]) (fun r s2 => r = .d .non ∧ q (.ref s1.length) s2) er) er
theorem SS.made {K : PySem.W.Frag} {G : Gh} {st : S} {H : Hp} (s : SS K G st H) {x dx : Addr} (hx : H x = none) (hdx : H dx = none) (ne : dx ≠ x) : SS K ⟨G.g, G.as ++ [x]⟩ (st ++ [.obj c []]) (upd (upd H dx (.own x)) x (.ins (He.ga K c) dx [])) ∧ Post G H ⟨G.g, G.as ++ [x]⟩ (upd (upd H dx (.own x)) x (.ins (He.ga K c) dx [])) ∧ (G.as ++ [x])[st.length]? = some x ∧ x ∉ G.as := by
  obtain ⟨s1, p1, _, _⟩ := s.room (o := .own x) hdx
  have hx1 : (upd H dx (.own x)) x = none := by rw [upd_ne (Ne.symm ne)]; exact hx
  obtain ⟨s2, p2, nx, gx⟩ := s1.room (o := .ins (He.ga K c) dx []) hx1
  refine ⟨s2.cellOf nx ⟨dx, [], gx, upd_same, .nil⟩, (p1.trans p2).cellOf hx, ?_, nx⟩
  rw [← s.len, List.getElem?_append_right (Nat.le_refl _), Nat.sub_self]
  rfl
theorem refE_new {K : PySem.W.Frag} {t : TA} (ht : RefA K W t aa) (hd : ∀ G, Reps K G dd dvs) : RefE K W (tMakeSD (He.ga K c) (SpA K mf) dvs (fun σ c d H => W c d σ H) t) (aNew c mf aa dd) := fun G env st σ H Q q er s l h tE tX => by
  refine ht G env st σ H _ _ er s l h (fun vs ds st1 G1 H1 p1 s1 r1 h1 => ?_) tX
  intro x dx hx hdx ne
  obtain ⟨s2, p2, ex, nx⟩ := s1.made (c := c) hx hdx ne
  have ka : G1.as.length = st1.length := s1.len
  have h1 := h1 (by rw [← ka]; exact r1.lt) s1.wf
  refine ⟨_, _, _, _, _, s2, .cons (.ref ex) ((r1.mono p2.le).append (hd _)), h1, fun v r st3 G3 H3 p3 s3 r3 h3 => ?_, fun e c' dx' st3 G3 H3 p3 s3 ea h3 => ?_⟩
  · obtain ⟨rfl, fs, hc, hf, hst, h3⟩ := h3
    cases r3
    refine ⟨rfl, ?_⟩
    have pre : G1.as <+: G3.as := p2.le.a.trans p3.le.a
    obtain ⟨dx', ws, gx, hx3, rf⟩ := s3.cell _ _ x hc (pre_get p3.le.a ex)
    rw [← ka] at hf hst h3
    have s4 := s3.cut pre hst
    obtain ⟨s5, le5⟩ := s4.freeze (o := .ins (He.ga K c) dx' ws) hx3 gx nx
    have p4 : Post G1 H1 ⟨G3.g, G1.as⟩ H3 := (p2.trans p3).cut
    exact tE _ _ _ _ H3 (p1.trans (p4.freeze gx hx)) s5 (.obj upd_same ((rf.cut pre hf).mono le5)) h3
  · obtain ⟨h4, h5, h6⟩ := h3
    rw [← ka] at h4 h5 h6
    have pre : G1.as <+: G3.as := p2.le.a.trans p3.le.a
    exact tX e c' dx' _ _ H3 (p1.trans (p2.trans p3).cut) (s3.cut pre h5) (ea.cut pre h4) h6
theorem refE_newM {K : PySem.W.Frag} {t : TA} (ht : RefA K W t aa) (hd : ∀ G, Reps K G dd dvs) : RefE K W (tMakeSD (He.ga K c) (SpA K mf) dvs (fun σ c d H => W c d σ H) t) (aNewM c mf aa dd) := fun G env st σ H Q q er s l h tE tX => by
  refine ht G env st σ H _ _ er s l h (fun vs ds st1 G1 H1 p1 s1 r1 h1 => ?_) tX
  intro x dx hx hdx ne
  obtain ⟨s2, p2, ex, nx⟩ := s1.made (c := c) hx hdx ne
  refine ⟨_, _, _, _, _, s2, .cons (.ref ex) ((r1.mono p2.le).append (hd _)), h1, fun v r st3 G3 H3 p3 s3 r3 h3 => ?_, fun e c' dx' st3 G3 H3 p3 s3 ea h3 => tX e c' dx' _ _ H3 ((p1.trans p2).trans p3) s3 ea h3⟩
  obtain ⟨rfl, h3⟩ := h3
  cases r3
  exact ⟨rfl, tE _ _ st3 G3 H3 ((p1.trans p2).trans p3) s3 (.ref (pre_get p3.le.a ex)) h3⟩
theorem ax_new (C : CxE X W (k + 1)) (M : Mk X.K (He.ga X.K x) fa) (F : FnOk X.prog X.w X.K X.mg X.base (L2N.CX X.prog X.w) j fa fd ps (SpA X.K mf)) (hm : X.mg x = some (.ref (He.ga X.K x))) (hb : BindsD X.K fd ps dvs) (hdd : ∀ G, Reps X.K G dd dvs) (hr : AXA X W (e :: es) aa) (hj : j ≤ k)
    (hg : Gl X x := by rfl) (hdb : (x == ("__debug__" : Str)) = false := by decide) (he : starEach (e :: es) X.env = (false, eval e X.env) :: starEach es X.env := by rfl) (hpl : (backTo pos (starEach es X.env)).any (·.1) = false := by rfl) :
    AX X W (.Call (.Name x p) (e :: es) [] pos) (aNew x mf aa dd) ∧ AX X W (.Call (.Name x p) (e :: es) [] pos) (aNewM x mf aa dd) := by
  obtain ⟨t, pr, rr⟩ := hr
  obtain ⟨ds, hv, hb⟩ := hb
  have q := pe_makeSD (E := fun σ c d H => W c d σ H) (p := p) (pos := pos) M F (C.room.mono (by omega)) hg hm hb hv (fun σ => L2N.passAt C.takes σ) pr hdb he hpl
  exact ⟨⟨_, q, refE_new rr hdd⟩, _, q, refE_newM rr hdd⟩
end
end AM
set_option Elab.async false
set_option linter.all false
set_option maxRecDepth 100000
set_option maxHeartbeats 4000000
namespace AM
open PySem PySem.Spec PyProof.Rows L2 Evl
/-! ### methods that signs stand for -/
section
variable {X : Cx} {CX : CXT} {k : Nat} {f C : Addr} {fd : FuncData} {ps : List Str} {sp : Sp} {E : L2.St → XK} {a b : Expr} {ta tb : TE} {pos : Pos}
theorem run_fnAt {A' : Around} {pins : List (Addr × Obj)} {σ : L2.St} {H : Hp} {s : Shared} {Q : VK} {us : List Value} {vs : List V} (F : FnOk X.prog X.w X.K X.mg X.base CX k f fd ps sp) (hr : Room k A') (hfr : A'.frames = X.A.frames) (hb : Binds X.K fd ps []) (hx : PassesAt CX X σ (E σ))
    (I : Inv X pins σ H s) (r : Vals vs us) (h : sp vs H Q (E σ)) : wpAny (model X.prog X.w) A' (call (.ref f) us) (EP X pins σ Q) X.xe s := by
  have hl : us.length = ps.length := by rw [← r.length]; exact F.len _ _ _ _ h
  have e0 : Env0 X.prog X.w X.K X.mg X.base A' X.stack s H := by
    have e := I.env0
    exact ⟨by rw [hfr]; exact e.frames, e.mod, e.bs, e.bsz, e.funs, e.frf, e.hok, e.bare⟩
  have b := hb s us I.kIn (by rw [List.append_nil]; exact hl)
  rw [List.append_nil] at b
  refine wpAny_call (codeAny_mono (F.run A' X.stack s H ⟨us, []⟩ us vs Q (E σ) hr e0 b r h) fun r s' hq => ?_)
  cases r with
  | error e => exact hx pins H s e s' I hq
  | ok fl =>
    cases fl with
    | ret u => exact I.after hq
    | next => exact False.elim hq
    | brk => exact False.elim hq
    | cont => exact False.elim hq
/-- what comes back is no NotImplemented -/
theorem back_ok {pins : List (Addr × Obj)} {σ : L2.St} {Q : VK} {u : Value} {s : Shared} (h : EP X pins σ Q u s) : PySem.W.CmpBack (EP X pins σ Q) u s := by
  obtain ⟨v, H, I, r, q⟩ := h
  have h' : EP X pins σ Q u s := ⟨v, H, I, r, q⟩
  cases v with
  | non => cases r; exact h'
  | bl b => cases r; exact h'
  | int i => obtain ⟨t, rfl⟩ := r; exact h'
  | str i => obtain ⟨t, rfl⟩ := r; exact h'
  | byt i => obtain ⟨t, rfl⟩ := r; exact h'
  | flt i => obtain ⟨t, rfl⟩ := r; exact h'
  | ref a => cases r; exact h'
  | ty n => cases r; exact h'
/-- x's own method on x and y; P what is asked of y -/
def tOwn2 (C : Addr) (sp : Sp) (E : L2.St → XK) (P : V → Hp → Prop) (ta tb : TE) : TE := fun σ H Q => ta σ H fun x H1 => tb σ H1 fun y H2 => ∃ p dx fs, x = .ref p ∧ H2 p = some (.ins C dx fs) ∧ P y H2 ∧ sp [x, y] H2 Q (E σ)
def tOwn1 (C : Addr) (sp : Sp) (E : L2.St → XK) (ta : TE) : TE := fun σ H Q => ta σ H fun x H1 => ∃ p dx fs, x = .ref p ∧ H1 p = some (.ins C dx fs) ∧ sp [x] H1 Q (E σ)
def tOwnIn (C : Addr) (neg : Bool) (sp : Sp) (E : L2.St → XK) (ta tb : TE) : TE := fun σ H Q => ta σ H fun x H1 => tb σ H1 fun y H2 => ∃ p dx fs, y = .ref p ∧ H2 p = some (.ins C dx fs) ∧ sp [y, x] H2 (fun v H3 => ∃ b, v = .bl b ∧ Q (.bl (b != neg)) H3) (E σ)
def PAny : V → Hp → Prop := fun _ _ => True
def PIns (C : Addr) : V → Hp → Prop := fun y H => ∃ p dx fs, y = .ref p ∧ H p = some (.ins C dx fs)
def PInt : V → Hp → Prop := fun y _ => ∃ i, y = .int i
theorem pe_subO (F : FnOk X.prog X.w X.K X.mg X.base CX k f fd ps sp) (hr : Room (k + 1) X.A) (hs : PySem.W.findIn X.K (.ref C) "__getitem__" = some (some (.ref f))) (hf : PySem.W.fnIn X.K f = true) (hfn : PySem.W.isFn X.K (.ref f) = true) (hb : Binds X.K fd ps []) (hx : ∀ σ, PassesAt CX X σ (E σ)) (ha : PE X a ta) (hi : PE X b tb)
    (hsl : ∀ x i, subscripted b true x i = runValue (.builtin "lifetime.subscript" ⟨[x, i], []⟩) := by intro _ _; with_unfolding_all rfl) : PE X (.Subscript a b pos) (tOwn2 C sp E PAny ta tb) := by
  refine ⟨fun pins s σ H Q I h => ?_⟩
  refine Subscript_ (binT ha hi I h fun v u s2 x y H2 I2 rx ry q => ?_)
  obtain ⟨p, dx, fs, rfl, hp, _, q⟩ := q
  obtain rfl : v = Value.ref p := rx
  obtain ⟨mA, J, _⟩ := ins_get I2.hok hp
  obtain ⟨od, J, _⟩ := J.look
  obtain ⟨m, hF⟩ := I2.fr
  exact PySem.W.sub_K hF I2.ok.mod.kin J hs hf hfn (run_fnAt F hr.in1 rfl hb (hx σ) I2 (vs := [V.ref p, y]) (us := [Value.ref p, u]) (.cons (show RelV (.ref p) (.ref p) from rfl) (.cons ry .nil)) q) (hsl _ _)
theorem pe_addO {op : Operator} (F : FnOk X.prog X.w X.K X.mg X.base CX k f fd ps sp) (hr : Room k X.A) (hc : PySem.W.selfFirst X.K C = true) (hs : PySem.W.findIn X.K (.ref C) (PySem.dunder op.info.2) = some (some (.ref f))) (hfn : PySem.W.isFn X.K (.ref f) = true) (hb : Binds X.K fd ps []) (hx : ∀ σ, PassesAt CX X σ (E σ)) (ha : PE X a ta) (hi : PE X b tb) :
    PE X (.BinOp a op b pos) (tOwn2 C sp E (PIns C) ta tb) := by
  refine ⟨fun pins s σ H Q I h => ?_⟩
  refine wpAny_BinOp (binT ha hi I h fun v u s2 x y H2 I2 rx ry q => ?_)
  obtain ⟨p, dx, fs, rfl, hp, ⟨p', dx', fs', rfl, hp'⟩, q⟩ := q
  obtain rfl : v = Value.ref p := rx
  obtain rfl : u = Value.ref p' := ry
  obtain ⟨mA, J, _⟩ := ins_get I2.hok hp
  obtain ⟨od, J, _⟩ := J.look
  obtain ⟨mA', J', _⟩ := ins_get I2.hok hp'
  obtain ⟨od', J', _⟩ := J'.look
  obtain ⟨m, hF⟩ := I2.fr
  exact PySem.W.binop_K hF I2.ok.mod.kin J J'.type hc hs hfn (wpAny_mono (run_fnAt F hr rfl hb (hx σ) I2 (vs := [V.ref p, .ref p']) (us := [Value.ref p, .ref p']) (.cons (show RelV (.ref p) (.ref p) from rfl) (.cons (show RelV (.ref p') (.ref p') from rfl) .nil)) q) (fun _ _ z => back_ok z) fun _ _ z => z)
theorem pe_mulO {op : Operator} {fo ro rc : Option Value} (F : FnOk X.prog X.w X.K X.mg X.base CX k f fd ps sp) (hr : Room k X.A) (hc : PySem.W.selfFirst X.K C = true) (hs : PySem.W.findIn X.K (.ref C) (PySem.dunder op.info.2) = some (some (.ref f))) (hfn : PySem.W.isFn X.K (.ref f) = true) (hrr : PySem.W.findIn X.K (.ref C) (dunderR op.info.2) = some rc) (hp : rc = none ∨ ∃ g : Addr, rc = some (.ref g))
    (h1 : PySem.W.findIn X.K (.type "int") (PySem.dunder op.info.2) = some fo) (h2 : PySem.W.findIn X.K (.type "int") (dunderR op.info.2) = some ro) (hsub : PySem.W.subIn X.K (.type "int") (.ref C) = some false) (hb : Binds X.K fd ps []) (hx : ∀ σ, PassesAt CX X σ (E σ)) (ha : PE X a ta) (hi : PE X b tb) :
    PE X (.BinOp a op b pos) (tOwn2 C sp E PInt ta tb) := by
  refine ⟨fun pins s σ H Q I h => ?_⟩
  refine wpAny_BinOp (binT ha hi I h fun v u s2 x y H2 I2 rx ry q => ?_)
  obtain ⟨p, dx, fs, rfl, hp', ⟨i, rfl⟩, q⟩ := q
  obtain rfl : v = Value.ref p := rx
  obtain ⟨t, rfl⟩ := ry
  obtain ⟨mA, J, _⟩ := ins_get I2.hok hp'
  obtain ⟨od, J, _⟩ := J.look
  obtain ⟨m, hF⟩ := I2.fr
  exact PySem.W.ksp_binT hF I2.ok.mod.kin J rfl hc hs hfn hrr hp h1 h2 hsub (wpAny_mono (run_fnAt F hr rfl hb (hx σ) I2 (vs := [V.ref p, .int i]) (us := [Value.ref p, .int i t]) (.cons (show RelV (.ref p) (.ref p) from rfl) (.cons ⟨t, rfl⟩ .nil)) q) (fun _ _ z => back_ok z) fun _ _ z => z)
theorem pe_negO (F : FnOk X.prog X.w X.K X.mg X.base CX k f fd ps sp) (hr : Room k X.A) (hs : PySem.W.findIn X.K (.ref C) "__neg__" = some (some (.ref f))) (hfn : PySem.W.isFn X.K (.ref f) = true) (hb : Binds X.K fd ps []) (hx : ∀ σ, PassesAt CX X σ (E σ)) (ha : PE X a ta) : PE X (.UnaryOp .USub a pos) (tOwn1 C sp E ta) := by
  refine ⟨fun pins s σ H Q I h => ?_⟩
  refine UnaryOp_ (thn (ha.run pins s σ H _ I h) fun v s1 ⟨x, H1, I1, r1, q1⟩ => ?_)
  obtain ⟨p, dx, fs, rfl, hp, q⟩ := q1
  obtain rfl : v = Value.ref p := r1
  obtain ⟨mA, J, _⟩ := ins_get I1.hok hp
  obtain ⟨od, J, _⟩ := J.look
  obtain ⟨m, hF⟩ := I1.fr
  exact PySem.W.ksp_neg hF I1.ok.mod.kin J hs hfn (run_fnAt F hr rfl hb (hx σ) I1 (vs := [V.ref p]) (us := [Value.ref p]) (.cons (show RelV (.ref p) (.ref p) from rfl) .nil) q)
/-- x == y, both of one class; y a list -/
theorem pe_eqO (F : FnOk X.prog X.w X.K X.mg X.base CX k f fd ps sp) (hr : Room k X.A) (hn : PySem.W.notFirst X.K C (.ref C) = true) (hs : PySem.W.findIn X.K (.ref C) "__eq__" = some (some (.ref f))) (hfn : PySem.W.isFn X.K (.ref f) = true) (hb : Binds X.K fd ps []) (hx : ∀ σ, PassesAt CX X σ (E σ)) (ha : PE X a ta) (hi : PE X b tb) :
    PC X .Eq a b (tOwn2 C sp E (PIns C) ta tb) := by
  refine ⟨fun pins s σ H Q I h => ?_⟩
  refine binT ha hi I h fun v u s2 x y H2 I2 rx ry q => ?_
  obtain ⟨p, dx, fs, rfl, hp, ⟨p', dx', fs', rfl, hp'⟩, q⟩ := q
  obtain rfl : v = Value.ref p := rx
  obtain rfl : u = Value.ref p' := ry
  obtain ⟨mA, J, _⟩ := ins_get I2.hok hp
  obtain ⟨od, J, _⟩ := J.look
  obtain ⟨mA', J', _⟩ := ins_get I2.hok hp'
  obtain ⟨od', J', _⟩ := J'.look
  obtain ⟨m, hF⟩ := I2.fr
  exact PySem.W.cmp_K (op := .Eq) (by have := u64 hr; omega) hF I2.ok.mod.kin J J'.type hn hs hfn (wpAny_mono (run_fnAt F hr rfl hb (hx σ) I2 (vs := [V.ref p, .ref p']) (us := [Value.ref p, .ref p']) (.cons (show RelV (.ref p) (.ref p) from rfl) (.cons (show RelV (.ref p') (.ref p') from rfl) .nil)) q) (fun _ _ z => back_ok z) fun _ _ z => z)
theorem pc_inO {neg : Bool} (F : FnOk X.prog X.w X.K X.mg X.base CX k f fd ps sp) (hr : Room k X.A) (hs : PySem.W.findIn X.K (.ref C) "__contains__" = some (some (.ref f))) (hfn : PySem.W.isFn X.K (.ref f) = true) (hb : Binds X.K fd ps []) (hx : ∀ σ, PassesAt CX X σ (E σ)) (ha : PE X a ta) (hi : PE X b tb) :
    PC X (if neg then .NotIn else .In) a b (tOwnIn C neg sp E ta tb) := by
  refine ⟨fun pins s σ H Q I h => ?_⟩
  refine binT ha hi I h fun v u s2 x y H2 I2 rx ry q => ?_
  obtain ⟨p, dx, fs, rfl, hp, q⟩ := q
  obtain rfl : u = Value.ref p := ry
  obtain ⟨mA, J, _⟩ := ins_get I2.hok hp
  obtain ⟨od, J, _⟩ := J.look
  obtain ⟨m, hF⟩ := I2.fr
  have run := run_fnAt F hr rfl hb (hx σ) I2 (vs := [V.ref p, x]) (us := [Value.ref p, v]) (.cons (show RelV (.ref p) (.ref p) from rfl) (.cons rx .nil)) q
  have fin : ∀ {u : Value} {s' : Shared} {g : Bool → Bool}, (∀ b, g b = (b != neg)) → EP X pins σ (fun v H3 => ∃ b, v = .bl b ∧ Q (.bl (b != neg)) H3) u s' → wpAny (model X.prog X.w) X.A (truthy u) (fun b => EP X pins σ Q (.bool (g b))) X.xe s' := by
    intro u s' g hg ⟨v, H3, I3, r3, b, e, q3⟩
    subst e
    cases r3
    refine wpAny_truthy_bool ⟨.bl (b != neg), H3, I3, ?_, q3⟩
    rw [hg]
    rfl
  cases neg with
  | false => exact PySem.W.in_K hF I2.ok.mod.kin J hs hfn (wpAny_mono run (fun _ _ z => fin (g := fun b => b) (fun b => by cases b <;> rfl) z) fun _ _ z => z)
  | true => exact PySem.W.notIn_K hF I2.ok.mod.kin J hs hfn (wpAny_mono run (fun _ _ z => fin (g := fun b => !b) (fun b => by cases b <;> rfl) z) fun _ _ z => z)
end
end AM
set_option Elab.async false
set_option linter.all false
set_option maxRecDepth 100000
set_option maxHeartbeats 4000000
namespace AM
open PySem PySem.Spec PyProof.Rows L2 Evl
/-! ### lists and tuples alike: zip, enumerate -/
def SqA (K : PySem.W.Frag) (t : Bool) (H : Hp) (a : Addr) (xs : List V) : Prop := if t = true then SqT K H a xs else SqL K H a xs
def ItAt (t : Bool) (h : Heap) (it a : Addr) (i : Nat) : Prop := if t = true then h.IsTupleIter it a i else h.IsListIter it a i
def IsSq (t : Bool) (h : Heap) (a : Addr) (its : Array Value) : Prop := if t = true then h.IsTuple a its else h.IsList a its
def itObj (t : Bool) (a : Addr) : Obj := if t = true then { cls := .type "tuple_iterator", data := .fields #[.ref a, .int 0 0] } else { cls := .type "list_iterator", data := .fields #[.ref a, .int 0 0] }
theorem draws_sq {prog : Program} {w : World} {A : Around} {t : Bool} (hh : A.handled = none) (it a : Addr) (hne : a ≠ it) (items : Array Value) : Draws prog w A it [it, a] items.size (fun i v => items[i]? = some v) (fun i h => ItAt t h it a i ∧ IsSq t h a items) := by
  cases t
  · exact Draws.list hh it a hne items
  · exact Draws.tuple hh it a hne items
theorem begins_sq {t : Bool} (a : Addr) (items : Array Value) : Begins (.ref a) (itObj t a) fun h => IsSq t h a items := by
  cases t
  · exact begins_list a items
  · exact begins_tuple a items
theorem itAt_new {t : Bool} {h : Heap} {it a : Addr} (e : h.get? it = some (itObj t a)) : ItAt t h it a 0 := by
  cases t
  · exact ⟨_, e, rfl, rfl⟩
  · exact ⟨_, e, rfl, rfl⟩
theorem ItAt.obj {t : Bool} {h : Heap} {it a : Addr} {i : Nat} (x : ItAt t h it a i) : ∃ o, h.get? it = some o ∧ ∀ v, o.data ≠ .cell v := by
  cases t
  · obtain ⟨o, e, _, d⟩ := (show h.IsListIter it a i from x)
    exact ⟨o, e, fun v q => by rw [d] at q; cases q⟩
  · obtain ⟨o, e, _, d⟩ := (show h.IsTupleIter it a i from x)
    exact ⟨o, e, fun v q => by rw [d] at q; cases q⟩
theorem ItAt.at {t : Bool} {h h' : Heap} {it a : Addr} {i : Nat} (x : ItAt t h it a i) (k : ∀ o, h.get? it = some o → h'.get? it = some o) : ItAt t h' it a i := by
  cases t
  · exact (show h.IsListIter it a i from x).at k
  · exact (show h.IsTupleIter it a i from x).at k
theorem ItAt.lt {t : Bool} {h : Heap} {it a : Addr} {i : Nat} (x : ItAt t h it a i) : it < h.objs.size := by
  obtain ⟨o, e, _⟩ := x.obj
  exact Heap.lt_size e
section
variable {X : Cx} {pins : List (Addr × Obj)} {σ : L2.St} {H : Hp} {s : Shared}
theorem inv_sq {t : Bool} {a : Addr} {xs : List V} (I : Inv X pins σ H s) (h : SqA X.K t H a xs) : ∃ its, Vals xs its ∧ IsSq t s.heap a its.toArray ∧ xs.length ≤ sizeLine ∧ a < s.heap.objs.size := by
  cases t
  · obtain ⟨its, r, p, hz⟩ := I.list (show SqL X.K H a xs from h)
    exact ⟨its, r, p.isList, hz, p.lt⟩
  · obtain ⟨its, r, p, hz⟩ := I.tuple (show SqT X.K H a xs from h)
    have p' : s.heap.IsTuple a its.toArray := p
    refine ⟨its, r, p', hz, ?_⟩
    obtain ⟨o, e, _⟩ := p'
    exact Heap.lt_size e
theorem sq_inj {t : Bool} {a : Addr} {xs ys : List V} (I : Inv X pins σ H s) (h : SqA X.K t H a xs) (h' : SqA X.K t H a ys) : xs = ys := by
  cases t
  · exact I.list_inj (show SqL X.K H a xs from h) (show SqL X.K H a ys from h')
  · exact I.tuple_inj (show SqT X.K H a xs from h) (show SqT X.K H a ys from h')
end
/-- the two as they stand at each turn, the items in new pairs -/
def Itz2 (K : PySem.W.Frag) (t u : Bool) (a b : Addr) : It :=
  ⟨fun i H => ∃ (xs ys : List V) (x y : V), SqA K t H a xs ∧ SqA K u H b ys ∧ xs[i]? = some x ∧ ys[i]? = some y,
    fun i H v H' => ∃ T x y, v = .ref T ∧ H T = none ∧ H' = upd H T (.tup [x, y]) ∧ (∀ xs, SqA K t H a xs → xs[i]? = some x) ∧ ∀ ys, SqA K u H b ys → ys[i]? = some y,
    fun i H => ∃ xs ys : List V, SqA K t H a xs ∧ SqA K u H b ys ∧ i ≤ xs.length ∧ i ≤ ys.length ∧ (i = xs.length ∨ i = ys.length)⟩
theorem turn_zip2 {P : Program} {w : World} {K : PySem.W.Frag} {t u : Bool} {elts : List Expr} {kk : Nat} {tpos : Pos} {a b z TI TO i1 i2 : Addr} (D : ZipSep2 z TI TO i1 i2 [i1, a] [i2, b]) (na : a ≠ i1) (nb : b ≠ i2) :
    Turn P w K (.Tuple elts kk tpos) (Itz2 K t u a b) [z, TI, TO, i1, i2] z (fun i h => IsZip h z TI TO .none ∧ IsTupOf2 h TI (.ref i1) (.ref i2) ∧ (∃ x y, IsTupOf2 h TO x y) ∧ ItAt t h i1 a i ∧ ItAt u h i2 b i) where
  mem := by simp
  obj := fun i h st c hc => by
    obtain ⟨hz, hTI, ⟨x, y, hTO⟩, h1, h2⟩ := st
    have e' : c = z ∨ c = TI ∨ c = TO ∨ c = i1 ∨ c = i2 := by simpa using hc
    rcases e' with q | q | q | q | q
    · rw [q]; exact ⟨_, hz, fun v q => nomatch q⟩
    · rw [q]; exact ⟨_, hTI, fun v q => nomatch q⟩
    · rw [q]; exact ⟨_, hTO, fun v q => nomatch q⟩
    · rw [q]; exact h1.obj
    · rw [q]; exact h2.obj
  keep := fun i h h' st k => by
    obtain ⟨hz, hTI, ⟨x, y, hTO⟩, h1, h2⟩ := st
    exact ⟨k z (by simp) _ hz, k TI (by simp) _ hTI, ⟨x, y, k TO (by simp) _ hTO⟩, h1.at fun o q => k i1 (by simp) o q, h2.at fun o q => k i2 (by simp) o q⟩
  item := by
    intro X hP hw hK hc i pins s σ H E I hf st hg
    subst hP hw hK
    obtain ⟨hz, hTI, ⟨x0, y0, hTO⟩, h1, h2⟩ := st
    obtain ⟨xs, ys, x, y, hqx, hqy, hx, hy⟩ := hg
    obtain ⟨its, rv, p, _, la⟩ := inv_sq I hqx
    obtain ⟨its2, rv2, p2, _, lb⟩ := inv_sq I hqy
    obtain ⟨v1, hu, ru⟩ := rv.get hx
    obtain ⟨v2, hu2, ru2⟩ := rv2.get hy
    have hzl : z < s.heap.objs.size := Heap.lt_size hz
    have hd : X.A.in1.handled = none := I.ok.hd hc
    have d1 := draws_sq (prog := X.prog) (w := X.w) (A := X.A.in1) (t := t) hd i1 a na its.toArray
    have d2 := draws_sq (prog := X.prog) (w := X.w) (A := X.A.in1) (t := u) hd i2 b nb its2.toArray
    refine wpAny_pyNext_zipD2_item D d1 d2 hz hTI hTO ⟨h1, p⟩ ⟨h2, p2⟩ (by rw [List.size_toArray, ← rv.length]; exact (List.getElem?_eq_some_iff.mp hx).1) (by rw [List.size_toArray, ← rv2.length]; exact (List.getElem?_eq_some_iff.mp hy).1) fun w1 w2 h' tk e1 e2 z' TO' h1' h2' hT hsz hk => ?_
    have e1 : some v1 = some w1 := by rw [← hu, ← e1]; simp
    have e2 : some v2 = some w2 := by rw [← hu2, ← e2]; simp
    cases e1
    cases e2
    refine ⟨_, rfl, wpAny_letOwnedTupleGo_zip (s := { s with heap := h', toks := tk }) z' fun h'' z'' sb => ?_⟩
    have hT2 : h''.get? s.heap.objs.size = some { cls := .type "tuple", data := .seq #[v1, v2] } := (sb.2 _ (Nat.ne_of_gt hzl)).trans hT
    have new : ObjOk X.prog X.w (upd H s.heap.objs.size (.tup [x, y])) h'' s.heap.objs.size (.tup [x, y]) :=
      ⟨by show 2 ≤ sizeLine; decide, [v1, v2], .cons ru (.cons ru2 .nil), ⟨_, hT2, rfl, _, rfl⟩⟩
    have I1 : Inv X pins σ (upd H s.heap.objs.size (.tup [x, y])) { s with heap := h'', toks := tk } :=
      I.turnedNew (t' := tk) (ch := [z, TI, TO, i1, i2]) (fun c o hb q => (sb.2 c (fun q' => hb (by simp [q']))).trans (hk c o (fun q' => hb (by simp [q'])) (fun q' => hb (by simp [q'])) (fun q' => hb (by simp [q'])) (fun q' => hb (by simp [q'])) q)) hf (Nat.le_refl _) new
    refine ⟨.ref s.heap.objs.size, _, I1, rfl, ⟨_, x, y, rfl, I.hok.fresh (Nat.le_refl _), rfl, fun l hl => by rw [sq_inj I hl hqx]; exact hx, fun l hl => by rw [sq_inj I hl hqy]; exact hy⟩, ⟨z'', ?_, ⟨v1, v2, ?_⟩, ?_, ?_⟩, fun c hcm => ?_⟩
    · exact (sb.2 _ D.TIz).trans (hk _ _ D.TIz D.TITO D.TIi1 D.TIi2 hTI)
    · exact (sb.2 _ D.TOz).trans TO'
    · exact h1'.1.at fun o q => (sb.2 _ (Ne.symm D.zi1)).trans q
    · exact h2'.1.at fun o q => (sb.2 _ (Ne.symm D.zi2)).trans q
    · have hlt : c < s.heap.objs.size := by
        have e' : c = z ∨ c = TI ∨ c = TO ∨ c = i1 ∨ c = i2 := by simpa using hcm
        rcases e' with q | q | q | q | q
        · rw [q]; exact hzl
        · rw [q]; exact Heap.lt_size hTI
        · rw [q]; exact Heap.lt_size hTO
        · rw [q]; exact h1.lt
        · rw [q]; exact h2.lt
      rw [upd_ne (Nat.ne_of_lt hlt)]
      exact (hf c hcm).1
  done := by
    intro X hP hw hK hc i pins s σ H E I hf st hg
    subst hP hw hK
    obtain ⟨hz, hTI, ⟨x0, y0, hTO⟩, h1, h2⟩ := st
    obtain ⟨xs, ys, hqx, hqy, hl1, hl2, hend⟩ := hg
    obtain ⟨its, rv, p, _, la⟩ := inv_sq I hqx
    obtain ⟨its2, rv2, p2, _, lb⟩ := inv_sq I hqy
    have hd : X.A.in1.handled = none := I.ok.hd hc
    have d1 := draws_sq (prog := X.prog) (w := X.w) (A := X.A.in1) (t := t) hd i1 a na its.toArray
    have d2 := draws_sq (prog := X.prog) (w := X.w) (A := X.A.in1) (t := u) hd i2 b nb its2.toArray
    rw [rv.length] at hl1 hend
    rw [rv2.length] at hl2 hend
    exact wpAny_pyNext_zipD2_end D d1 d2 hz hTI hTO ⟨h1, p⟩ ⟨h2, p2⟩ (by rw [List.size_toArray]; exact hl1) (by rw [List.size_toArray]; exact hl2) (by rw [List.size_toArray, List.size_toArray]; exact hend) fun h' tk hk => ⟨rfl, I.turnedL (t' := tk) (ch := [z, TI, TO, i1, i2]) (fun c o hb q =>
      hk c o (fun q' => hb (by simp [q'])) (fun q' => hb (by simp [q'])) (fun q' => hb (by simp [q'])) (fun q' => hb (by simp [q'])) q) hf⟩
  self := fun A i s Q E st h => wpAny_pyIter_zip st.1 h
def iZip2 (K : PySem.W.Frag) (ta : TA) : TI := fun σ H R => ta σ H fun vs H1 => ∃ a b t u xs ys, vs = [.ref a, .ref b] ∧ SqA K t H1 a xs ∧ SqA K u H1 b ys ∧ R (Itz2 K t u a b) H1
theorem pi_zip2 {X : Cx} {e e2 : Expr} {ta : TA} {p pos tpos : Pos} {elts : List Expr} {kk : Nat} (hg : Gl X "zip") (hm : X.mg "zip" = none) (ha : PA X [e, e2] ta)
    (hs : starEach [e, e2] X.env = (false, eval e X.env) :: starEach [e2] X.env := by rfl) (hpl : (backTo pos (starEach [e2] X.env)).any (·.1) = false := by rfl) :
    PI X (.Tuple elts kk tpos) (.Call (.Name "zip" p) [e, e2] [] pos) (iZip2 X.K ta) := by
  refine ⟨fun pins s σ H R I h => ?_⟩
  refine Call_ (ld_blt I hg hm PyProof.Rows.boot_zip (PyProof.Rows.callWith_type1 (thn (ha.run pos pins s σ H _ I h) fun us s1 ⟨vs, H1, I1, r1, q1⟩ => ?_) hs hpl))
  obtain ⟨a, b, t, u, xs, ys, ex, hqx, hqy, q⟩ := q1
  subst ex
  cases r1 with
  | cons r rr =>
    cases rr with
    | cons r' rr =>
      cases rr
      cases r
      cases r'
      obtain ⟨its, rv, p1, _, la⟩ := inv_sq I1 hqx
      obtain ⟨its2, rv2, p2, _, lb⟩ := inv_sq I1 hqy
      refine zip_begins2 (begins_sq (t := t) a its.toArray) (begins_sq (t := u) b its2.toArray) p1 p2 fun h' hz hTI hTO h1 h2 hsz hk => wpAny_pyIter_zip hz ?_
      have I2 : Inv X pins σ H1 { s1 with heap := h' } := I1.kept (t' := s1.toks) hk
      refine ⟨s1.heap.objs.size + 4, [s1.heap.objs.size + 4, s1.heap.objs.size + 2, s1.heap.objs.size + 3, s1.heap.objs.size, s1.heap.objs.size + 1], _, _, H1, rfl, I2, turn_zip2 (t := t) (u := u) (zip_sep2 (fp1 := [a]) (fp2 := [b]) (by simpa using la) (by simpa using lb)) (Nat.ne_of_lt la) (Nat.ne_of_lt (Nat.lt_succ_of_lt lb)), ⟨hz, hTI, ⟨_, _, hTO⟩, itAt_new h1, itAt_new h2⟩, fun c hcm => ?_, q⟩
      have e' : c = s1.heap.objs.size + 4 ∨ c = s1.heap.objs.size + 2 ∨ c = s1.heap.objs.size + 3 ∨ c = s1.heap.objs.size ∨ c = s1.heap.objs.size + 1 := by simpa using hcm
      have hle : s1.heap.objs.size ≤ c := by
        rcases e' with z | z | z | z | z
        · rw [z]; exact Nat.le_add_right _ _
        · rw [z]; exact Nat.le_add_right _ _
        · rw [z]; exact Nat.le_add_right _ _
        · rw [z]; exact Nat.le_refl _
        · rw [z]; exact Nat.le_add_right _ _
      exact I1.fpOk hle (I1.hok.fresh hle)
/-- enumerate -/
def Ite2 (K : PySem.W.Frag) (t : Bool) (a : Addr) : It :=
  ⟨fun i H => ∃ (xs : List V) (x : V), SqA K t H a xs ∧ xs[i]? = some x,
    fun i H v H' => ∃ T x, v = .ref T ∧ H T = none ∧ H' = upd H T (.tup [.int (i : Nat), x]) ∧ ∀ xs, SqA K t H a xs → xs[i]? = some x,
    fun i H => ∃ xs : List V, SqA K t H a xs ∧ i = xs.length⟩
theorem turn_enum2 {P : Program} {w : World} {K : PySem.W.Frag} {t : Bool} {elts : List Expr} {kk : Nat} {tpos : Pos} (a e it : Addr) (na : a ≠ it) (ne : e ≠ a) :
    Turn P w K (.Tuple elts kk tpos) (Ite2 K t a) [e, it] e (fun i h => (∃ old, IsEnum h e it (i : Int) old) ∧ ItAt t h it a i ∧ e ≠ it) where
  mem := by simp
  obj := fun i h st c hc => by
    obtain ⟨⟨old, he⟩, hit, _⟩ := st
    have e' : c = e ∨ c = it := by simpa using hc
    rcases e' with z | z
    · rw [z]; exact ⟨_, he, fun v q => nomatch q⟩
    · rw [z]; exact hit.obj
  keep := fun i h h' st k => let ⟨⟨old, he⟩, hi, hne⟩ := st; ⟨⟨old, k e (by simp) _ he⟩, hi.at fun o q => k it (by simp) o q, hne⟩
  item := by
    intro X hP hw hK hc i pins s σ H E I hf st hg
    subst hP hw hK
    obtain ⟨⟨old, he⟩, hit, hne⟩ := st
    obtain ⟨xs, x, hq, hx⟩ := hg
    obtain ⟨its, rv, p, _, la⟩ := inv_sq I hq
    obtain ⟨u, hu, ru⟩ := rv.get hx
    have hel : e < s.heap.objs.size := Heap.lt_size he
    have hil : it < s.heap.objs.size := hit.lt
    have hd : X.A.in1.handled = none := I.ok.hd hc
    have d1 := draws_sq (prog := X.prog) (w := X.w) (A := X.A.in1) (t := t) hd it a na its.toArray
    refine wpAny_pyNext_enum_itemD d1 he ⟨hit, p⟩ (by rw [List.size_toArray, ← rv.length]; exact (List.getElem?_eq_some_iff.mp hx).1) hne (by simp [hne, ne]) fun w1 h' tk e1 ho hit' hT hsz hk => ?_
    have e1 : some u = some w1 := by rw [← hu, ← e1]; simp
    cases e1
    refine ⟨_, rfl, wpAny_letOwnedTupleGo_enum (s := { s with heap := h', toks := tk + 1 }) ho fun h'' he' sb => ?_⟩
    have hT2 : h''.get? s.heap.objs.size = some { cls := .type "tuple", data := .seq #[.int i tk, u] } := (sb.2 _ (Nat.ne_of_gt hel)).trans hT
    have new : ObjOk X.prog X.w (upd H s.heap.objs.size (.tup [.int (i : Nat), x])) h'' s.heap.objs.size (.tup [.int (i : Nat), x]) :=
      ⟨by show 2 ≤ sizeLine; decide, [.int i tk, u], .cons ⟨_, rfl⟩ (.cons ru .nil), ⟨_, hT2, rfl, _, rfl⟩⟩
    have I1 : Inv X pins σ (upd H s.heap.objs.size (.tup [.int (i : Nat), x])) { s with heap := h'', toks := tk + 1 } :=
      I.turnedNew (ch := [e, it]) (fun b ob hb q => (sb.2 b (fun z => hb (by simp [z]))).trans (hk b ob (fun z => hb (by simp [z])) (fun z => hb (by simp [z])) q)) hf (Nat.le_refl _) new
    refine ⟨.ref s.heap.objs.size, _, I1, rfl, ⟨_, x, rfl, I.hok.fresh (Nat.le_refl _), rfl, fun ys hy => by rw [sq_inj I hy hq]; exact hx⟩, ⟨⟨u, ?_⟩, hit'.1.at fun o q => (sb.2 it (Ne.symm hne)).trans q, hne⟩, fun b hb => ?_⟩
    · have e1 : ((i + 1 : Nat) : Int) = (i : Int) + 1 := by omega
      rw [e1]; exact he'
    · have hb' : b < s.heap.objs.size := by
        have e' : b = e ∨ b = it := by simpa using hb
        rcases e' with z | z
        · rw [z]; exact hel
        · rw [z]; exact hil
      rw [upd_ne (Nat.ne_of_lt hb')]
      exact (hf b hb).1
  done := by
    intro X hP hw hK hc i pins s σ H E I hf st hg
    subst hP hw hK
    obtain ⟨⟨old, he⟩, hit, hne⟩ := st
    obtain ⟨xs, hq, hx⟩ := hg
    obtain ⟨its, rv, p, _, la⟩ := inv_sq I hq
    obtain ⟨f0, f1, f2, f3, f4, f5⟩ := hf it (by simp)
    have hd : X.A.in1.handled = none := I.ok.hd hc
    have d1 := draws_sq (prog := X.prog) (w := X.w) (A := X.A.in1) (t := t) hd it a na its.toArray
    have hl := rv.length
    have ei : its.toArray.size = i := by rw [List.size_toArray]; omega
    exact wpAny_pyNext_enum_endD d1 he (by rw [ei]; exact ⟨hit, p⟩) fun h' eb => ⟨rfl, I.turned (t' := s.toks) (fun b o hb q => eb b o hb q) f0 f1 f3 f4 f5⟩
  self := fun A i s Q E st h => let ⟨⟨_, he⟩, _⟩ := st; wpAny_pyIter_enum he h
theorem meets_enum1 {v : Value} {o : Obj} {H : Heap → Prop} (B : Begins v o H) :
    Meets (Builtin.«enumerate.__new__» ⟨[.type "enumerate", v], []⟩) (fun _ R s => H s.heap ∧
      R (.ok (.ret (.ref (s.heap.push o).objs.size))) { s with heap := (s.heap.push o).push { cls := .type "enumerate", data := .fields #[.none, .bool false, .ref s.heap.objs.size, rawInt 0, .none, .none] } }) :=
  .of_wp fun prog w A R s h => by
    obtain ⟨hp, g, d, tk, os⟩ := s; obtain ⟨h1, h⟩ := h
    have hsub := sub_enumerate
    have q1 : ∀ {A' : Around} {E : Value → Shared → Prop} {Q : Value → Shared → Prop}, Q (.ref hp.objs.size) ⟨hp.push o, g, d, tk, os⟩ → wpAny (model prog w) A' (pyIter v) Q E ⟨hp, g, d, tk, os⟩ :=
      fun q => B.iter prog w _ _ ⟨hp, g, d, tk, os⟩ _ h1 q
    wp_walk using q1
    refine wpAny_stack_any fun st => wpAny_pure ?_
    split
    · rename_i c _ _ _ _ _
      cases (c == Value.type "enumerate")
      · wp_walk using q1
        exact ⟨_, rfl, h⟩
      · wp_walk using q1
        exact ⟨_, rfl, h⟩
    · wp_walk using q1
      exact ⟨_, rfl, h⟩
theorem enum_begins1 {prog : Program} {w : World} {A : Around} {E : Value → Shared → Prop} {s : Shared} {v : Value} {o : Obj} {H : Heap → Prop} {Q : Value → Shared → Prop} (B : Begins v o H) (h1 : H s.heap)
    (h : ∀ h', IsEnum h' (s.heap.objs.size + 1) s.heap.objs.size 0 .none → h'.get? s.heap.objs.size = some o → h'.objs.size = s.heap.objs.size + 2 →
      (∀ b o, s.heap.get? b = some o → h'.get? b = some o) → Q (.ref (s.heap.objs.size + 1)) { s with heap := h' }) :
    wpAny (model prog w) A (call (.type "enumerate") [v]) Q E s := by
  refine callType_new F.called_enumerate (by decide) (F.typeCall_enumerate_1 _) (F.newCall_enumerate_1 _) (fun obj => F.args_object_init_2 obj _) F.entry_enumerate_new
    (meets_enum1 B) ⟨h1, ?_⟩
  have hz : (s.heap.push o).objs.size = s.heap.objs.size + 1 := Heap.size_push ..
  show _ ∧ _
  rw [hz]
  have he : IsEnum ((s.heap.push o).push { cls := .type "enumerate", data := .fields #[.none, .bool false, .ref s.heap.objs.size, rawInt 0, .none, .none] }) (s.heap.objs.size + 1) s.heap.objs.size 0 .none := by
    have := Heap.get?_push_size (s.heap.push o) (o := { cls := .type "enumerate", data := .fields #[.none, .bool false, .ref s.heap.objs.size, rawInt 0, .none, .none] }) rfl
    rw [hz] at this; exact this
  refine ⟨⟨_, he, rfl⟩, h _ he (Heap.get?_push_of_some _ (Heap.get?_push_size _ B.free)) (by rw [Heap.size_push, hz]) fun b o x => Heap.get?_push_of_some _ (Heap.get?_push_of_some _ x)⟩
def iEnum2 (K : PySem.W.Frag) (ta : TA) : TI := fun σ H R => ta σ H fun vs H1 => ∃ a t xs, vs = [.ref a] ∧ SqA K t H1 a xs ∧ R (Ite2 K t a) H1
theorem pi_enum2 {X : Cx} {e : Expr} {ta : TA} {p pos tpos : Pos} {elts : List Expr} {kk : Nat} (hg : Gl X "enumerate") (hm : X.mg "enumerate" = none) (ha : PA X [e] ta) (hs : starEach [e] X.env = [(false, eval e X.env)] := by rfl) :
    PI X (.Tuple elts kk tpos) (.Call (.Name "enumerate" p) [e] [] pos) (iEnum2 X.K ta) := by
  refine ⟨fun pins s σ H R I h => ?_⟩
  refine Call_ (ld_blt I hg hm boot_enumerate (PyProof.Rows.callWith_type1 (thn (ha.run pos pins s σ H _ I h) fun us s1 ⟨vs, H1, I1, r1, q1⟩ => ?_) hs rfl))
  obtain ⟨a, t, xs, ex, hq, q⟩ := q1
  subst ex
  cases r1 with
  | cons r rr =>
    cases rr
    cases r
    obtain ⟨its, rv, p1, _, la⟩ := inv_sq I1 hq
    refine enum_begins1 (begins_sq (t := t) a its.toArray) p1 fun h' he hit hsz hk => wpAny_pyIter_enum he ?_
    have I2 : Inv X pins σ H1 { s1 with heap := h' } := I1.kept (t' := s1.toks) hk
    refine ⟨s1.heap.objs.size + 1, [s1.heap.objs.size + 1, s1.heap.objs.size], _, _, H1, rfl, I2, turn_enum2 (t := t) a (s1.heap.objs.size + 1) s1.heap.objs.size (Nat.ne_of_lt la) (Nat.ne_of_gt (Nat.lt_succ_of_lt la)), ⟨⟨.none, he⟩, itAt_new hit, Nat.succ_ne_self _⟩, fun b hb => ?_, q⟩
    have e' : b = s1.heap.objs.size + 1 ∨ b = s1.heap.objs.size := by simpa using hb
    have hle : s1.heap.objs.size ≤ b := by
      rcases e' with z | z
      · rw [z]; exact Nat.le_add_right _ _
      · rw [z]; exact Nat.le_refl _
    exact I1.fpOk hle (I1.hok.fresh hle)
/-! ### read by data -/
def zipD (l m : List D) : List D := List.zipWith (fun x y => .tup [x, y]) l m
def enumD (l : List D) : List D := l.zipIdx.map fun p => .tup [.int p.2, p.1]
def aZip (a b : AE) : AI := fun env st q er => a env st (fun x s1 => b env s1 (fun y s2 => ∃ l m, itemsD (vw s2 x) = some l ∧ itemsD (vw s2 y) = some m ∧ q (zipD l m) (gdOf s2 x ++ gdOf s2 y) s2) er) er
def aEnum (a : AE) : AI := fun env st q er => a env st (fun x s1 => ∃ l, itemsD (vw s1 x) = some l ∧ q (enumD l) (gdOf s1 x) s1) er
theorem gdOk_app {g g' : Gd} {st : S} : gdOk (g ++ g') st ↔ gdOk g st ∧ gdOk g' st := by
  unfold gdOk
  constructor
  · exact fun h => ⟨fun x hx => h x (List.mem_append_left _ hx), fun x hx => h x (List.mem_append_right _ hx)⟩
  · rintro ⟨h1, h2⟩ x hx
    rcases List.mem_append.mp hx with q | q
    · exact h1 x q
    · exact h2 x q
theorem walks_zip {K : PySem.W.Frag} {G : Gh} {g g' : Gd} {a b : Addr} {t u : Bool} {l m : List D} (h : ∀ G2 st2 H2, G.le G2 → SS K G2 st2 H2 → gdOk g st2 → ∃ us, Reps K G2 l us ∧ SqA K t H2 a us) (h' : ∀ G2 st2 H2, G.le G2 → SS K G2 st2 H2 → gdOk g' st2 → ∃ us, Reps K G2 m us ∧ SqA K u H2 b us) : Walks K G (Itz2 K t u a b) (zipD l m) (g ++ g') where
  stop := fun i G2 st H le s gk hi => by
    obtain ⟨g1, g2⟩ := gdOk_app.mp gk
    obtain ⟨us, r, q⟩ := h G2 st H le s g1
    obtain ⟨us', r', q'⟩ := h' G2 st H le s g2
    have e1 := r.length
    have e2 := r'.length
    unfold zipD at hi
    rw [List.length_zipWith] at hi
    exact ⟨us, us', q, q', by omega, by omega, by omega⟩
  go := fun i G2 st H le s gk hi => by
    obtain ⟨g1, g2⟩ := gdOk_app.mp gk
    obtain ⟨us, r, q⟩ := h G2 st H le s g1
    obtain ⟨us', r', q'⟩ := h' G2 st H le s g2
    have e1 := r.length
    have e2 := r'.length
    unfold zipD at hi
    rw [List.length_zipWith] at hi
    exact ⟨us, us', us[i]'(by omega), us'[i]'(by omega), q, q', List.getElem?_eq_getElem _, List.getElem?_eq_getElem _⟩
  yld := fun i G2 st H d x H' le s gk hd y => by
    obtain ⟨g1, g2⟩ := gdOk_app.mp gk
    obtain ⟨us, r, q⟩ := h G2 st H le s g1
    obtain ⟨us', r', q'⟩ := h' G2 st H le s g2
    obtain ⟨T, x1, y1, rfl, hT, rfl, f1, f2⟩ := y
    unfold zipD at hd
    rw [List.getElem?_zipWith] at hd
    cases hl : l[i]? with
    | none => rw [hl] at hd; cases hd
    | some d1 =>
      cases hm : m[i]? with
      | none => rw [hl, hm] at hd; cases hd
      | some d2 =>
        rw [hl, hm] at hd
        cases hd
        obtain ⟨v1, k1, r1⟩ := r.get hl
        obtain ⟨v2, k2, r2⟩ := r'.get hm
        have z1 := f1 us q
        have z2 := f2 us' q'
        rw [k1] at z1
        rw [k2] at z2
        cases z1
        cases z2
        exact .inr ⟨T, _, _, hT, rfl, rfl, rfl, .cons r1 (.cons r2 .nil)⟩
theorem walks_enum {K : PySem.W.Frag} {G : Gh} {g : Gd} {a : Addr} {t : Bool} {l : List D} (h : ∀ G2 st2 H2, G.le G2 → SS K G2 st2 H2 → gdOk g st2 → ∃ us, Reps K G2 l us ∧ SqA K t H2 a us) : Walks K G (Ite2 K t a) (enumD l) g where
  stop := fun i G2 st H le s gk hi => by
    obtain ⟨us, r, q⟩ := h G2 st H le s gk
    have e1 := r.length
    unfold enumD at hi
    rw [List.length_map, List.length_zipIdx] at hi
    exact ⟨us, q, by omega⟩
  go := fun i G2 st H le s gk hi => by
    obtain ⟨us, r, q⟩ := h G2 st H le s gk
    have e1 := r.length
    unfold enumD at hi
    rw [List.length_map, List.length_zipIdx] at hi
    exact ⟨us, us[i]'(by omega), q, List.getElem?_eq_getElem _⟩
  yld := fun i G2 st H d x H' le s gk hd y => by
    obtain ⟨us, r, q⟩ := h G2 st H le s gk
    obtain ⟨T, x1, rfl, hT, rfl, f1⟩ := y
    unfold enumD at hd
    rw [List.getElem?_map, List.getElem?_zipIdx] at hd
    cases hl : l[i]? with
    | none => rw [hl] at hd; cases hd
    | some d1 =>
      rw [hl] at hd
      obtain ⟨v1, k1, r1⟩ := r.get hl
      have z1 := f1 us q
      rw [k1] at z1
      cases z1
      have hd : D.tup [D.int ((0 + i : Nat) : Int), d1] = d := Option.some.inj hd
      rw [Nat.zero_add] at hd
      subst hd
      exact .inr ⟨T, _, _, hT, rfl, rfl, rfl, .cons (.int _) (.cons r1 .nil)⟩
section
variable {X : Cx} {W : WX} {e e2 : Expr} {ae ab : AE} {p pos tpos : Pos} {elts : List Expr} {kk : Nat}
theorem axi_zip (hm : X.mg "zip" = none) (h : AX X W e ae) (h' : AX X W e2 ab) (hg : Gl X "zip" := by rfl) (hs : starEach [e, e2] X.env = (false, eval e X.env) :: starEach [e2] X.env := by rfl) (hs2 : starEach [e2] X.env = [(false, eval e2 X.env)] := by rfl) (hpl : (backTo pos (starEach [e2] X.env)).any (·.1) = false := by rfl) :
    AXI X W (.Tuple elts kk tpos) (.Call (.Name "zip" p) [e, e2] [] pos) (aZip ae ab) := by
  obtain ⟨t, pe, r⟩ := h
  obtain ⟨t', pe', r'⟩ := h'
  refine ⟨_, pi_zip2 hg hm (pa_cons pe (pa_cons pe' pa_nil (by rw [hs2]; rfl)) (by rw [hs])) hs hpl, fun G env st σ H R q er s sl a t tX => r G env st σ H _ _ er s sl a (fun v d st2 G2 H2 p2 s2 r2 h2 => r' G2 env st2 σ H2 _ _ er s2 (sl.mono p2.le) h2 (fun v' d' st3 G3 H3 p3 s3 r3 h3 => ?_) (tX.on p2)) tX⟩
  obtain ⟨l, m, hl, hm, h3⟩ := h3
  obtain ⟨a, vs, tup, rfl, rs, gk, hh⟩ := rep_seq s3 (r2.mono p3.le) hl
  obtain ⟨b, vs', tup', rfl, rs', gk', hh'⟩ := rep_seq s3 r3 hm
  obtain ⟨us, _, q1⟩ := hh G3 st3 H3 (Gh.le.refl _) s3 gk
  obtain ⟨us', _, q2⟩ := hh' G3 st3 H3 (Gh.le.refl _) s3 gk'
  exact ⟨a, b, tup, tup', us, us', rfl, q1, q2, t _ _ _ st3 G3 H3 (p2.trans p3) s3 (walks_zip hh hh') h3⟩
theorem axi_enum (hm : X.mg "enumerate" = none) (h : AX X W e ae) (hg : Gl X "enumerate" := by rfl) (hs : starEach [e] X.env = [(false, eval e X.env)] := by rfl) :
    AXI X W (.Tuple elts kk tpos) (.Call (.Name "enumerate" p) [e] [] pos) (aEnum ae) := by
  obtain ⟨t, pe, r⟩ := h
  refine ⟨_, pi_enum2 hg hm (pa_cons pe pa_nil (by rw [hs]; rfl)) hs, fun G env st σ H R q er s sl a t tX => r G env st σ H _ _ er s sl a (fun v d st2 G2 H2 p2 s2 r2 h2 => ?_) tX⟩
  obtain ⟨l, hl, h2⟩ := h2
  obtain ⟨a, vs, tup, rfl, rs, gk, hh⟩ := rep_seq s2 r2 hl
  obtain ⟨us, _, q1⟩ := hh G2 st2 H2 (Gh.le.refl _) s2 gk
  exact ⟨a, tup, us, rfl, q1, t _ _ _ st2 G2 H2 p2 s2 (walks_enum hh) h2⟩
end
end AM
set_option Elab.async false
set_option linter.all false
set_option maxRecDepth 100000
set_option maxHeartbeats 4000000
namespace AM
open PySem PySem.Spec PyProof.Rows L2 Evl
/-! ### starred displays -/
def aStar (a : AE) (r : AEs) : AEs := fun env st q er => a env st (fun x s1 => ∃ l, itemsD (vw s1 x) = some l ∧ r env s1 (fun xs s2 => q (l ++ xs) s2) er) er
section
variable {X : Cx} {W : WX} {e : Expr} {es : List Expr} {ae : AE} {ar : AEs} {p : Pos}
theorem axa_star (ha : AX X W e ae) (hr : AXA X W es ar) (hs : starEach (.Starred e p :: es) X.env = (true, eval e X.env) :: starEach es X.env := by rfl) : AXA X W (.Starred e p :: es) (aStar ae ar) := by
  obtain ⟨ta, pa, ra⟩ := ha
  obtain ⟨tb, pb, rb⟩ := hr
  refine ⟨_, StX.pa_star pa pb hs, fun G env st σ H Q q er s l h tE tX => ra G env st σ H _ _ er s l h (fun v d st1 G1 H1 p1 s1 r1 h1 => ?_) tX⟩
  obtain ⟨m, hm, h1⟩ := h1
  obtain ⟨a, vs, tup, rfl, rs, gk, hh⟩ := rep_seq s1 r1 hm
  obtain ⟨us, ru, q1⟩ := hh G1 st1 H1 (Gh.le.refl _) s1 gk
  refine ⟨a, us, rfl, ?_, rb G1 env st1 σ H1 _ _ er s1 (l.mono p1.le) h1 (fun vs2 ds2 st2 G2 H2 p2 s2 r2 h2 => tE _ _ st2 G2 H2 (p1.trans p2) s2 ((ru.mono p2.le).append r2) h2) (tX.on p1)⟩
  cases tup with
  | false => exact .inr q1
  | true => exact .inl q1
end
/-! ### slices -/
abbrev AO := List A → S → (Option Int → S → Prop) → QX → Prop
def oNo : AO := fun _ st q _ => q none st
def oAt (a : AE) : AO := fun env st q er => a env st (fun d s1 => ∃ i, d = .int i ∧ q (some i) s1) er
def RefP (K : PySem.W.Frag) (W : WX) (t : TO) (a : AO) : Prop := ∀ G env st σ H (Q : Option Int → Hp → Prop) (q : Option Int → S → Prop) (er : QX), SS K G st H → Sl K G env σ → a env st q er → (∀ o st2 G2 H2, Post G H G2 H2 → SS K G2 st2 H2 → q o st2 → Q o H2) → ThenX K W G H σ er → t σ H Q
def AXP (X : Cx) (W : WX) (e : Option Expr) (a : AO) : Prop := ∃ t, PO X e t ∧ RefP X.K W t a
/-- the items of xs[lo:hi] -/
def cutL {α : Type} (xs : List α) (lo hi : Option Int) : List α := (xs.drop (HT.sIx xs.length 0 lo)).take (HT.sIx xs.length xs.length hi - HT.sIx xs.length 0 lo)
theorem Reps.drop {K : PySem.W.Frag} {G : Gh} : ∀ {ds : List D} {vs : List V} (n : Nat), Reps K G ds vs → Reps K G (ds.drop n) (vs.drop n)
  | _, _, 0, r => r
  | _, _, _ + 1, .nil => .nil
  | _, _, n + 1, .cons _ r => Reps.drop n r
theorem Reps.take {K : PySem.W.Frag} {G : Gh} : ∀ {ds : List D} {vs : List V} (n : Nat), Reps K G ds vs → Reps K G (ds.take n) (vs.take n)
  | _, _, 0, _ => by simp only [List.take_zero]; exact .nil
  | _, _, _ + 1, .nil => .nil
  | _, _, n + 1, .cons h r => .cons h (Reps.take n r)
theorem Reps.cutL {K : PySem.W.Frag} {G : Gh} {ds : List D} {vs : List V} {lo hi : Option Int} (r : Reps K G ds vs) : Reps K G (AM.cutL ds lo hi) (cutV vs lo hi) := by
  unfold AM.cutL cutV
  rw [r.length]
  exact (r.drop _).take _
theorem cutL_all {α : Type} {xs : List α} {lo hi : Option Int} (h1 : HT.sIx xs.length 0 lo = 0) (h2 : HT.sIx xs.length xs.length hi = xs.length) : cutL xs lo hi = xs := by
  unfold cutL
  rw [h1, h2]
  simp
def slD (x : D) (lo hi : Option Int) (q : D → Prop) : Prop := match x with
  | .lst l => q (.lst (cutL l lo hi))
  | .tup l => q (.tup (cutL l lo hi))
  | .str z => z.length ≤ 100000 ∧ q (.str (Txt.slice z lo hi))
  | _ => False
def aSl (a : AE) (lo hi : AO) : AE := fun env st q er => a env st (fun x s1 => lo env s1 (fun l s2 => hi env s2 (fun h s3 => slD (vw s3 x) l h fun d => q d s3) er) er) er
def rSlAll (K : PySem.W.Frag) : V → Option Int → Option Int → Hp → VK → Prop := fun x lo hi H Q => rSlL K x lo hi H Q ∨ rSlA K x lo hi H Q ∨ C8.rSlX x lo hi H Q
section
variable {X : Cx} {W : WX} {e : Expr} {ae : AE} {p p2 pos : Pos} {lo hi : Option Expr} {al ah : AO}
theorem axp_no : AXP X W none oNo := ⟨_, po_none, fun G env st σ H Q q er s l h t tX => t none st G H Post.refl s h⟩
theorem axp_at (h : AX X W e ae) : AXP X W (some e) (oAt ae) := by
  obtain ⟨t, pe, r⟩ := h
  refine ⟨_, po_some pe, fun G env st σ H Q q er s l h t tX => r G env st σ H _ _ er s l h (fun v d st1 G1 H1 p1 s1 r1 h1 => ?_) tX⟩
  obtain ⟨i, rfl, h1⟩ := h1
  cases r1
  exact ⟨i, rfl, t (some i) st1 G1 H1 p1 s1 h1⟩
theorem ax_sl (ha : AX X W e ae) (hl : AXP X W lo al) (hh : AXP X W hi ah) : AX X W (.Subscript e (.Slice lo hi none p2) pos) (aSl ae al ah) := by
  obtain ⟨ta, pa, ra⟩ := ha
  obtain ⟨tl, pl, rl⟩ := hl
  obtain ⟨th, ph, rh⟩ := hh
  refine ⟨_, pe_slice (r := rSlAll X.K) (SlR.or sl_list (SlR.or sl_tupA C8.sl_txt)) pa pl ph, fun G env st σ H Q q er s l h tE tX => ra G env st σ H _ _ er s l h (fun v d st1 G1 H1 p1 s1 r1 h1 => ?_) tX⟩
  refine rl G1 env st1 σ H1 _ _ er s1 (l.mono p1.le) h1 (fun lo st2 G2 H2 p2 s2 h2 => ?_) (tX.on p1)
  have p12 := p1.trans p2
  refine rh G2 env st2 σ H2 _ _ er s2 (l.mono p12.le) h2 (fun hi st3 G3 H3 p3 s3 h3 => ?_) (tX.on p12)
  have p13 := p12.trans p3
  have rv := ((r1.mono p2.le).mono p3.le).vw s3
  generalize vw st3 d = d' at h3 rv
  have here : ThenE X.K G3 H3 (fun d s => q d s) Q := fun v d st4 G4 H4 p4 s4 r4 h4 => tE v d st4 G4 H4 (p13.trans p4) s4 r4 h4
  cases rv with
  | lst hp rs => exact .inl ⟨_, _, rfl, SqL.of hp, fun a ha => by
      obtain ⟨s4, p4⟩ := s3.new (o := .lst (cutV _ lo hi)) ha
      exact here _ _ st3 _ _ p4 s4 (.lst upd_same ((Reps.cutL rs).mono p4.le)) h3⟩
  | tup hp rs rt => refine .inr (.inl ⟨_, _, rfl, SqT.of hp, fun hw => ?_, fun hw a ha => ?_⟩)
                    · have e : cutL _ lo hi = _ := cutL_all (xs := _) (by rw [rs.length]; exact hw.1) (by rw [rs.length]; exact hw.2)
                      have h3 : q (.tup (cutL _ lo hi)) st3 := h3
                      rw [e] at h3
                      exact here _ _ st3 G3 H3 Post.refl s3 rt h3
                    · obtain ⟨s4, p4⟩ := s3.new (o := .tup (cutV _ lo hi)) ha
                      exact here _ _ st3 _ _ p4 s4 (.tup upd_same ((Reps.cutL rs).mono p4.le)) h3
  | str z => exact .inr (.inr ⟨z, rfl, sz_of h3.1, here _ _ st3 G3 H3 Post.refl s3 (.str _) h3.2⟩)
  | _ => exact h3.elim
end
/-! ### is None; in -/
def nonD : D → Option Bool
  | .non => some true
  | .ref _ => none
  | _ => some false
def oIs : O2 := fun x y q => y = .non ∧ ∃ b, nonD x = some b ∧ q (.bl b)
def oIsNot : O2 := fun x y q => y = .non ∧ ∃ b, nonD x = some b ∧ q (.bl (!b))
def oIn : O2 := fun x y q => x.shp ∧ y.shp ∧ ∃ l, y = .lst l ∧ q (.bl (l.any fun z => D.eqv z x))
def oNotIn : O2 := fun x y q => x.shp ∧ y.shp ∧ ∃ l, y = .lst l ∧ q (.bl (!l.any fun z => D.eqv z x))
theorem nonD_ok {K : PySem.W.Frag} {G : Gh} {H : Hp} {d : D} {v : V} {b : Bool} (r : Rv K G H d v) (h : nonD d = some b) : decide (v = .non) = b := by
  cases r <;> cases h <;> rfl
theorem any_pys {x : D} (hx : x.plain = true) : ∀ {l : List D}, D.plains l = true → ((D.pys l).any fun z => PyData.eqv z x.py) = l.any fun z => D.eqv z x
  | [], _ => rfl
  | y :: l, h => by
    obtain ⟨h1, h2⟩ := Bool.and_eq_true_iff.mp (show (y.plain && D.plains l) = true from h)
    show (PyData.eqv y.py x.py || (D.pys l).any fun z => PyData.eqv z x.py) = (D.eqv y x || l.any fun z => D.eqv z x)
    rw [D.py_eqv h1 hx, any_pys hx h2]
section
variable {X : Cx} {W : WX} {k : Nat}
theorem op_Is : OpR X (compareOp .Is) (fun x y H Q => y = .non ∧ Q (.bl (decide (x = .non))) H) ∧ RefO X.K (fun x y H Q => y = .non ∧ Q (.bl (decide (x = .non))) H) oIs := ⟨op_isN, fun G st H x y dx dy Q q s rx ry h t => by
  obtain ⟨rfl, b, hb, h⟩ := h
  cases ry
  exact ⟨rfl, by rw [nonD_ok rx hb]; exact t.here s (.bl _) h⟩⟩
theorem op_IsNot : OpR X (compareOp .IsNot) (fun x y H Q => y = .non ∧ Q (.bl (!decide (x = .non))) H) ∧ RefO X.K (fun x y H Q => y = .non ∧ Q (.bl (!decide (x = .non))) H) oIsNot := ⟨op_notN, fun G st H x y dx dy Q q s rx ry h t => by
  obtain ⟨rfl, b, hb, h⟩ := h
  cases ry
  exact ⟨rfl, by rw [nonD_ok rx hb]; exact t.here s (.bl _) h⟩⟩
theorem op_In (C : CxE X W k) : OpR X (compareOp .In) (rInD X.K) ∧ RefO X.K (rInD X.K) oIn := ⟨op_inD (u64 C.room), fun G st H x y dx dy Q q s rx ry h t => by
  obtain ⟨h1, h2, l, rfl, h⟩ := h
  exact ⟨dx.py, D.pys l, rx.dp s.ex h1.1, ry.dp s.ex h2.1, D.shaped h1, D.shaped h2, by rw [any_pys h1.1 h2.1]; exact t.here s (.bl _) h⟩⟩
theorem op_NotIn (C : CxE X W k) : OpR X (compareOp .NotIn) (rNotInD X.K) ∧ RefO X.K (rNotInD X.K) oNotIn := ⟨op_notInD (u64 C.room), fun G st H x y dx dy Q q s rx ry h t => by
  obtain ⟨h1, h2, l, rfl, h⟩ := h
  exact ⟨dx.py, D.pys l, rx.dp s.ex h1.1, ry.dp s.ex h2.1, D.shaped h1, D.shaped h2, by rw [any_pys h1.1 h2.1]; exact t.here s (.bl _) h⟩⟩
/-- a constant of the module -/
theorem ax_gInt {x : Str} {i : Int} {pos : Pos} (hm : ∃ t, X.mg x = some (.int i t)) (hg : Gl X x := by rfl) (hd : (x == ("__debug__" : Str)) = false := by decide) : AX X W (.Name x pos) (aC (.int i)) := by
  obtain ⟨t, hm⟩ := hm
  exact ⟨_, pe_glob (v := .int i) hg hm ⟨t, rfl⟩ hd, refE_c fun _ => .int i⟩
theorem ax_gStr {x z : Str} {pos : Pos} (hm : ∃ t, X.mg x = some (.str z t)) (hg : Gl X x := by rfl) (hd : (x == ("__debug__" : Str)) = false := by decide) : AX X W (.Name x pos) (aC (.str z)) := by
  obtain ⟨t, hm⟩ := hm
  exact ⟨_, pe_glob (v := .str z) hg hm ⟨t, rfl⟩ hd, refE_c fun _ => .str z⟩
end
end AM
set_option Elab.async false
set_option linter.all false
set_option maxRecDepth 100000
set_option maxHeartbeats 4000000
namespace AM
open PySem PySem.Spec PyProof.Rows L2 Evl
/-! ### dicts: looked up, put -/
inductive DLook : List (D × D) → D → D → Prop
  | here {k v : D} {r : List (D × D)} : DLook ((k, v) :: r) k v
  | there {k k' v v' : D} {r : List (D × D)} : k' ≠ k → DLook r k v → DLook ((k', v') :: r) k v
inductive DPutD : List (D × D) → D → D → List (D × D) → Prop
  | nil {k v : D} : DPutD [] k v [(k, v)]
  | here {k v w : D} {r : List (D × D)} : (∀ p ∈ r, p.1 ≠ k) → DPutD ((k, w) :: r) k v ((k, v) :: r)
  | there {k k' v w : D} {r r' : List (D × D)} : k' ≠ k → DPutD r k v r' → DPutD ((k', w) :: r) k v ((k', w) :: r')
def isKeyT (d : D) : Prop := ∃ k : List Key, d = .tup (k.map kD)
def isKeyK (d : D) : Prop := ∃ k : Key, d = kD k
theorem kD_inj {a b : Key} (h : kD a = kD b) : a = b := by
  cases a <;> cases b <;> unfold kD at h <;> cases h <;> rfl
theorem kDs_inj : ∀ {a b : List Key}, a.map kD = b.map kD → a = b
  | [], [], _ => rfl
  | [], _ :: _, h => by cases h
  | _ :: _, [], h => by cases h
  | x :: xs, y :: ys, h => by
    rw [List.map_cons, List.map_cons] at h
    injection h with h1 h2
    rw [kD_inj h1, kDs_inj h2]
theorem kT_inj {a b : List Key} (h : D.tup (a.map kD) = .tup (b.map kD)) : a = b := kDs_inj (by injection h)
section
variable {K : PySem.W.Frag} {G : Gh} {H : Hp}
theorem rep_kD {k : Key} {v : V} (r : Rep K G (kD k) v) : v = kV k := by
  cases k with
  | inl i => cases r; rfl
  | inr x => cases r; rfl
theorem reps_kD : ∀ {k : List Key} {vs : List V}, Reps K G (k.map kD) vs → vs = k.map kV
  | [], _, .nil => rfl
  | x :: xs, _, .cons h r => by rw [List.map_cons, ← rep_kD h, ← reps_kD r]
theorem RepT.look {k : List Key} {d : D} : ∀ {ds : List (D × D)} {kvs : List (List Key × V)}, RepT K G ds kvs → DLook ds (.tup (k.map kD)) d → ∃ v, valV kvs k = some v ∧ Rep K G d v := by
  intro ds kvs r l
  generalize hk : D.tup (k.map kD) = kk at l
  induction l generalizing kvs with
  | here =>
    cases r with
    | cons h r =>
      rename_i k' v vs
      have : k' = k := kT_inj hk.symm
      subst this
      exact ⟨v, valV_pos rfl, h⟩
  | there ne l ih =>
    cases r with
    | cons h r =>
      rename_i k' v vs
      obtain ⟨w, e, rw'⟩ := ih r hk
      refine ⟨w, ?_, rw'⟩
      rw [valV_neg (show ¬ k' = k from fun z => ne (by rw [z]; exact hk))]
      exact e
theorem RepT.key : ∀ {ds : List (D × D)} {kvs : List (List Key × V)} {kk d : D}, RepT K G ds kvs → DLook ds kk d → isKeyT kk := by
  intro ds kvs kk d r l
  induction l generalizing kvs with
  | here => cases r; exact ⟨_, rfl⟩
  | there ne l ih => cases r with | cons h r => exact ih r
theorem RepK.look {k : Key} {d : D} : ∀ {ds : List (D × D)} {kvs : List (Key × V)}, RepK K G ds kvs → DLook ds (kD k) d → ∃ v, valV kvs k = some v ∧ Rep K G d v := by
  intro ds kvs r l
  generalize hk : kD k = kk at l
  induction l generalizing kvs with
  | here =>
    cases r with
    | cons h r =>
      rename_i k' v vs
      have : k' = k := kD_inj hk.symm
      subst this
      exact ⟨v, valV_pos rfl, h⟩
  | there ne l ih =>
    cases r with
    | cons h r =>
      rename_i k' v vs
      obtain ⟨w, e, rw'⟩ := ih r hk
      refine ⟨w, ?_, rw'⟩
      rw [valV_neg (show ¬ k' = k from fun z => ne (by rw [z]; exact hk))]
      exact e
theorem RepK.key : ∀ {ds : List (D × D)} {kvs : List (Key × V)} {kk d : D}, RepK K G ds kvs → DLook ds kk d → isKeyK kk := by
  intro ds kvs kk d r l
  induction l generalizing kvs with
  | here => cases r; exact ⟨_, rfl⟩
  | there ne l ih => cases r with | cons h r => exact ih r
theorem putK_ne {κ : Type} [DecidableEq κ] {k k' : κ} {w v : V} {r : List (κ × V)} (h : k' ≠ k) : putK ((k', w) :: r) k v = (k', w) :: putK r k v := by
  unfold putK
  rw [List.any_cons, show decide ((k', w).1 = k) = false from decide_eq_false h, Bool.false_or]
  cases r.any fun kv => decide (kv.1 = k) with
  | true => simp [h]
  | false => simp
theorem putK_eq {κ : Type} [DecidableEq κ] {k : κ} {w v : V} {r : List (κ × V)} (h : ∀ p ∈ r, p.1 ≠ k) : putK ((k, w) :: r) k v = (k, v) :: r := by
  unfold putK
  rw [List.any_cons, show decide ((k, w).1 = k) = true from decide_eq_true rfl, Bool.true_or, if_pos rfl, List.map_cons, if_pos rfl]
  congr 1
  have : ∀ l : List (κ × V), (∀ p ∈ l, p.1 ≠ k) → (l.map fun kv => if kv.1 = k then (kv.1, v) else kv) = l := by
    intro l
    induction l with
    | nil => intro _; rfl
    | cons a l ih =>
      intro h
      rw [List.map_cons, if_neg (h a List.mem_cons_self), ih fun p hp => h p (List.mem_cons_of_mem _ hp)]
  exact this r h
theorem RepT.keys : ∀ {ds : List (D × D)} {kvs : List (List Key × V)}, RepT K G ds kvs → ∀ p ∈ kvs, ∃ q ∈ ds, q.1 = .tup (p.1.map kD)
  | _, _, .nil, p, hp => by cases hp
  | _, _, .cons h r, p, hp => by
    rcases List.mem_cons.mp hp with rfl | hp
    · exact ⟨_, List.mem_cons_self, rfl⟩
    · obtain ⟨q, hq, e⟩ := r.keys p hp
      exact ⟨q, List.mem_cons_of_mem _ hq, e⟩
theorem RepT.put {k : List Key} {d : D} {v : V} {kvs : List (List Key × V)} {ds ds' : List (D × D)} (rv : Rep K G d v) (r : RepT K G ds kvs) (l : DPutD ds (.tup (k.map kD)) d ds') : RepT K G ds' (putK kvs k v) := by
  generalize hk : D.tup (k.map kD) = kk at l
  induction l generalizing kvs with
  | nil =>
    cases r
    rw [← hk]
    exact .cons rv .nil
  | here hn =>
    cases r with
    | cons h r =>
      have e := kT_inj hk
      subst e
      rw [putK_eq fun p hp z => ?_]
      · exact .cons rv r
      · obtain ⟨q, hq, e⟩ := r.keys p hp
        exact hn q hq (by rw [e, z])
  | there ne l ih =>
    cases r with
    | cons h r =>
      rw [putK_ne (fun z => ne (by rw [z]; exact hk))]
      exact .cons h (ih rv r hk)
theorem RepT.length : ∀ {ds : List (D × D)} {kvs : List (List Key × V)}, RepT K G ds kvs → ds.length = kvs.length
  | _, _, .nil => rfl
  | _, _, .cons _ r => congrArg Nat.succ r.length
theorem RepK.length : ∀ {ds : List (D × D)} {kvs : List (Key × V)}, RepK K G ds kvs → ds.length = kvs.length
  | _, _, .nil => rfl
  | _, _, .cons _ r => congrArg Nat.succ r.length
end
/-! ### d[k] -/
def rIxDic : R2 := fun x y H Q => ∃ a v, x = .ref a ∧ DGet H a y (some v) ∧ Q v H
def rIxAll (K : PySem.W.Frag) : R2 := fun x y H Q => rIxA K x y H Q ∨ rIxDic x y H Q
def oIxA : O2 := fun x y q => match x with
  | .dic l => ∃ d, DLook l y d ∧ q d
  | _ => oIx x y q
section
variable {X : Cx} {W : WX} {k : Nat}
theorem ix_dic (hu : X.A.units + 2 < cLine) : IxR X rIxDic := by
  intro value slice pins s σ H x y v u Q I rx ry h hs
  obtain ⟨a, w, rfl, g, q⟩ := h
  obtain rfl : v = Value.ref a := rx
  exact tail_any (ops := [.ref a, u]) (dict_typeIs I g) PySem.F.slot_dict_getitem.lookup (d_getItem (by omega) I g ry fun w' s3 I3 rw' => ⟨w, H, I3, rw', q⟩) hs
theorem dget_at {K : PySem.W.Frag} {G : Gh} {H : Hp} {l : List (D × D)} {dy d : D} {x y : V} (rx : Rv K G H (.dic l) x) (ry : Rv K G H dy y) (h : DLook l dy d) : ∃ a v, x = .ref a ∧ DGet H a y (some v) ∧ Rep K G d v := by
  cases rx with
  | dicT hp rk =>
    obtain ⟨kk, rfl⟩ := rk.key h
    obtain ⟨v, e, rv⟩ := rk.look h
    cases ry with
    | tup hy rs _ =>
      have := reps_kD rs
      subst this
      exact ⟨_, v, rfl, by rw [← e]; exact DGet.t hp hy, rv⟩
theorem op_IxA (C : CxE X W k) : IxR X (rIxAll X.K) ∧ RefO X.K (rIxAll X.K) oIxA := by
  refine ⟨IxR.or op_Ix.1 (ix_dic (by have := u64 C.room; omega)), fun G st H x y dx dy Q q s rx ry h t => ?_⟩
  cases dx with
  | dic l =>
    obtain ⟨d, hd, h⟩ := h
    obtain ⟨a, v, e, g, rv⟩ := dget_at rx ry hd
    exact .inr ⟨a, v, e, g, t.here s rv h⟩
  | _ => exact .inl (op_Ix.2 G st H x y _ dy Q q s rx ry h t)
end
end AM
set_option Elab.async false
set_option linter.all false
set_option maxRecDepth 100000
set_option maxHeartbeats 4000000
namespace AM
open PySem PySem.Spec PyProof.Rows L2 Evl
/-! ### {k: v for ..}, keys tuples (as HandS.DictComp has it for ints and texts) -/
theorem d_dictSetT {X : Cx} {pins : List (Addr × Obj)} {σ : L2.St} {H : Hp} {s : Shared} {E : Value → Shared → Prop} {D b : Addr} {kvs : List (List Key × V)} {k : List Key} {v : V} {r : Value} {Q : Unit → Shared → Prop} (hu : X.A.units + 1 < cLine) (I : Inv X pins σ H s) (hD : H D = some (.dT kvs)) (hz : kvs.length < sizeLine)
    (hb : H b = some (.tup (k.map kV))) (rv : RelV v r) (h : ∀ s', Inv X pins σ (upd H D (.dT (putK kvs k v))) s' → Q () s') : wpAny (model X.prog X.w) X.A (dictSet D (.ref b) r) Q E s := by
  obtain ⟨z, hd, xs, rel, dd⟩ := dt_of I.hok hD
  have hzv : xs.length ≤ sizeLine := by rw [← Paired.length rel]; exact z
  have hl : (putK kvs k v).length ≤ sizeLine := by have := length_putK kvs k v; omega
  refine wpAny_dictSet_heap (hsz := hzv) (show (tupleKind (mixKind X.prog X.w)).room X.A by show X.A.units < cLine; omega) (key_of I.hok hb) dd fun h' dd' hs => h _ ?_
  obtain ⟨q, es, ep, hq, h2, h3, h4, _, h5⟩ := dd'
  refine d_write I (by rw [hD]; exact True.intro) hs ⟨q, hq⟩ ⟨hl, hd, _, (rel.put k hb rv).keeps fun c ys ec => ?_, q, es, ep, hq, h2, h3, h4, h5⟩
  rw [upd_ne (ne_of ec hD (fun z => nomatch z))]
  exact ec
section
variable {X : Cx}
def tDcT (wi : TI) (g : TG) (tt : TT) (tk tv : TE) (vs : List Nat) : TE := fun σ H Q => wi σ H fun J H1 => ∀ D, H1 D = none → ∃ W : Nat → Nat → Hp → Prop, (∃ m, W 0 m (upd H1 D (.dT []))) ∧ ∀ i m H, W i m H →
  (J.stop i H ∧ Q (.ref D) H) ∨ (J.go i H ∧ ∃ Nx : Hp → Prop, (∀ H', Nx H' → ∃ m', m' < m ∧ W (i + 1) m' H') ∧ ∀ x H', J.yld i H x H' → g x (wipe σ vs) H' fun σ2 H2 => wipe σ2 vs = wipe σ vs ∧ tt σ2 H2 fun b H3 =>
    if b = true then tk σ2 H3 fun y H4 => tv σ2 H4 fun z H5 => ∃ kvs k b, y = .ref b ∧ H5 b = some (.tup (k.map kV)) ∧ H5 D = some (.dT kvs) ∧ kvs.length < sizeLine ∧ Nx (upd H5 D (.dT (putK kvs k z))) else Nx H3)
theorem dc_coreT {pins : List (Addr × Obj)} {s : Shared} {σ : L2.St} {H : Hp} {Q : VK} {use : Option (Value → Sem Unit)} {Qf : Value → Shared → Prop} {pos' : Pos} {kx vx tg iter : Expr} {ifs : List Expr} {scope : Scope} {own : List (Str × Nat)} {pos : Pos} {wi : TI} {g : TG} {tt : TT} {tk tv : TE} (hu : X.A.units + 1 < cLine) (hc : X.calm = true) (hN : X.N.Nodup) (hi : PI X tg iter wi) (ok : BlkOk X.N X.env.scope scope own)
    (hg : ∀ (s : Shared) (H : Hp) (C : Addr) (cl : List (Str × Addr)) (fp : List Addr), PG (X.blk s H scope (compEnvC scope cl C X.env) fp) tg g) (ht : ∀ (s : Shared) (H : Hp) (C : Addr) (cl : List (Str × Addr)) (fp : List Addr), PTs (X.blk s H scope (compEnvC scope cl C X.env) fp) ifs tt)
    (hk : ∀ (s : Shared) (H : Hp) (C : Addr) (cl : List (Str × Addr)) (fp : List Addr), PE (X.blk s H scope (compEnvC scope cl C X.env) fp) kx tk)
    (he : ∀ (s : Shared) (H : Hp) (C : Addr) (cl : List (Str × Addr)) (fp : List Addr), PE (X.blk s H scope (compEnvC scope cl C X.env) fp) vx tv) (hs : ∀ x, foldedSetIterable iter X.env x = pure x) (I : Inv X pins σ H s) (h : tDcT wi g tt tk tv (own.map (·.2)) σ H Q)
    (hRR : ∀ D C s' m H', Inv X pins σ H' s' → Q (.ref D) H' → s'.heap.Ns C m → FpOk X pins H' C → compPost (model X.prog X.w) X.A X.xe use Qf (.ref D) C (.ok .next) s') :
    wpAny (model X.prog X.w) X.A (comprehension (.DictComp kx vx [⟨tg, iter, ifs, 0⟩] scope pos) scope X.env pos' newDict false (eval iter X.env) use) Qf X.xe s := by
  have hfree : ∀ y ∈ scope.names, y.2 = .free → ∃ c, X.env.cells.lookup y.1 = some c := fun y hy e => by
    rcases ok.free y hy e with k | k
    · exact I.ok.has _ (.inl k)
    · exact I.ok.has _ (.inr k)
  refine wpAny_comprehension_free (use := use) rfl hs (closure_ok hfree) ok.kind (fun y hy e => by rw [ok.uniq y hy, e])
    (thn (hi.run pins s σ H _ I h) fun xv s1 hx => thn hx fun itv s2 h2 => ?_)
  obtain ⟨it, fp, tn, J, H2, e, I2, T, st2, f2, q⟩ := h2
  subst e
  refine wpAny_newObj_type (newEnv_comp ?_)
  generalize hD : s2.heap.objs.size = D
  have hDn : H2 D = none := I2.hok.fresh (Nat.le_of_eq hD)
  obtain ⟨W, ⟨m0, w0⟩, turn⟩ := q D hDn
  generalize hs3 : ({ s2 with heap := s2.heap.push { cls := .type "dict", data := .dict #[] } } : Shared) = s3
  have I3 : Inv X pins σ (upd H2 D (.dT [])) s3 := by
    rw [← hs3]
    refine I2.laid (t' := s2.toks) (fun b o e => Heap.get?_push_of_some _ e) (Nat.le_of_eq hD) ?_
    rw [← hD]
    exact dt_empty s2.heap I2.big
  have h3 : s3.heap = s2.heap.push { cls := .type "dict", data := .dict #[] } := by rw [← hs3]
  have sz : ∀ b ∈ fp, b < s2.heap.objs.size := fun b hb => by
    obtain ⟨o, e, _⟩ := T.obj _ _ st2 b hb
    exact Heap.lt_size e
  have f3 : ∀ b ∈ fp, FpOk X pins (upd H2 D (.dT [])) b ∧ b < s3.heap.objs.size := fun b hb => by
    have hlt := sz b hb
    refine ⟨⟨?_, (f2 b hb).2⟩, by rw [h3, Heap.size_push]; exact Nat.lt_succ_of_lt hlt⟩
    rw [upd_ne (by rw [← hD]; exact Nat.ne_of_lt hlt)]
    exact (f2 b hb).1
  have st3 : tn 0 s3.heap := T.keep _ _ _ st2 fun b _ o e => by rw [h3]; exact Heap.get?_push_of_some _ e
  have I4 := block_start I3 ok hN f3
  have pg := hg s3 (upd H2 D (.dT [])) s3.heap.objs.size (cellsFrom (s3.heap.objs.size + 1) scope.names (cloFrom X.env.cells scope.names [])) fp
  have pt := ht s3 (upd H2 D (.dT [])) s3.heap.objs.size (cellsFrom (s3.heap.objs.size + 1) scope.names (cloFrom X.env.cells scope.names [])) fp
  have pk := hk s3 (upd H2 D (.dT [])) s3.heap.objs.size (cellsFrom (s3.heap.objs.size + 1) scope.names (cloFrom X.env.cells scope.names [])) fp
  have pe := he s3 (upd H2 D (.dT [])) s3.heap.objs.size (cellsFrom (s3.heap.objs.size + 1) scope.names (cloFrom X.env.cells scope.names [])) fp
  show codeAny _ _ (.compStart (.DictComp kx vx [⟨tg, iter, ifs, 0⟩] scope pos) 0 (.ref it) (.ref D) (compEnvC scope (cellsFrom (s3.heap.objs.size + 1) scope.names (cloFrom X.env.cells scope.names [])) s3.heap.objs.size X.env)) (compPost (model X.prog X.w) X.A X.xe use Qf (.ref D) s3.heap.objs.size) { s3 with heap := pushCells (s3.heap.push { cls := .type "dict", data := .dict #[] }) scope.names }
  have nfp : ∀ b ∈ fp, (upd H2 D (.dT [])) b = none := fun b hb => (f3 b hb).1.1
  generalize hce : compEnvC scope (cellsFrom (s3.heap.objs.size + 1) scope.names (cloFrom X.env.cells scope.names [])) s3.heap.objs.size X.env = ce at I4 pg pt pk pe ⊢
  have cL : ce.locals = s3.heap.objs.size := by subst hce; rfl
  generalize hH3 : upd H2 D (.dT []) = H3 at I3 I4 pg pt pk pe w0 nfp f3
  generalize hs4 : ({ s3 with heap := pushCells (s3.heap.push { cls := .type "dict", data := .dict #[] }) scope.names } : Shared) = s4 at I4 ⊢
  have st4 : tn 0 s4.heap := T.keep _ _ _ st3 fun b _ o e => by rw [← hs4]; exact pushCells_keeps _ _ _ _ (Heap.get?_push_of_some _ e)
  have stat : ∀ {σ' : L2.St} {H' : Hp} {s' : Shared}, Inv (X.blk s3 H3 scope ce fp) [] σ' H' s' → (∀ b ∈ fp, H' b = none) → ∀ b ∈ fp, FpOk (X.blk s3 H3 scope ce fp) [] H' b := fun {σ' H' s'} I' hn b hb =>
    ⟨hn b hb, (I'.ok.exf b hb).1, I'.ok.exfs b hb, .inl hb, fun x c e => (I'.ok.exf b hb).2 x c e, fun p hp => absurd (show p ∈ ([] : List (Addr × Obj)) ++ [] from hp) (by simp)⟩
  have loop : codeAny (model X.prog X.w) X.A (.compLoop (.DictComp kx vx [⟨tg, iter, ifs, 0⟩] scope pos) 0 (.ref it) (.ref D) ce) (compPost (model X.prog X.w) X.A X.xe use Qf (.ref D) s3.heap.objs.size) s4 := by
    refine compLoop_anyD (fun n s' => ∃ i H', Inv (X.blk s3 H3 scope ce fp) [] (wipe σ (own.map (·.2))) H' s' ∧ tn i s'.heap ∧ (∀ b ∈ fp, H' b = none) ∧ W i n H') ?_ m0 ⟨0, H3, I4, st4, nfp, w0⟩
    rintro n s5 ⟨i, H5, I5, st5, n5, w5⟩
    rcases turn i n H5 w5 with ⟨stop, qq⟩ | ⟨go, Nx, hNx, step⟩
    · have td := T.done (X.blk s3 H3 scope ce fp) rfl rfl rfl hc i [] s5 _ H5 (fun _ _ => False) I5 (stat I5 n5) st5 stop
      refine thnF td fun r s6 ⟨hr, I6⟩ => ?_
      subst hr
      have I7 : Inv X pins σ H5 s6 := I3.call' (ch := fp) I6.os I6.base I6.hok I6.bare fun b hb => ⟨(f3 b hb).1.2.2.2.1, (f3 b hb).1.2.1, (f3 b hb).1.2.2.2.2.1, (f3 b hb).1.2.2.2.2.2⟩
      have nC : H5 s3.heap.objs.size = none := by
        have z : H5 ce.locals = none := I6.free
        rw [cL] at z
        exact z
      obtain ⟨m, hn, _⟩ := I6.loc
      have hn : s6.heap.Ns ce.locals m := hn
      rw [cL] at hn
      exact hRR D _ s6 m H5 I7 qq hn (I3.fpOk (Nat.le_refl _) nC)
    · have ti := T.item (X.blk s3 H3 scope ce fp) rfl rfl rfl hc i [] s5 _ H5 (fun _ _ => False) I5 (stat I5 n5) st5 go
      refine thnF ti fun r s6 ⟨u, hr, h6⟩ => ?_
      subst hr
      refine thnF h6 fun _ s7 ⟨x, H7, I7, r7, y7, st7, n7⟩ => ?_
      have I7' := I7.pinned (stat I7 n7) (T.obj _ _ st7)
      refine thnF (pg.run _ s7 _ H7 x u _ I7' r7 (step x H7 y7)) fun _ s8 ⟨σ8, H8, I8, hw8, q8⟩ => ?_
      refine thnF (pt.run _ s8 σ8 H8 _ I8 q8) fun b s9 ⟨H9, I9, q9⟩ => ?_
      have fin : ∀ {s' : Shared} {H' : Hp}, Inv (X.blk s3 H3 scope ce fp) ([] ++ pinsAt fp s7.heap) σ8 H' s' → Nx H' → ∃ m, m < n ∧ ∃ i H', Inv (X.blk s3 H3 scope ce fp) [] (wipe σ (own.map (·.2))) H' s' ∧ tn i s'.heap ∧ (∀ b ∈ fp, H' b = none) ∧ W i m H' := fun {s' H'} I' nx => by
        obtain ⟨m', hm, w'⟩ := hNx H' nx
        have pin' : ∀ b ∈ fp, ∀ o, s7.heap.get? b = some o → s'.heap.get? b = some o ∧ H' b = none := fun b hb o e =>
          let z := I'.pin (b, o) (List.mem_append_right _ (List.mem_append_right _ (mem_pinsAt hb e)))
          ⟨z.1, z.2.1⟩
        have hl : (wipe σ (own.map (·.2))).length = σ8.length := by rw [← hw8, wipe_length]
        refine ⟨m', hm, i + 1, H', (I'.unpinned (pins := [])).weak hl (fun j v e => ?_), T.keep _ _ _ st7 fun b hb o e => (pin' b hb o e).1, fun b hb => ?_, w'⟩
        · rw [← hw8] at e
          exact (wipe_some e).1
        · obtain ⟨o, e, _⟩ := T.obj _ _ st7 b hb
          exact (pin' b hb o e).2
      cases b with
      | false =>
        simp only [Bool.false_eq_true, if_false] at q9 ⊢
        exact fin I9 q9
      | true =>
        simp only [if_true] at q9 ⊢
        refine thnF (pk.run _ s9 σ8 H9 _ I9 q9) fun z s10 ⟨yk, H10, I10, r10, q10⟩ => ?_
        refine thnF (pe.run _ s10 σ8 H10 _ I10 q10) fun z2 s11 ⟨yv, H11, I11, r11, kvs, k, b, ek, hb11, hD11, hz11, nx⟩ => ?_
        subst ek
        obtain rfl : z = Value.ref b := r10
        exact d_dictSetT (X := X.blk s3 H3 scope ce fp) hu I11 hD11 hz11 hb11 r11 fun s12 I12 => fin I12 nx
  exact codeAny_compStart_dict loop (T.self X.A 0 _ _ _ st4 loop)
theorem pe_dcT {kx vx tg iter : Expr} {ifs : List Expr} {scope : Scope} {own : List (Str × Nat)} {pos : Pos} {wi : TI} {g : TG} {tt : TT} {tk tv : TE} (hu : X.A.units + 1 < cLine) (hc : X.calm = true) (hN : X.N.Nodup) (hi : PI X tg iter wi) (ok : BlkOk X.N X.env.scope scope own)
    (hg : ∀ (s : Shared) (H : Hp) (C : Addr) (cl : List (Str × Addr)) (fp : List Addr), PG (X.blk s H scope (compEnvC scope cl C X.env) fp) tg g) (ht : ∀ (s : Shared) (H : Hp) (C : Addr) (cl : List (Str × Addr)) (fp : List Addr), PTs (X.blk s H scope (compEnvC scope cl C X.env) fp) ifs tt)
    (hk : ∀ (s : Shared) (H : Hp) (C : Addr) (cl : List (Str × Addr)) (fp : List Addr), PE (X.blk s H scope (compEnvC scope cl C X.env) fp) kx tk)
    (he : ∀ (s : Shared) (H : Hp) (C : Addr) (cl : List (Str × Addr)) (fp : List Addr), PE (X.blk s H scope (compEnvC scope cl C X.env) fp) vx tv) (hs : ∀ x, foldedSetIterable iter X.env x = pure x := by intro _; rfl) :
    PE X (.DictComp kx vx [⟨tg, iter, ifs, 0⟩] scope pos) (tDcT wi g tt tk tv (own.map (·.2))) := by
  refine ⟨fun pins s σ H Q I h => ?_⟩
  rw [arm_eval_DictComp]
  refine dc_coreT hu hc hN hi ok hg ht hk he hs I h fun D C s' m H' I' q hn f => ⟨m, hn, fun h'' sb => ?_⟩
  obtain ⟨f0, f1, f2, f3, f4, f5⟩ := f
  exact ⟨.ref D, H', I'.turned (t' := s'.toks) (fun b o hb e => (sb.2 b hb).trans e) f0 f1 f3 f4 f5, rfl, q⟩
end
/-! ### a new dict grows at P -/
structure Bd (K : PySem.W.Frag) (P : Addr) (G : Gh) (H : Hp) (acc : List (D × D)) (G2 : Gh) (st2 : S) (H2 : Hp) : Prop where
  ss : SS K G2 st2 H2
  po : Post G H G2 H2
  new : H P = none
  na : P ∉ G2.as
  ng : G2.g P = none
  at_ : ∃ kvs, H2 P = some (.dT kvs) ∧ RepT K G2 acc kvs
def OwnD (K : PySem.W.Frag) (H : Hp) (G2 : Gh) (H2 : Hp) (l : List (D × D)) (v : V) : Prop := ∃ p kvs, v = .ref p ∧ H2 p = some (.dT kvs) ∧ G2.g p = none ∧ p ∉ G2.as ∧ H p = none ∧ RepT K G2 l kvs
section
variable {K : PySem.W.Frag} {P : Addr} {G G2 G3 : Gh} {H H2 H3 : Hp} {st st2 st3 : S} {acc acc' : List (D × D)}
theorem Bd.start (s : SS K G st H) (hP : H P = none) : Bd K P G H [] G st (upd H P (.dT [])) := by
  obtain ⟨s2, p2, na, ng⟩ := s.room (o := .dT []) hP
  exact ⟨s2, p2, hP, na, ng, [], upd_same, .nil⟩
theorem Bd.on (b : Bd K P G H acc G2 st2 H2) (p : Post G2 H2 G3 H3) (s3 : SS K G3 st3 H3) : Bd K P G H acc G3 st3 H3 := by
  obtain ⟨vs, e, r⟩ := b.at_
  refine ⟨s3, b.po.trans p, b.new, fun z => ?_, p.n P b.ng (ne_some e) b.na, vs, p.h P _ e b.na, r.mono p.le⟩
  rcases p.o P z with z | z
  · exact b.na z
  · rw [e] at z; cases z
theorem Bd.put (b : Bd K P G H acc G2 st2 H2) {k : List Key} {d : D} {v : V} (r : Rep K G2 d v) (hl : acc.length < 100000) (hp : DPutD acc (.tup (k.map kD)) d acc') : ∃ kvs, H2 P = some (.dT kvs) ∧ kvs.length < sizeLine ∧ Bd K P G H acc' G2 st2 (upd H2 P (.dT (putK kvs k v))) := by
  obtain ⟨vs, e, rs⟩ := b.at_
  refine ⟨vs, e, sz_lt (by rw [← rs.length]; exact hl), ⟨fun a o q => ?_, b.ss.len, b.ss.nd, fun n c p e1 e2 => (b.ss.cell n c p e1 e2).mono (Gh.le.refl _) (fun o q => ?_) (fun _ q => q)⟩, ⟨b.po.le, fun x o q k => ?_, b.po.n, b.po.o, fun x k => ?_⟩, b.new, b.na, b.ng, _, upd_same, RepT.put r rs hp⟩
  · rw [upd_ne (fun z => by rw [z, b.ng] at q; cases q)]; exact b.ss.ex a o q
  · rw [upd_ne (mem_ne b.na (List.mem_of_getElem? e2))]; exact q
  · rw [upd_ne (live_ne b.new (ne_some q))]; exact b.po.h x o q k
  · by_cases h : x = P
    · subst h; rw [upd_same]; exact fun z => nomatch z
    · rw [upd_ne h]; exact b.po.m x k
theorem OwnD.on {l : List (D × D)} {v : V} (p : Post G H G2 H2) (h : OwnD K H2 G3 H3 l v) : OwnD K H G3 H3 l v := by
  obtain ⟨a, vs, e1, e2, e3, e4, e5, e6⟩ := h
  refine ⟨a, vs, e1, e2, e3, e4, ?_, e6⟩
  cases hh : H a with
  | none => rfl
  | some o => exact absurd e5 (p.m a (by rw [hh]; exact fun z => nomatch z))
theorem Bd.own (b : Bd K P G H acc G2 st2 H2) : OwnD K H G2 H2 acc (.ref P) := by
  obtain ⟨vs, e, rs⟩ := b.at_
  exact ⟨P, vs, rfl, e, b.ng, b.na, b.new, rs⟩
theorem OwnD.res {l : List (D × D)} {v : V} (h : OwnD K H G2 H2 l v) : ResOk K H G2 H2 (.ownD l) v := by
  obtain ⟨p, vs, e1, e2, e3, e4, e5, e6⟩ := h
  exact ⟨p, e1, ⟨vs, e2, e6⟩, e3, e4, e5⟩
theorem ownD_frz {l : List (D × D)} {v : V} (s : SS K G2 st2 H2) (po : Post G H G2 H2) (h : OwnD K H G2 H2 l v) : ∃ G3, SS K G3 st2 H2 ∧ Post G H G3 H2 ∧ Rep K G3 (.dic l) v := by
  obtain ⟨p, vs, rfl, e, gp, np, hn, rs⟩ := h
  obtain ⟨s3, le⟩ := s.freeze e gp np
  exact ⟨_, s3, po.freeze gp hn, .dicT upd_same (rs.mono le)⟩
theorem ownD_cell {l : List (D × D)} {v : V} (s : SS K G2 st2 H2) (po : Post G H G2 H2) (h : OwnD K H G2 H2 l v) : ∃ G3, SS K G3 (st2 ++ [.dic l]) H2 ∧ Post G H G3 H2 ∧ Rep K G3 (.ref st2.length) v := by
  obtain ⟨p, vs, rfl, e, gp, np, hn, rs⟩ := h
  refine ⟨_, s.cellOf (c := .dic l) np ⟨gp, vs, e, rs.mono le_cell⟩, po.cellOf hn, .ref ?_⟩
  rw [← s.len, List.getElem?_append_right (Nat.le_refl _), Nat.sub_self]
  rfl
end
/-- a fresh dict -/
abbrev AFd := List A → S → (List (D × D) → S → Prop) → QX → Prop
def RefD (K : PySem.W.Frag) (W : WX) (te : TE) (af : AFd) : Prop := ∀ G env st σ H (Q : VK) (q : List (D × D) → S → Prop) (er : QX), SS K G st H → Sl K G env σ → af env st q er → (∀ v l st2 G2 H2, Post G H G2 H2 → SS K G2 st2 H2 → ResOk K H G2 H2 (.ownD l) v → q l st2 → Q v H2) → ThenX K W G H σ er → te σ H Q
def AXD (X : Cx) (W : WX) (e : Expr) (af : AFd) : Prop := ∃ te, PE X e te ∧ RefD X.K W te af
def aFd (f : AFd) : AE := fun env st q er => f env st (fun l s1 => q (.dic l) s1) er
theorem RefD.e {K : PySem.W.Frag} {W : WX} {te : TE} {af : AFd} (h : RefD K W te af) : RefE K W te (aFd af) := fun G env st σ H Q q er s l a tE tX =>
  h G env st σ H Q _ er s l a (fun v ds st2 G2 H2 p2 s2 r2 h2 => by
    obtain ⟨G3, s3, p3, r3⟩ := ownd_frz s2 p2 r2
    exact tE v _ st2 G3 H2 p3 s3 r3 h2) tX
def aDcL (gd : Gd) (g : AG) (t : AT) (ek ev : AE) (env : List A) (q : List (D × D) → S → Prop) : List D → List (D × D) → S → Prop
  | [], acc, st => gdOk gd st ∧ q acc st
  | x :: xs, acc, st => gdOk gd st ∧ g x env st fun e1 => t e1 st (fun b s2 => if b = true then ek e1 s2 (fun kk s3 => ev e1 s3 (fun y s4 => isKeyT kk ∧ acc.length < 100000 ∧ ∃ acc', DPutD acc kk y acc' ∧ aDcL gd g t ek ev env q xs acc' s4) (fun _ _ => False)) (fun _ _ => False) else aDcL gd g t ek ev env q xs acc s2) (fun _ _ => False)
def fDc (it : AI) (g : AG) (t : AT) (ek ev : AE) (vs : List Nat) : AFd := fun env st q er => it env st (fun ds gd s1 => aDcL gd g t ek ev (wA vs env) q ds [] s1) er
theorem refD_dc {K : PySem.W.Frag} {W : WX} {wi : TI} {ai : AI} {g : TG} {ag : AG} {tt : TT} {xt : AT} {tk te : TE} {ak ae : AE} {vs : List Nat} (hi : RefI K W wi ai) (hg : RefG K g ag) (hs : Stays vs g) (ht : RefT K W0 tt xt) (hk : RefE K W0 tk ak) (he : RefE K W0 te ae) :
    RefD K W (tDcT wi g tt tk te vs) (fDc ai ag xt ak ae vs) := fun G env st σ H Q q er s l h tE tX => by
  refine hi G env st σ H _ _ er s l h (fun J ds gd st2 G2 H2 p2 s2 wk h2 => ?_) tX
  intro P hP
  have b0 := Bd.start s2 hP
  have l0 := (l.mono p2.le).wipe vs
  have gk : ∀ {ds acc st}, aDcL gd ag xt ak ae (wA vs env) q ds acc st → gdOk gd st := fun {ds acc st} h => by cases ds <;> exact h.1
  let Inv : Nat → Hp → Prop := fun i H' => i ≤ ds.length ∧ ∃ acc G3 st3, Bd K P G2 H2 acc G3 st3 H' ∧ G2.le G3 ∧ aDcL gd ag xt ak ae (wA vs env) q (ds.drop i) acc st3
  refine ⟨fun i m H' => m = ds.length - i ∧ Inv i H', ⟨ds.length, by omega, Nat.zero_le _, [], G2, st2, b0, Gh.le.refl _, h2⟩, ?_⟩
  rintro i m H' ⟨rfl, hle, acc, G3, st3, b3, le3, f3⟩
  have s3 := b3.ss
  have k3 := gk f3
  by_cases hlt : i < ds.length
  · refine .inr ⟨wk.go i G3 st3 H' le3 s3 k3 hlt, Inv (i + 1), fun H4 h4 => ⟨ds.length - (i + 1), by omega, rfl, h4⟩, fun x H5 y => ?_⟩
    rw [List.drop_eq_getElem_cons hlt] at f3
    have hd : ds[i]? = some ds[i] := by simp [hlt]
    have turn : ∀ G6, Post G3 H' G6 H5 → SS K G6 st3 H5 → Rep K G6 ds[i] x → g x (wipe σ vs) H5 fun σ2 H2 => wipe σ2 vs = wipe σ vs ∧ tt σ2 H2 fun b H3 =>
        if b = true then tk σ2 H3 fun y H4 => te σ2 H4 fun z H5 => ∃ kvs k b, y = .ref b ∧ H5 b = some (.tup (k.map kV)) ∧ H5 P = some (.dT kvs) ∧ kvs.length < sizeLine ∧ Inv (i + 1) (upd H5 P (.dT (putK kvs k z))) else Inv (i + 1) H3 := fun G6 p6 s6 rr => by
      have b6 := b3.on p6 s6
      have le6 := le3.trans p6.le
      refine stay_g hg hs s6 (l0.mono le6) rr f3.2 fun env7 σ7 hw l7 h7 => ?_
      refine ht G6 env7 st3 σ7 H5 _ _ _ s6 l7 h7 (fun bb st8 G8 H8 p8 s8 h8 => ?_) ThenX.none
      cases bb with
      | false => exact ⟨hlt, acc, G8, st8, b6.on p8 s8, le6.trans p8.le, h8⟩
      | true =>
        refine hk G8 env7 st8 σ7 H8 _ _ _ s8 (l7.mono p8.le) h8 (fun w d st9 G9 H9 p9 s9 r9 h9 => ?_) ThenX.none
        have p89 := p8.trans p9
        refine he G9 env7 st9 σ7 H9 _ _ _ s9 (l7.mono p89.le) h9 (fun w2 d2 st10 G10 H10 p10 s10 r10 h10 => ?_) ThenX.none
        obtain ⟨⟨kk, rfl⟩, hl, acc', hp, h10⟩ := h10
        have p810 := p89.trans p10
        obtain ⟨kvs, e1, e2, e3⟩ := (b6.on p810 s10).put r10 hl hp
        cases (r9.mono p10.le) with
        | tup hb rs =>
          have := reps_kD rs
          subst this
          exact ⟨kvs, kk, _, rfl, s10.ex _ _ hb, e1, e2, hlt, acc', G10, st10, e3, le6.trans p810.le, h10⟩
    rcases wk.yld i G3 st3 H' _ x H5 le3 s3 k3 hd y with ⟨e5, rr⟩ | ⟨p, xs, es, hp, e5, ex, ed, rs⟩
    · subst e5
      exact turn G3 Post.refl s3 rr
    · obtain ⟨s6, p6⟩ := s3.new (o := .tup xs) hp
      rw [← e5] at s6 p6
      refine turn _ p6 s6 ?_
      rw [ed, ex]
      exact .tup upd_same (rs.mono p6.le)
  · have e : i = ds.length := by omega
    subst e
    rw [List.drop_length] at f3
    exact .inl ⟨wk.stop _ G3 st3 H' le3 s3 k3 rfl, tE _ acc st3 G3 H' (p2.trans b3.po) s3 (b3.own.on p2).res f3.2⟩
section
variable {X : Cx} {W : WX} {k : Nat} {pos spos : Pos} {kx vx tg iter : Expr} {ifs : List Expr} {scope : Scope} {own : List (Str × Nat)} {ai : AI} {ag : AG} {xt : AT} {ak ae : AE}
theorem axd_dc (own : List (Str × Nat)) (C : CxE X W k) (ok : BlkOk X.N X.env.scope scope own) (hi : AXI X W tg iter ai)
    (hg : ∀ (s : Shared) (H : Hp) (C : Addr) (cl : List (Str × Addr)) (fp : List Addr), AXGc (X.blk s H scope (compEnvC scope cl C X.env) fp) (own.map (·.2)) tg ag) (ht : ∀ (s : Shared) (H : Hp) (C : Addr) (cl : List (Str × Addr)) (fp : List Addr), AXTs (X.blk s H scope (compEnvC scope cl C X.env) fp) W0 ifs xt)
    (hk : ∀ (s : Shared) (H : Hp) (C : Addr) (cl : List (Str × Addr)) (fp : List Addr), AX (X.blk s H scope (compEnvC scope cl C X.env) fp) W0 kx ak)
    (he : ∀ (s : Shared) (H : Hp) (C : Addr) (cl : List (Str × Addr)) (fp : List Addr), AX (X.blk s H scope (compEnvC scope cl C X.env) fp) W0 vx ae) (hs : ∀ x, foldedSetIterable iter X.env x = pure x := by intro _; rfl) :
    AXD X W (.DictComp kx vx [⟨tg, iter, ifs, 0⟩] scope pos) (fDc ai ag xt ak ae (own.map (·.2))) := by
  obtain ⟨t, p, r⟩ := hi
  exact ⟨_, pe_dcT (by have := u64 C.room; omega) C.calm C.nd p ok (fun s H C cl fp => (hg s H C cl fp).pg) (fun s H C cl fp => (ht s H C cl fp).pts) (fun s H C cl fp => (hk s H C cl fp).pe) (fun s H C cl fp => (he s H C cl fp).pe) hs, refD_dc r rdG_ref rdG_stays rdT_ref rdE_ref rdE_ref⟩
theorem axd_e {e : Expr} {f : AFd} (h : AXD X W e f) : AX X W e (aFd f) := by
  obtain ⟨t, p, r⟩ := h
  exact ⟨t, p, r.e⟩
/-- {} whose keys are to be tuples -/
def fDNew : AFd := fun _ st q _ => q [] st
theorem axd_new : AXD X W (.Dict [] [] pos) fDNew := ⟨_, pe_dnewT, fun G env st σ H Q q er s l h tE tX => fun p hp => by
  obtain ⟨s2, p2, na, ng⟩ := s.room (o := .dT []) hp
  exact tE _ [] st G _ p2 s2 ⟨p, rfl, ⟨[], upd_same, .nil⟩, ng, na, hp⟩ h⟩
end
end AM
set_option Elab.async false
set_option linter.all false
set_option maxRecDepth 100000
set_option maxHeartbeats 4000000
namespace AM
open PySem PySem.Spec PyProof.Rows L2 Evl
/-! ### == of dicts whose keys are tuples -/
section
variable {prog : Program} {w : World} {K : Type} [DecidableEq K] {knd : HeapKind prog w K} {A : Around} {E : Value → Shared → Prop} {s : Shared}
inductive HitsH (A : Around) (s : Shared) (xb : List (K × Addr × Value)) : List (K × Addr × Value) → Bool → Prop
  | nil : HitsH A s xb [] true
  | miss {k : K} {q : Addr × Value} {r : List (K × Addr × Value)} : (∀ (j : Nat) (p : Addr × Value), xb[j]? ≠ some (k, p)) → HitsH A s xb ((k, q) :: r) false
  | hit {k : K} {p p' : Addr} {v y : Value} {r : List (K × Addr × Value)} {j : Nat} {e b : Bool} : xb[j]? = some (k, (p', y)) → SeqAt.EqAt A s v y e → HitsH A s xb r b → HitsH A s xb ((k, (p, v)) :: r) (e && b)
theorem typeIsH {s : Shared} {d : Addr} {xs : List (K × Addr × Value)} (x : s.heap.DictOfH knd d xs) : s.TypeIs (.ref d) "dict" := let ⟨o, _, _, ho, hc, _⟩ := x; ⟨o, ho, hc.1⟩
theorem samePairsH {nm : String} {a b : Addr} {xa xb : List (K × Addr × Value)} {r : Bool} {Q : Bool → Shared → Prop} (hu : knd.room A) (ha : (a == sysModules) = false) (hb : (b == sysModules) = false)
    (da : s.heap.DictOfH knd a xa) (db : s.heap.DictOfH knd b xb) (hits : xa.length = xb.length → HitsH A s xb xa r) (h : Q (xa.length == xb.length && r) s) :
    wpAny (model prog w) A (Builtin.Dict.samePairs nm a b) Q E s := by
  obtain ⟨oa, es, ep, hoa, _, hda, hea, hia, hna⟩ := da
  obtain ⟨ob, es', ep', hob, _, hdb, heb, hib, hnb⟩ := db
  have hla : xa.length = es.size := (size_of_entries hea).symm
  have hlb : xb.length = es'.size := (size_of_entries heb).symm
  rw [hla, hlb] at h
  unfold Builtin.Dict.samePairs Builtin.Dict.showsAll
  rw [if_neg (show ¬ (a == sysModules) = true by rw [ha]; exact Bool.false_ne_true), if_neg (show ¬ (b == sysModules) = true by rw [hb]; exact Bool.false_ne_true)]
  refine wpAny_bind (wpAny_pure (wpAny_bind (wpAny_pure ?_)))
  refine wpAny_bind (wpAny_dictEntries hoa hda ?_)
  dsimp only
  refine wpAny_bind (wpAny_dictEntries hob hdb ?_)
  by_cases hsz : es.size = es'.size
  case neg =>
    rw [if_pos (by simpa using hsz)]
    have hbf : (es.size == es'.size) = false := by simpa using hsz
    rw [hbf, Bool.false_and] at h
    exact wpAny_bind (wpAny_rule (wpAny_pure h))
  case pos =>
    have h' : Q r s := by simpa [hsz] using h
    have hits' := hits (by rw [hla, hlb]; exact hsz)
    rw [if_neg (by rw [hsz]; simp)]
    refine wpAny_bind (wpAny_dictEpoch hoa hda ?_)
    refine wpAny_bind ?_
    rw [Std.Legacy.Range.forIn_eq_forIn_range']
    simp only [Std.Legacy.Range.size, Nat.sub_zero, Nat.add_sub_cancel, Nat.div_one]
    refine wpAny_forIn_list _
      (fun rest q s' => s' = s ∧ q = (none, ()) ∧ ∃ i, rest = List.range' i (es.size - i) ∧ i ≤ es.size ∧ HitsH A s xb (xa.drop i) r)
      _ ?_ ?_ _ _ ⟨rfl, rfl, 0, by simp, Nat.zero_le _, hits'⟩
    · rintro x rest q s' ⟨rfl, rfl, i, hr, hi, hpre⟩
      have hlt : i < es.size := by
        rcases Nat.lt_or_ge i es.size with h | h
        · exact h
        · rw [Nat.sub_eq_zero_of_le h] at hr; simp at hr
      obtain ⟨rfl, hrest⟩ : x = i ∧ rest = List.range' (i + 1) (es.size - (i + 1)) := by
        have e : es.size - i = (es.size - (i + 1)) + 1 := by omega
        rw [e, List.range'_succ] at hr
        injection hr with h1 h2
        exact ⟨h1, h2⟩
      refine wpAny_bind (wpAny_dictEntries hoa hda ?_)
      have hlt' : x < xa.length := by rw [hla]; exact hlt
      obtain ⟨k, p, v, hkv⟩ : ∃ k p v, xa[x] = (k, (p, v)) := ⟨_, _, _, rfl⟩
      have hget : es[x]? = some ⟨knd.hash k, .ref p, v⟩ := by
        rw [entry_at hea x, List.getElem?_eq_getElem hlt', hkv]
        rfl
      rw [hget]
      have hdrop : xa.drop x = (k, (p, v)) :: xa.drop (x + 1) := by rw [← hkv]; exact List.drop_eq_getElem_cons hlt'
      rw [hdrop] at hpre
      have hkey : knd.is s'.heap k p := by
        have := hia xa[x] (List.getElem_mem hlt')
        rw [hkv] at this
        exact this
      show wpAny _ _ (holding [.ref p, v] _ >>= _) _ _ _
      refine wpAny_bind (wpAny_holding (wpAny_bind (wpAny_dictFind_heap hu hkey hob hdb heb hib hnb (fun hno => ?_) (fun j pp hj => ?_))))
      · have hp : ∀ {l : List (K × Addr × Value)} {b : Bool}, HitsH A s' xb l b → l = (k, (p, v)) :: xa.drop (x + 1) → b = false := by
          intro l b hh
          cases hh with
          | nil => intro z; cases z
          | miss _ => intro _; rfl
          | hit hj _ _ => intro z; injection z with z1 _; injection z1 with z1 _; subst z1; exact absurd hj (hno _ _)
        rw [hp hpre rfl] at h'
        refine wpAny_pure ?_
        show wpAny _ _ (if (!false) = true then _ else _) _ _ _
        rw [if_pos (by decide)]
        exact wpAny_pure (wpAny_pure h')
      · refine wpAny_bind (wpAny_dictEntries hob hdb ?_)
        rw [entry_at heb j, hj]
        have hp : ∀ {l : List (K × Addr × Value)} {b : Bool}, HitsH A s' xb l b → l = (k, (p, v)) :: xa.drop (x + 1) → ∃ e b', SeqAt.EqAt A s' v pp.2 e ∧ HitsH A s' xb (xa.drop (x + 1)) b' ∧ b = (e && b') := by
          intro l b hh
          cases hh with
          | nil => intro z; cases z
          | miss hno => intro z; injection z with z1 _; injection z1 with z1 _; subst z1; exact absurd hj (hno _ _)
          | hit hj' he hr' =>
            intro z
            injection z with z1 z2
            injection z1 with z1 z3
            injection z3 with z3 z4
            subst z1 z2 z4
            have e1 := atKey_of_get hnb hj
            have e2 := atKey_of_get hnb hj'
            rw [e1] at e2
            cases e2
            exact ⟨_, _, he, hr', rfl⟩
        obtain ⟨e, b', he, hrr, er⟩ := hp hpre rfl
        refine wpAny_holding (he prog w _ _ ?_)
        cases e with
        | false =>
          rw [er, Bool.false_and] at h'
          show wpAny _ _ (if (!false) = true then _ else _) _ _ _
          rw [if_pos (by decide)]
          exact wpAny_pure (wpAny_pure h')
        | true =>
          rw [Bool.true_and] at er
          rw [← er] at hrr
          show wpAny _ _ (if (!true) = true then _ else _) _ _ _
          rw [if_neg (by decide)]
          refine wpAny_bind (wpAny_dictEpoch hoa hda ?_)
          rw [if_neg (by simp)]
          exact wpAny_pure ⟨rfl, rfl, x + 1, hrest, hlt, hrr⟩
    · rintro q s' ⟨rfl, rfl, i, hr, hi, hpre⟩
      have hin : i = es.size := by
        rcases Nat.lt_or_ge i es.size with h | h
        · have e : es.size - i = (es.size - (i + 1)) + 1 := by omega
          rw [e, List.range'_succ] at hr; exact nomatch hr
        · exact Nat.le_antisymm hi h
      refine wpAny_pure ?_
      rw [hin, ← hla, List.drop_length] at hpre
      cases hpre
      exact h'
theorem eqH {a b : Addr} {xa xb : List (K × Addr × Value)} {r : Bool} {Q : Value → Shared → Prop} (hr : knd.room A.in1) (ha : (a == sysModules) = false) (hb : (b == sysModules) = false)
    (da : s.heap.DictOfH knd a xa) (db : s.heap.DictOfH knd b xb) (hu : A.units < cLine) (hits : xa.length = xb.length → HitsH A.in1 s xb xa r) (h : Q (.bool (xa.length == xb.length && r)) s) :
    wpAny (model prog w) A (compareOp .Eq (.ref a) (.ref b)) Q E s := by
  refine wpAny_richCompare_same_room (op := .Eq) (typeIsH da) (typeIsH db) PySem.F.slot_dict_eq (wpAny_call_entry PySem.F.slot_dict_eq (typeIsH da) PySem.F.entry_dict_eq ?_ (PySem.F.args_dict_eq_2 _ _)) hu
  show wpAny _ _ (Builtin.Dict.dictSlotArgs "__eq__" ⟨[.ref a, .ref b], []⟩ >>= _) _ _ s
  refine wpAny_bind ?_
  unfold Builtin.Dict.dictSlotArgs
  refine wpAny_bind (wpAny_notOrdered_dict (typeIsH da) ?_)
  show wpAny _ _ (pure (Value.ref a, Value.ref b)) _ _ s
  refine wpAny_pure ?_
  refine wpAny_bind (wpAny_isInstance (T := "dict") (typeIsH db) PySem.F.sub_dict_dict ?_)
  simp only [Bool.not_true, Bool.false_eq_true, if_false]
  refine wpAny_bind (wpAny_pure (wpAny_bind (wpAny_pure ?_)))
  refine wpAny_bind (samePairsH hr ha hb da db hits ?_)
  refine wpAny_pure ⟨_, rfl, ?_, ?_⟩
  · exact fun x => nomatch x
  · simpa using h
end
/-! ### by values, by data -/
inductive VHits (K : PySem.W.Frag) (H : Hp) (m : List (List Key × V)) : List (List Key × V) → Bool → Prop
  | nil : VHits K H m [] true
  | miss {k : List Key} {v : V} {r : List (List Key × V)} : valV m k = none → VHits K H m ((k, v) :: r) false
  | hit {k : List Key} {v y : V} {d e : PyData} {r : List (List Key × V)} {b : Bool} : valV m k = some y → Dp K H v d → Dp K H y e → SeqAt.shaped d = true → SeqAt.shaped e = true → VHits K H m r b → VHits K H m ((k, v) :: r) (PyData.eqv d e && b)
def rEqT (K : PySem.W.Frag) : R2 := fun x y H Q => ∃ a b kvs kws r, x = .ref a ∧ y = .ref b ∧ H a = some (.dT kvs) ∧ H b = some (.dT kws) ∧ (kvs.length = kws.length → VHits K H kws kvs r) ∧ Q (.bl (kvs.length == kws.length && r)) H
section
variable {X : Cx}
theorem hits_of {pins : List (Addr × Obj)} {σ : L2.St} {H : Hp} {s : Shared} {kws : List (List Key × V)} {xb : List (List Key × Addr × Value)} (hu : X.A.in1.units + 64 < cLine) (I : Inv X pins σ H s) (rb : KT H kws xb) (hn : (xb.map (·.1)).Nodup) :
    ∀ {kvs : List (List Key × V)} {xa : List (List Key × Addr × Value)} {r : Bool}, KT H kvs xa → VHits X.K H kws kvs r → HitsH X.A.in1 s xb xa r := by
  intro kvs xa r ra h
  induction h generalizing xa with
  | nil => cases ra; exact .nil
  | @miss k v r hm =>
    cases ra with
    | cons p t =>
      rename_i q qs
      obtain ⟨k', a', v'⟩ := q
      obtain ⟨e1, e2, e3⟩ := p
      obtain rfl : k = k' := e1
      refine .miss fun j p hj => ?_
      have e := atKey_of_get hn hj
      have z := rb.val k
      rw [hm, e] at z
      exact z
  | @hit k v y d e r b hm d1 d2 s1 s2 _ ih =>
    cases ra with
    | cons p t =>
      rename_i q qs
      obtain ⟨k', a', v'⟩ := q
      obtain ⟨e1, e2, e3⟩ := p
      obtain rfl : k = k' := e1
      have z := rb.val k
      rw [hm] at z
      obtain ⟨w', hw, rw'⟩ := RelO.some_of z
      obtain ⟨⟨p', y'⟩, hp, hp2⟩ := Option.map_eq_some_iff.mp hw
      obtain rfl : y' = w' := hp2
      unfold atKey at hp
      obtain ⟨x, hx, hx2⟩ := Option.map_eq_some_iff.mp hp
      have hk := List.find?_some hx
      have hmem := List.mem_of_find?_eq_some hx
      obtain ⟨j, hj⟩ := List.mem_iff_getElem?.mp hmem
      have hk : x.1 = _ := of_decide_eq_true hk
      have hx' : x = (_, (p', y')) := Prod.ext hk hx2
      rw [hx'] at hj
      obtain ⟨as, r1⟩ := Dp.reads I _ _ _ d1 e3
      obtain ⟨bs, r2⟩ := Dp.reads I _ _ _ d2 rw'
      exact .hit hj (PySem.W.keq_at r1 r2 s1 s2 hu) (ih t)
theorem op_eqT (hu : X.A.units + 65 < cLine) : OpR X (compareOp .Eq) (rEqT X.K) := by
  intro pins s σ H x y v u Q I rx ry h
  obtain ⟨a, b, kvs, kws, r, rfl, rfl, ea, eb, hh, q⟩ := h
  obtain rfl : v = Value.ref a := rx
  obtain rfl : u = Value.ref b := ry
  obtain ⟨za, ha, xa, ra, da⟩ := dt_of I.hok ea
  obtain ⟨zb, hb, xb, rb, db⟩ := dt_of I.hok eb
  have l1 := Paired.length ra
  have l2 := Paired.length rb
  have hu1 : X.A.in1.units + 64 < cLine := by show X.A.units + 1 + 64 < cLine; omega
  refine eqH (show (tupleKind (mixKind X.prog X.w)).room X.A.in1 by show X.A.units + 1 < cLine; omega) ha hb da db (by omega) (r := r) (fun hl => hits_of hu1 I rb (by obtain ⟨_, _, _, _, _, _, _, _, hn⟩ := db; exact hn) ra (hh (by omega))) ?_
  rw [← l1, ← l2]
  exact ⟨.bl _, H, I, rfl, q⟩
end
inductive DHits (m : List (D × D)) : List (D × D) → Bool → Prop
  | nil : DHits m [] true
  | miss {k v : D} {r : List (D × D)} : (∀ p ∈ m, p.1 ≠ k) → DHits m ((k, v) :: r) false
  | hit {k v w : D} {r : List (D × D)} {b : Bool} : DLook m k w → v.shp → w.shp → DHits m r b → DHits m ((k, v) :: r) (D.eqv v w && b)
def keysT (l : List (D × D)) : Prop := l ≠ [] ∧ ∀ p ∈ l, isKeyT p.1
def oEqT : O2 := fun x y q => ∃ l m b, x = .dic l ∧ y = .dic m ∧ keysT l ∧ keysT m ∧ (l.length = m.length → DHits m l b) ∧ q (.bl (l.length == m.length && b))
section
variable {K : PySem.W.Frag} {G : Gh} {H : Hp}
theorem RepK.noT {l : List (D × D)} {kvs : List (Key × V)} (r : RepK K G l kvs) (h : keysT l) : False := by
  cases r with
  | nil => exact h.1 rfl
  | cons q r =>
    rename_i k d v ds vs
    obtain ⟨kk, e⟩ := h.2 (kD k, d) List.mem_cons_self
    cases k <;> cases e
theorem Rv.dT {l : List (D × D)} {v : V} (r : Rv K G H (.dic l) v) (h : keysT l) : ∃ a kvs, v = .ref a ∧ H a = some (.dT kvs) ∧ RepT K G l kvs := by
  cases r with
  | dicT hp rk => exact ⟨_, _, rfl, hp, rk⟩
theorem RepT.none {k : List Key} : ∀ {m : List (D × D)} {kws : List (List Key × V)}, RepT K G m kws → (∀ p ∈ m, p.1 ≠ .tup (k.map kD)) → valV kws k = none
  | _, _, .nil, _ => rfl
  | _, _, .cons (k := k') h r, hn => by
    rw [valV_neg (show ¬ k' = k from fun z => hn _ List.mem_cons_self (by rw [z]))]
    exact r.none fun p hp => hn p (List.mem_cons_of_mem _ hp)
theorem vhits {m : List (D × D)} {kws : List (List Key × V)} (e : Ex G.g H) (rm : RepT K G m kws) : ∀ {l : List (D × D)} {kvs : List (List Key × V)} {b : Bool}, RepT K G l kvs → DHits m l b → VHits K H kws kvs b := by
  intro l kvs b rl h
  induction h generalizing kvs with
  | nil => cases rl; exact .nil
  | miss hm =>
    cases rl with
    | cons h r => exact .miss (rm.none hm)
  | hit hl hv hw _ ih =>
    cases rl with
    | cons h r =>
      obtain ⟨y, e1, ry⟩ := rm.look hl
      rw [← D.py_eqv hv.1 hw.1]
      exact .hit e1 (h.dp e hv.1) (ry.dp e hw.1) (D.shaped hv) (D.shaped hw) (ih r)
end
theorem op_EqT {X : Cx} {W : WX} {k : Nat} (C : CxE X W k) : OpR X (compareOp .Eq) (rEqT X.K) ∧ RefO X.K (rEqT X.K) oEqT := ⟨op_eqT (u64 C.room), fun G st H x y dx dy Q q s rx ry h t => by
  obtain ⟨l, m, b, rfl, rfl, kl, km, hh, h⟩ := h
  obtain ⟨a, kvs, rfl, ha, ra⟩ := rx.dT kl
  obtain ⟨a', kws, rfl, hb, rb⟩ := ry.dT km
  refine ⟨a, a', kvs, kws, b, rfl, rfl, ha, hb, fun e => vhits s.ex rb ra (hh (by rw [ra.length, rb.length]; exact e)), ?_⟩
  rw [← ra.length, ← rb.length]
  exact t.here s (.bl _) h⟩
end AM
set_option Elab.async false
set_option linter.all false
set_option maxRecDepth 100000
set_option maxHeartbeats 4000000
namespace AM
open PySem PySem.Spec PyProof.Rows L2 Evl
/-! ### own operators, by data -/
def isCls (c : Str) : D → Prop
  | .obj c' _ => c' = c
  | _ => False
def isInt : D → Prop
  | .int _ => True
  | _ => False
def anyD : D → Prop := fun _ => True
theorem isCls_at {c : Str} {K : PySem.W.Frag} {G : Gh} {H : Hp} {d : D} {v : V} (r : Rv K G H d v) (h : isCls c d) : ∃ a dx fs, v = .ref a ∧ H a = some (.ins (He.ga K c) dx fs) := by
  cases r with
  | obj hp rf =>
    obtain rfl := (show _ = c from h)
    exact ⟨_, _, _, rfl, hp⟩
  | _ => exact h.elim
/-- the result, whatever it is, as a value -/
def rsD (q : D → S → Prop) : Rs → S → Prop := fun r s => match r with
  | .d x => q x s
  | .own l => q (.lst l) s
  | .ownD l => q (.dic l) s
def aOwn2 (c : Str) (mf : AF) (P : D → Prop) (a b : AE) : AE := fun env st q er => a env st (fun x s1 => b env s1 (fun y s2 => isCls c (vw s2 x) ∧ P (vw s2 y) ∧ mf [x, y] s2 (rsD q) er) er) er
def aOwn1 (c : Str) (mf : AF) (a : AE) : AE := fun env st q er => a env st (fun x s1 => isCls c (vw s1 x) ∧ mf [x] s1 (rsD q) er) er
def aOwnIn (c : Str) (neg : Bool) (mf : AF) (a b : AE) : AE := fun env st q er => a env st (fun x s1 => b env s1 (fun y s2 => isCls c (vw s2 y) ∧ mf [y, x] s2 (fun r s3 => ∃ k, r = .d (.bl k) ∧ q (.bl (k != neg)) s3) er) er) er
section
variable {K : PySem.W.Frag} {W : WX} {c : Str} {mf : AF} {ta tb : TE} {aa ab : AE}
theorem refE_own2 {P : D → Prop} {PV : V → Hp → Prop} (hP : ∀ {G H d v}, Rv K G H d v → P d → PV v H) (ha : RefE K W ta aa) (hb : RefE K W tb ab) : RefE K W (tOwn2 (He.ga K c) (SpA K mf) (fun σ c d H => W c d σ H) PV ta tb) (aOwn2 c mf P aa ab) := fun G env st σ H Q q er s l h tE tX => by
  refine ha G env st σ H _ _ er s l h (fun v d st1 G1 H1 p1 s1 r1 h1 => ?_) tX
  refine hb G1 env st1 σ H1 _ _ er s1 (l.mono p1.le) h1 (fun u d2 st2 G2 H2 p2 s2 r2 h2 => ?_) (tX.on p1)
  obtain ⟨h2, h3, h4⟩ := h2
  have r1' := r1.mono p2.le
  obtain ⟨a, dx, fs, rfl, hp⟩ := isCls_at (r1'.vw s2) h2
  have p12 := p1.trans p2
  refine ⟨a, dx, fs, rfl, hp, hP (r2.vw s2) h3, G2, st2, _, _, er, s2, .cons r1' (.cons r2 .nil), h4, fun v r st3 G3 H3 p3 s3 r3 h5 => ?_, fun e c dx st3 G3 H3 p3 s3 ea h3 => tX e c dx st3 G3 H3 (p12.trans p3) s3 ea h3⟩
  cases r with
  | d x => exact tE v x st3 G3 H3 (p12.trans p3) s3 r3 h5
  | own l =>
    obtain ⟨G4, s4, p4, r4⟩ := own_frz s3 p3 r3
    exact tE v _ st3 G4 H3 (p12.trans p4) s4 r4 h5
  | ownD l =>
    obtain ⟨G4, s4, p4, r4⟩ := ownd_frz s3 p3 r3
    exact tE v _ st3 G4 H3 (p12.trans p4) s4 r4 h5
theorem refE_own1 (ha : RefE K W ta aa) : RefE K W (tOwn1 (He.ga K c) (SpA K mf) (fun σ c d H => W c d σ H) ta) (aOwn1 c mf aa) := fun G env st σ H Q q er s l h tE tX => by
  refine ha G env st σ H _ _ er s l h (fun v d st1 G1 H1 p1 s1 r1 h1 => ?_) tX
  obtain ⟨h2, h4⟩ := h1
  obtain ⟨a, dx, fs, rfl, hp⟩ := isCls_at (r1.vw s1) h2
  refine ⟨a, dx, fs, rfl, hp, G1, st1, _, _, er, s1, .cons r1 .nil, h4, fun v r st3 G3 H3 p3 s3 r3 h5 => ?_, fun e c dx st3 G3 H3 p3 s3 ea h3 => tX e c dx st3 G3 H3 (p1.trans p3) s3 ea h3⟩
  cases r with
  | d x => exact tE v x st3 G3 H3 (p1.trans p3) s3 r3 h5
  | own l =>
    obtain ⟨G4, s4, p4, r4⟩ := own_frz s3 p3 r3
    exact tE v _ st3 G4 H3 (p1.trans p4) s4 r4 h5
  | ownD l =>
    obtain ⟨G4, s4, p4, r4⟩ := ownd_frz s3 p3 r3
    exact tE v _ st3 G4 H3 (p1.trans p4) s4 r4 h5
theorem refE_ownIn {neg : Bool} (ha : RefE K W ta aa) (hb : RefE K W tb ab) : RefE K W (tOwnIn (He.ga K c) neg (SpA K mf) (fun σ c d H => W c d σ H) ta tb) (aOwnIn c neg mf aa ab) := fun G env st σ H Q q er s l h tE tX => by
  refine ha G env st σ H _ _ er s l h (fun v d st1 G1 H1 p1 s1 r1 h1 => ?_) tX
  refine hb G1 env st1 σ H1 _ _ er s1 (l.mono p1.le) h1 (fun u d2 st2 G2 H2 p2 s2 r2 h2 => ?_) (tX.on p1)
  obtain ⟨h2, h4⟩ := h2
  have r1' := r1.mono p2.le
  obtain ⟨a, dx, fs, rfl, hp⟩ := isCls_at (r2.vw s2) h2
  have p12 := p1.trans p2
  refine ⟨a, dx, fs, rfl, hp, G2, st2, _, _, er, s2, .cons r2 (.cons r1' .nil), h4, fun v r st3 G3 H3 p3 s3 r3 h5 => ?_, fun e c dx st3 G3 H3 p3 s3 ea h3 => tX e c dx st3 G3 H3 (p12.trans p3) s3 ea h3⟩
  obtain ⟨k, rfl, h5⟩ := h5
  cases r3
  exact ⟨k, rfl, tE _ _ st3 G3 H3 (p12.trans p3) s3 (.bl _) h5⟩
theorem pv_any {G : Gh} {H : Hp} {d : D} {v : V} (_ : Rv K G H d v) (_ : anyD d) : PAny v H := trivial
theorem pv_int {G : Gh} {H : Hp} {d : D} {v : V} (r : Rv K G H d v) (h : isInt d) : PInt v H := by
  cases r with
  | int i => exact ⟨i, rfl⟩
  | _ => exact h.elim
theorem pv_cls {G : Gh} {H : Hp} {d : D} {v : V} (r : Rv K G H d v) (h : isCls c d) : PIns (He.ga K c) v H := isCls_at r h
end
section
variable {X : Cx} {W : WX} {k j : Nat} {a b : Expr} {c : Str} {pos : Pos} {aa ab : AE} {mf : AF} {f : Addr} {fd : FuncData} {ps : List Str}
theorem ax_ownIx (C : CxE X W (k + 1)) (F : FnOk X.prog X.w X.K X.mg X.base (L2N.CX X.prog X.w) j f fd ps (SpA X.K mf)) (hb : BindsD X.K fd ps []) (hs : PySem.W.findIn X.K (.ref (He.ga X.K c)) "__getitem__" = some (some (.ref f))) (hf : PySem.W.fnIn X.K f = true) (hfn : PySem.W.isFn X.K (.ref f) = true) (ha : AX X W a aa) (hi : AX X W b ab) (hj : j ≤ k)
    (hsl : ∀ x i, subscripted b true x i = runValue (.builtin "lifetime.subscript" ⟨[x, i], []⟩) := by intro _ _; with_unfolding_all rfl) : AX X W (.Subscript a b pos) (aOwn2 c mf anyD aa ab) := by
  obtain ⟨ta, pa, ra⟩ := ha
  obtain ⟨tb, pb, rb⟩ := hi
  obtain ⟨ds, hv, hb⟩ := hb
  cases hv
  exact ⟨_, pe_subO (E := fun σ c d H => W c d σ H) F (C.room.mono (by omega)) hs hf hfn hb (fun σ => L2N.passAt C.takes σ) pa pb hsl, refE_own2 pv_any ra rb⟩
theorem ax_ownAdd {op : Operator} (C : CxE X W k) (F : FnOk X.prog X.w X.K X.mg X.base (L2N.CX X.prog X.w) j f fd ps (SpA X.K mf)) (hb : BindsD X.K fd ps []) (hc : PySem.W.selfFirst X.K (He.ga X.K c) = true) (hs : PySem.W.findIn X.K (.ref (He.ga X.K c)) (PySem.dunder op.info.2) = some (some (.ref f))) (hfn : PySem.W.isFn X.K (.ref f) = true) (ha : AX X W a aa) (hi : AX X W b ab) (hj : j ≤ k) :
    AX X W (.BinOp a op b pos) (aOwn2 c mf (isCls c) aa ab) := by
  obtain ⟨ta, pa, ra⟩ := ha
  obtain ⟨tb, pb, rb⟩ := hi
  obtain ⟨ds, hv, hb⟩ := hb
  cases hv
  exact ⟨_, pe_addO (E := fun σ c d H => W c d σ H) F (C.room.mono hj) hc hs hfn hb (fun σ => L2N.passAt C.takes σ) pa pb, refE_own2 pv_cls ra rb⟩
theorem ax_ownMul {op : Operator} {fo ro : Option Value} (C : CxE X W k) (F : FnOk X.prog X.w X.K X.mg X.base (L2N.CX X.prog X.w) j f fd ps (SpA X.K mf)) (hb : BindsD X.K fd ps []) (hc : PySem.W.selfFirst X.K (He.ga X.K c) = true) (hs : PySem.W.findIn X.K (.ref (He.ga X.K c)) (PySem.dunder op.info.2) = some (some (.ref f))) (hfn : PySem.W.isFn X.K (.ref f) = true) (hrr : PySem.W.findIn X.K (.ref (He.ga X.K c)) (dunderR op.info.2) = some none)
    (h1 : PySem.W.findIn X.K (.type "int") (PySem.dunder op.info.2) = some fo) (h2 : PySem.W.findIn X.K (.type "int") (dunderR op.info.2) = some ro) (hsub : PySem.W.subIn X.K (.type "int") (.ref (He.ga X.K c)) = some false) (ha : AX X W a aa) (hi : AX X W b ab) (hj : j ≤ k) :
    AX X W (.BinOp a op b pos) (aOwn2 c mf isInt aa ab) := by
  obtain ⟨ta, pa, ra⟩ := ha
  obtain ⟨tb, pb, rb⟩ := hi
  obtain ⟨ds, hv, hb⟩ := hb
  cases hv
  exact ⟨_, pe_mulO (E := fun σ c d H => W c d σ H) F (C.room.mono hj) hc hs hfn hrr (.inl rfl) h1 h2 hsub hb (fun σ => L2N.passAt C.takes σ) pa pb, refE_own2 pv_int ra rb⟩
theorem ax_ownNeg (C : CxE X W k) (F : FnOk X.prog X.w X.K X.mg X.base (L2N.CX X.prog X.w) j f fd ps (SpA X.K mf)) (hb : BindsD X.K fd ps []) (hs : PySem.W.findIn X.K (.ref (He.ga X.K c)) "__neg__" = some (some (.ref f))) (hfn : PySem.W.isFn X.K (.ref f) = true) (ha : AX X W a aa) (hj : j ≤ k) :
    AX X W (.UnaryOp .USub a pos) (aOwn1 c mf aa) := by
  obtain ⟨ta, pa, ra⟩ := ha
  obtain ⟨ds, hv, hb⟩ := hb
  cases hv
  exact ⟨_, pe_negO (E := fun σ c d H => W c d σ H) F (C.room.mono hj) hs hfn hb (fun σ => L2N.passAt C.takes σ) pa, refE_own1 ra⟩
theorem ax_ownEq (C : CxE X W k) (F : FnOk X.prog X.w X.K X.mg X.base (L2N.CX X.prog X.w) j f fd ps (SpA X.K mf)) (hb : BindsD X.K fd ps []) (hn : PySem.W.notFirst X.K (He.ga X.K c) (.ref (He.ga X.K c)) = true) (hs : PySem.W.findIn X.K (.ref (He.ga X.K c)) "__eq__" = some (some (.ref f))) (hfn : PySem.W.isFn X.K (.ref f) = true) (ha : AX X W a aa) (hi : AX X W b ab) (hj : j ≤ k) (hm : behindInMarks .Eq b = false := by first | exact nobehind _ (by decide) (by decide) | rfl) :
    AX X W (.Compare a [.Eq] [b] pos) (aOwn2 c mf (isCls c) aa ab) := by
  obtain ⟨ta, pa, ra⟩ := ha
  obtain ⟨tb, pb, rb⟩ := hi
  obtain ⟨ds, hv, hb⟩ := hb
  cases hv
  exact ⟨_, pe_cmp (pe_eqO (E := fun σ c d H => W c d σ H) F (C.room.mono hj) hn hs hfn hb (fun σ => L2N.passAt C.takes σ) pa pb) hm, refE_own2 pv_cls ra rb⟩
theorem axt_ownEq (C : CxE X W k) (F : FnOk X.prog X.w X.K X.mg X.base (L2N.CX X.prog X.w) j f fd ps (SpA X.K mf)) (hb : BindsD X.K fd ps []) (hn : PySem.W.notFirst X.K (He.ga X.K c) (.ref (He.ga X.K c)) = true) (hs : PySem.W.findIn X.K (.ref (He.ga X.K c)) "__eq__" = some (some (.ref f))) (hfn : PySem.W.isFn X.K (.ref f) = true) (ha : AX X W a aa) (hi : AX X W b ab) (hj : j ≤ k) (hm : behindInMarks .Eq b = false := by first | exact nobehind _ (by decide) (by decide) | rfl) :
    AXT X W (.Compare a [.Eq] [b] pos) (aTest (aOwn2 c mf (isCls c) aa ab)) := by
  obtain ⟨ta, pa, ra⟩ := ha
  obtain ⟨tb, pb, rb⟩ := hi
  obtain ⟨ds, hv, hb⟩ := hb
  cases hv
  exact ⟨_, pt_cmp (pe_eqO (E := fun σ c d H => W c d σ H) F (C.room.mono hj) hn hs hfn hb (fun σ => L2N.passAt C.takes σ) pa pb) hm, refT_test (refE_own2 pv_cls ra rb)⟩
theorem ax_ownIn (C : CxE X W k) (F : FnOk X.prog X.w X.K X.mg X.base (L2N.CX X.prog X.w) j f fd ps (SpA X.K mf)) (hb : BindsD X.K fd ps []) (hs : PySem.W.findIn X.K (.ref (He.ga X.K c)) "__contains__" = some (some (.ref f))) (hfn : PySem.W.isFn X.K (.ref f) = true) (ha : AX X W a aa) (hi : AX X W b ab) (hj : j ≤ k) (hm : behindInMarks .In b = false := by rfl) :
    AX X W (.Compare a [.In] [b] pos) (aOwnIn c false mf aa ab) ∧ AXT X W (.Compare a [.In] [b] pos) (aTest (aOwnIn c false mf aa ab)) := by
  obtain ⟨ta, pa, ra⟩ := ha
  obtain ⟨tb, pb, rb⟩ := hi
  obtain ⟨ds, hv, hb⟩ := hb
  cases hv
  have p := pc_inO (neg := false) (E := fun σ c d H => W c d σ H) F (C.room.mono hj) hs hfn hb (fun σ => L2N.passAt C.takes σ) pa pb
  exact ⟨⟨_, pe_cmp p hm, refE_ownIn ra rb⟩, _, pt_cmp p hm, refT_test (refE_ownIn ra rb)⟩
theorem ax_ownNotIn (C : CxE X W k) (F : FnOk X.prog X.w X.K X.mg X.base (L2N.CX X.prog X.w) j f fd ps (SpA X.K mf)) (hb : BindsD X.K fd ps []) (hs : PySem.W.findIn X.K (.ref (He.ga X.K c)) "__contains__" = some (some (.ref f))) (hfn : PySem.W.isFn X.K (.ref f) = true) (ha : AX X W a aa) (hi : AX X W b ab) (hj : j ≤ k) (hm : behindInMarks .NotIn b = false := by rfl) :
    AX X W (.Compare a [.NotIn] [b] pos) (aOwnIn c true mf aa ab) ∧ AXT X W (.Compare a [.NotIn] [b] pos) (aTest (aOwnIn c true mf aa ab)) := by
  obtain ⟨ta, pa, ra⟩ := ha
  obtain ⟨tb, pb, rb⟩ := hi
  obtain ⟨ds, hv, hb⟩ := hb
  cases hv
  have p := pc_inO (neg := true) (E := fun σ c d H => W c d σ H) F (C.room.mono hj) hs hfn hb (fun σ => L2N.passAt C.takes σ) pa pb
  exact ⟨⟨_, pe_cmp p hm, refE_ownIn ra rb⟩, _, pt_cmp p hm, refT_test (refE_ownIn ra rb)⟩
end
end AM
set_option Elab.async false
set_option linter.all false
set_option maxRecDepth 100000
set_option maxHeartbeats 4000000
namespace AM
open PySem PySem.Spec PyProof.Rows L2 Evl
/-! ### isinstance(x, C), C an own class; its name as a value -/
def isiD (io : Str → Str → Option Bool) (it : String → Str → Option Bool) (c : Str) (d : D) : Option Bool := match d with
  | .obj c' _ => io c' c
  | _ => match tyD d with
    | some t => it t c
    | none => none
def bIsiO (io : Str → Str → Option Bool) (it : String → Str → Option Bool) : ON := fun xs q => match xs with
  | [x, .fn c] => ∃ b, isiD io it c x = some b ∧ q (.bl b)
  | _ => False
structure IsiC (K : PySem.W.Frag) (C : Addr) : Prop where
  cl : Cls K C
  ha : PySem.W.findIn K (.ref C) "__class__" = some (some (.builtin "object.__class__"))
  hn : PySem.W.specialIn K (.builtin "object.__class__") "__get__" = some (some (.builtin "getset_descriptor.__get__"))
  htk : PySem.W.takesIn K (.builtin "object.__class__") = some true
  hm : PySem.W.mroIn K C (.type "object") = some true
def isiB (K : PySem.W.Frag) (C : Addr) : Bool := He.eqO (PySem.W.findIn K (.ref C) "__class__") (some (some (.builtin "object.__class__"))) && (He.eqO (PySem.W.specialIn K (.builtin "object.__class__") "__get__") (some (some (.builtin "getset_descriptor.__get__"))) && (decide (PySem.W.takesIn K (.builtin "object.__class__") = some true) && decide (PySem.W.mroIn K C (.type "object") = some true)))
theorem isiB_ok {K : PySem.W.Frag} {C : Addr} (cl : Cls K C) (h : isiB K C = true) : IsiC K C := by
  unfold isiB at h
  simp only [Bool.and_eq_true] at h
  exact ⟨cl, He.eqO_ok h.1, He.eqO_ok h.2.1, of_decide_eq_true h.2.2.1, of_decide_eq_true h.2.2.2⟩
theorem kit_self {K : PySem.W.Frag} {t : Value} : PySem.W.kitOne K t t = some true := by
  unfold PySem.W.kitOne
  rw [if_pos (by simp)]
section
variable {X : Cx} {W : WX} {K : PySem.W.Frag}
theorem cb_isiO {io : Str → Str → Option Bool} {it : String → Str → Option Bool} (h1 : ∀ c' c b, io c' c = some b → IsiC X.K (He.ga X.K c') ∧ PySem.W.kitOne X.K (.ref (He.ga X.K c')) (.ref (He.ga X.K c)) = some b) (h2 : ∀ t c b, it t c = some b → PySem.W.kitOne X.K (.type t) (.ref (He.ga X.K c)) = some b) : CB X (.builtin "isinstance") (bIsiO io it) := ⟨_, call_isi, fun G st H xs ds Q q s r h t => by
  unfold bIsiO at h
  split at h
  · rename_i x c
    obtain ⟨b, hb, h⟩ := h
    cases r with
    | cons r1 r2 =>
      cases r2 with
      | cons r2 r3 =>
        cases r2; cases r3
        cases x with
        | obj c' fs =>
          cases r1 with
          | obj hp rf =>
            obtain ⟨i, k⟩ := h1 c' c b hb
            exact ⟨_, _, _, _, b, rfl, .own _, .base (.ins hp i.cl i.ha i.hn i.htk i.hm), k, t.here s (.bl _) h⟩
        | _ =>
          unfold isiD at hb
          simp only at hb
          split at hb
          · rename_i ty hty
            exact ⟨_, _, _, _, b, rfl, .own _, ty_ok r1 hty, h2 ty c b hb, t.here s (.bl _) h⟩
          · cases hb
  · exact h.elim⟩
theorem ax_gFn {x : Str} {pos : Pos} (hm : X.mg x = some (.ref (He.ga X.K x))) (hg : Gl X x := by rfl) (hd : (x == ("__debug__" : Str)) = false := by decide) : AX X W (.Name x pos) (aC (.fn x)) := ⟨_, pe_glob (v := .ref (He.ga X.K x)) hg hm rfl hd, refE_c fun _ => .fn x⟩
end
end AM
set_option Elab.async false
set_option linter.all false
set_option maxRecDepth 100000
set_option maxHeartbeats 4000000
namespace AM
open PySem PySem.Spec PyProof.Rows L2 Evl
/-! ### one form a theorem, so that what is expected is seen -/
section
variable {X : Cx} {W : WX} {k j : Nat} {o e a b : Expr} {es : List Expr} {m c x : Str} {p pos apos : Pos} {ao aa' ab : AE} {aa : AEs} {mf : AF} {fa : Addr} {fd : FuncData} {ps : List Str} {dd : List D} {dvs : List V}
theorem ax_methV {pl : Sem Bool} (C : CxE X W k) (ha : AX X W o ao) (hc : Cls X.K (He.ga X.K c)) (hm : Meth X.K (He.ga X.K c) m fa) (F : FnOk X.prog X.w X.K X.mg X.base (L2N.CX X.prog X.w) j fa fd ps (SpA X.K mf)) (hb : BindsD X.K fd ps dvs) (hdd : ∀ G, Reps X.K G dd dvs) (hr : AXA X W (e :: es) aa) (hj : j ≤ k)
    (hst : starEach (e :: es) X.env = (false, eval e X.env) :: starEach es X.env := by rfl) (hpl : (backTo pos (starEach es X.env)).any (·.1) = false := by rfl)
    (ht : eval (.Call (.Attribute o m apos) (e :: es) [] pos) X.env = (do
      let ov ← eval o X.env
      standAt apos.atName
      let (f, first) ← holding [ov] (getMethod ov m pl)
      callWith pos f first (backTo pos (starEach (e :: es) X.env)) (backToKw pos (keywordEach [] X.env))) := by rfl) :
    AX X W (.Call (.Attribute o m apos) (e :: es) [] pos) (aMeth c m mf ao aa dd) := (ax_meth (pl := pl) C ha hc hm F hb hdd hr hj hst hpl ht).1
theorem ax_methF {pl : Sem Bool} (C : CxE X W k) (ha : AX X W o ao) (hc : Cls X.K (He.ga X.K c)) (hm : Meth X.K (He.ga X.K c) m fa) (F : FnOk X.prog X.w X.K X.mg X.base (L2N.CX X.prog X.w) j fa fd ps (SpA X.K mf)) (hb : BindsD X.K fd ps dvs) (hdd : ∀ G, Reps X.K G dd dvs) (hr : AXA X W (e :: es) aa) (hj : j ≤ k)
    (hst : starEach (e :: es) X.env = (false, eval e X.env) :: starEach es X.env := by rfl) (hpl : (backTo pos (starEach es X.env)).any (·.1) = false := by rfl)
    (ht : eval (.Call (.Attribute o m apos) (e :: es) [] pos) X.env = (do
      let ov ← eval o X.env
      standAt apos.atName
      let (f, first) ← holding [ov] (getMethod ov m pl)
      callWith pos f first (backTo pos (starEach (e :: es) X.env)) (backToKw pos (keywordEach [] X.env))) := by rfl) :
    AXF X W (.Call (.Attribute o m apos) (e :: es) [] pos) (fMeth c m mf ao aa dd) := (ax_meth (pl := pl) C ha hc hm F hb hdd hr hj hst hpl ht).2
theorem ax_meth0V {pl : Sem Bool} (C : CxE X W k) (ha : AX X W o ao) (hc : Cls X.K (He.ga X.K c)) (hm : Meth X.K (He.ga X.K c) m fa) (F : FnOk X.prog X.w X.K X.mg X.base (L2N.CX X.prog X.w) j fa fd ps (SpA X.K mf)) (hb : BindsD X.K fd ps dvs) (hdd : ∀ G, Reps X.K G dd dvs) (hj : j ≤ k)
    (ht : eval (.Call (.Attribute o m apos) [] [] pos) X.env = (do
      let ov ← eval o X.env
      standAt apos.atName
      let (f, first) ← holding [ov] (getMethod ov m pl)
      callWith pos f first (backTo pos (starEach [] X.env)) (backToKw pos (keywordEach [] X.env))) := by rfl) :
    AX X W (.Call (.Attribute o m apos) [] [] pos) (aMeth c m mf ao aNil dd) := (ax_meth0 (pl := pl) C ha hc hm F hb hdd hj ht).1
theorem ax_meth0F {pl : Sem Bool} (C : CxE X W k) (ha : AX X W o ao) (hc : Cls X.K (He.ga X.K c)) (hm : Meth X.K (He.ga X.K c) m fa) (F : FnOk X.prog X.w X.K X.mg X.base (L2N.CX X.prog X.w) j fa fd ps (SpA X.K mf)) (hb : BindsD X.K fd ps dvs) (hdd : ∀ G, Reps X.K G dd dvs) (hj : j ≤ k)
    (ht : eval (.Call (.Attribute o m apos) [] [] pos) X.env = (do
      let ov ← eval o X.env
      standAt apos.atName
      let (f, first) ← holding [ov] (getMethod ov m pl)
      callWith pos f first (backTo pos (starEach [] X.env)) (backToKw pos (keywordEach [] X.env))) := by rfl) :
    AXF X W (.Call (.Attribute o m apos) [] [] pos) (fMeth c m mf ao aNil dd) := (ax_meth0 (pl := pl) C ha hc hm F hb hdd hj ht).2
theorem ax_newV (C : CxE X W (k + 1)) (M : Mk X.K (He.ga X.K x) fa) (F : FnOk X.prog X.w X.K X.mg X.base (L2N.CX X.prog X.w) j fa fd ps (SpA X.K mf)) (hm : X.mg x = some (.ref (He.ga X.K x))) (hb : BindsD X.K fd ps dvs) (hdd : ∀ G, Reps X.K G dd dvs) (hr : AXA X W (e :: es) aa) (hj : j ≤ k)
    (hg : Gl X x := by rfl) (hdb : (x == ("__debug__" : Str)) = false := by decide) (he : starEach (e :: es) X.env = (false, eval e X.env) :: starEach es X.env := by rfl) (hpl : (backTo pos (starEach es X.env)).any (·.1) = false := by rfl) :
    AX X W (.Call (.Name x p) (e :: es) [] pos) (aNew x mf aa dd) := (ax_new C M F hm hb hdd hr hj hg hdb he hpl).1
theorem ax_newC (C : CxE X W (k + 1)) (M : Mk X.K (He.ga X.K x) fa) (F : FnOk X.prog X.w X.K X.mg X.base (L2N.CX X.prog X.w) j fa fd ps (SpA X.K mf)) (hm : X.mg x = some (.ref (He.ga X.K x))) (hb : BindsD X.K fd ps dvs) (hdd : ∀ G, Reps X.K G dd dvs) (hr : AXA X W (e :: es) aa) (hj : j ≤ k)
    (hg : Gl X x := by rfl) (hdb : (x == ("__debug__" : Str)) = false := by decide) (he : starEach (e :: es) X.env = (false, eval e X.env) :: starEach es X.env := by rfl) (hpl : (backTo pos (starEach es X.env)).any (·.1) = false := by rfl) :
    AX X W (.Call (.Name x p) (e :: es) [] pos) (aNewM x mf aa dd) := (ax_new C M F hm hb hdd hr hj hg hdb he hpl).2
end
end AM
set_option Elab.async false
set_option linter.all false
set_option maxRecDepth 100000
set_option maxHeartbeats 4000000
namespace AM
open PySem PySem.Spec PyProof.Rows L2 Evl
/-! ### except clauses of both kinds, with a name and without one, one behind the other -/
abbrev Su := Addr → Value → Option Addr → TS
abbrev Cl := Value × Option Nat × Su
/-- a clause's ends: its name is gone behind it -/
def endsAt (D : Ends) : Option Nat → Ends
  | none => D
  | some i => { nx := fun t H' => D.nx (t.set i none) H', rt := D.rt, bk := fun t H' => D.bk (t.set i none) H', ct := fun t H' => D.ct (t.set i none) H' }
def putAt (t : L2.St) (a : Addr) : Option Nat → L2.St
  | none => t
  | some i => t.set i (some (.ref a))
def wMix (K : PySem.W.Frag) (Wo : WX) (D : Ends) : List Cl → WX
  | [] => Wo
  | (c, o, ts) :: r => fun cls d t H => ∃ b, PySem.W.exmOne K cls c = some b ∧ (b = true → ∀ a, H a = none → ts a cls d (endsAt D o) (putAt t a o) H) ∧ (b = false → wMix K Wo D r cls d t H)
abbrev SuOk (X : Cx) (bs : List Stmt) (ts : Su) : Prop := ∀ (a : Addr) (o : Obj) (cls : Value) (d : Option Addr) (pn : List (Addr × Obj)), L2N.Zn cls d o → (∃ vs, o.data = .fields vs) → PSs (X.suite a ((a, o) :: pn)) bs (ts a cls d)
inductive MixOk (X : Cx) : List ExceptHandler → List Cl → Prop
  | nil : MixOk X [] []
  | bare {x : Str} {c : Value} {ts : Su} {b : Stmt} {bs : List Stmt} {p p2 : Pos} {hds : List ExceptHandler} {l : List Cl} : Names X x c → SuOk X (b :: bs) ts → MixOk X hds l → MixOk X (.ExceptHandler (some (.Name x p)) none (b :: bs) p2 :: hds) ((c, none, ts) :: l)
  | named {x n : Str} {i : Nat} {c : Value} {ts : Su} {b : Stmt} {bs : List Stmt} {p p2 : Pos} {hds : List ExceptHandler} {l : List Cl} : X.N[i]? = some n → X.env.kindOf n = some .local → Names X x c → SuOk X (b :: bs) ts → MixOk X hds l → MixOk X (.ExceptHandler (some (.Name x p)) (some n) (b :: bs) p2 :: hds) ((c, some i, ts) :: l)
section
variable {X : Cx} {body : List Stmt} {h0 : ExceptHandler} {hds : List ExceptHandler} {l : List Cl} {pos : Pos} {tb : WX → TS} {Wo : WX}
theorem sp_un {pins pins' : List (Addr × Obj)} {D : Ends} {Y : Cx} {s : Shared} {f : Flow} (k : ∀ {t : L2.St} {H : Hp}, Inv Y pins' t H s → Inv X pins t H s) (h : SP Y pins' D f s) : SP X pins D f s := by
  cases f with
  | next => exact ⟨h.choose, h.choose_spec.choose, k h.choose_spec.choose_spec.1, h.choose_spec.choose_spec.2⟩
  | brk => exact ⟨h.choose, h.choose_spec.choose, k h.choose_spec.choose_spec.1, h.choose_spec.choose_spec.2⟩
  | cont => exact ⟨h.choose, h.choose_spec.choose, k h.choose_spec.choose_spec.1, h.choose_spec.choose_spec.2⟩
  | ret u =>
    obtain ⟨v, t, H, J, r, q⟩ := h
    exact ⟨v, t, H, k J, r, q⟩
theorem ps_mix (hs : X.stack = X.env :: X.outer) (hf : X.env.frame = some X.env.locals) (hN : X.N.Nodup) (tk : L2N.Takes X Wo)
    (hb : ∀ (W : WX) (pn : List (Addr × Obj)) (xe : Value → Shared → Prop), L2N.Takes (X.tr pn xe) W → PassesOwn (model X.prog X.w) X.A X.env xe → PSs (X.tr pn xe) body (tb W))
    (hh : MixOk X (h0 :: hds) l) : PS X (.Try body (h0 :: hds) [] [] pos) (fun D t H => tb (wMix X.K Wo D l) D t H) := by
  refine ⟨fun pins s t H D I h => wpAny_Try_except ?_⟩
  have ok := I.ok
  refine wpAny_mono ((hb (wMix X.K Wo D l) (X.pn ++ pins) _ (fun _ s2 xx => ?_) PassesOwn.looking).run [] s t H D (I.toTry _) h) (fun f s1 hsp => ?_) (fun _ _ he => he)
  · obtain ⟨a, B, sI, pins', t1, H1, cls, d, rfl, J', nb, up, sky, na, os, ag, w⟩ := xx
    have J : Inv X pins t1 H1 sI := J'.ofTry ok
    rw [hs] at sky
    refine L2N.Sky.land L2N.Zn.steady (by rw [ok.frames, hs]) hf sky fun h3 fl up3 => ?_
    have J3 : Inv X pins t1 H1 { s2 with heap := h3 } := J.landed nb fl.1 (up.trans up3) os ag
    obtain ⟨o3, vs3, e3, z3, d3⟩ := fl.there
    have away : a ∉ frs (X.env :: X.outer) := fun hm => by
      obtain ⟨_, o', e', nf⟩ := fl.2.2.1.mem hm
      rw [e3] at e'
      cases e'
      exact nf _ d3
    have nl : a ≠ X.env.locals := fun z => away (List.mem_filterMap.mpr ⟨_, List.mem_cons_self, by rw [hf, z]⟩)
    have nf : a ∉ X.fs := fun hm => by
      obtain ⟨e, me, q⟩ := List.mem_filterMap.mp hm
      exact away (List.mem_filterMap.mpr ⟨e, List.mem_cons_of_mem _ me, q⟩)
    have S3 := J3.suite e3 d3 na nl nf
    have T3 : PySem.W.Looks (model X.prog X.w) h3 (typeOf (.ref a)) cls := fun A Q E u k q => wpAny_typeOf_ref (k _ _ e3) (by rw [z3.1]; exact q)
    have nm : ∀ {x : Str} {c : Value} {p : Pos}, Names X x c → ∀ {Q E : Value → Shared → Prop}, Q c { s2 with heap := h3 } → wpAny (model X.prog X.w) (X.A.mark (some (.ref a))) (eval (.Name x p) X.env) Q E { s2 with heap := h3 } := fun hc Q E q => by
      obtain ⟨g, nd, m | ⟨m, v, nn⟩⟩ := hc
      · exact ld_glob (X := X.suite a ((a, o3) :: (X.pn ++ pins))) S3 g m q nd
      · exact ld_blt (X := X.suite a ((a, o3) :: (X.pn ++ pins))) S3 g m v q nn nd
    suffices go : ∀ {hs' : List ExceptHandler} {l' : List Cl}, MixOk X hs' l' → wMix X.K Wo D l' cls d t1 H1 → wpAny (model X.prog X.w) X.A (handleBy (.ref a) X.env hs') (SP X pins D) X.xe { s2 with heap := h3 } from go hh w
    intro hs' l' hk
    induction hk with
    | nil =>
      intro w
      refine wpAny_handleBy_nil ?_
      obtain ⟨_, _, _, oe, vs, T, _, _, he, _, hd, h1, _⟩ := id fl
      unfold PySem.passOn
      refine wpAny_bind (wpAny_field he hd h1 ?_)
      rw [if_neg (by simp)]
      have on : wpAny (model X.prog X.w) X.A (setFlight (.ref a) X.env.frame) (fun _ u => wpAny (model X.prog X.w) X.A (throw (.ref a) : Sem Flow) (SP X pins D) X.xe u) X.xe { s2 with heap := h3 } := by
        rw [hf]
        exact HandSPX.setFlight_upZ fl fun h4 k4 up4 => wpAny_throw (tk _ _ ⟨a, B, sI, pins, t1, H1, cls, d, rfl, J, nb, (up.trans up3).trans up4, .inr (.inr (by rw [hs]; exact k4)), na, os, ag, w⟩)
      first
        | exact wpAny_bind (wpAny_pure (wpAny_bind on))
        | exact wpAny_bind on
    | bare hc hsu _ ih =>
      rintro ⟨b, hb1, yes, no⟩
      refine wpAny_handleBy_cons (codeAny_handlers_test (nm hc ((PySem.W.exm_one (M := model X.prog X.w) J3.kIn T3 hb1).here ?_))) (by intro q; cases q)
      cases b with
      | false => exact ih (no rfl)
      | true =>
        refine codeAny_handlers_suite (HandSPX.lands_againZ fl fun h4 fl4 up4 => ?_)
        have J4 : Inv X pins t1 H1 { s2 with heap := h4 } := J.landed nb fl4.1 ((up.trans up3).trans up4) os ag
        obtain ⟨o4, vs4, e4, z4, d4⟩ := fl4.there
        exact wpAny_mono ((hsu a o4 cls d (X.pn ++ pins) z4 ⟨_, d4⟩).run [] _ _ H1 _ (J4.suite e4 d4 na nl nf) (yes rfl a na)) (fun f s6 q => sp_un (fun S6 => S6.unsuite ok) q) (fun _ _ z => False.elim z)
    | named hi hl hc hsu _ ih =>
      rintro ⟨b, hb1, yes, no⟩
      refine wpAny_handleBy_cons (codeAny_handlers_test (nm hc ((PySem.W.exm_one (M := model X.prog X.w) J3.kIn T3 hb1).here ?_))) (by intro q; cases q)
      cases b with
      | false => exact ih (no rfl)
      | true =>
        refine codeAny_handlers_suite_as (HandSPX.lands_againZ fl fun h4 fl4 up4 => ?_)
        have J4 : Inv X pins t1 H1 { s2 with heap := h4 } := J.landed nb fl4.1 ((up.trans up3).trans up4) os ag
        obtain ⟨o4, vs4, e4, z4, d4⟩ := fl4.there
        refine store_ok (X := X.suite a ((a, o4) :: (X.pn ++ pins))) (v := .ref a) (J4.suite e4 d4 na nl nf) hN hi (.inl hl) rfl (fun s5 S5 => ?_) (.inr hl)
        refine wpAny_mono ((hsu a o4 cls d (X.pn ++ pins) z4 ⟨_, d4⟩).run [] s5 _ H1 _ S5 (yes rfl a na)) (fun f s6 q => ?_) (fun _ _ z => False.elim z)
        cases f with
        | next => exact let ⟨_, _, S6, q6⟩ := q; gone_ok (S6.unsuite ok) hN hi hl fun s7 J7 => ⟨_, _, J7, q6⟩
        | brk => exact let ⟨_, _, S6, q6⟩ := q; gone_ok (S6.unsuite ok) hN hi hl fun s7 J7 => ⟨_, _, J7, q6⟩
        | cont => exact let ⟨_, _, S6, q6⟩ := q; gone_ok (S6.unsuite ok) hN hi hl fun s7 J7 => ⟨_, _, J7, q6⟩
        | ret u => exact let ⟨_, _, _, S6, r6, q6⟩ := q; gone_ok (S6.unsuite ok) hN hi hl fun s7 J7 => ⟨_, _, _, J7, r6, q6⟩
  · have r := sp_un (X := X) (pins := pins) (fun J' => J'.ofTry ok) hsp
    cases f with
    | next => exact wpAny_execs_nil r
    | _ => exact r
end
/-! ### the readings -/
abbrev AClause := (Str → Option Bool) × Option Nat × (Addr → Value → Option Addr → AS)
def kAt (k : AK) : Option Nat → AK
  | none => { k with er := fun _ _ _ => False }
  | some i => { nx := fun env' s => k.nx (env'.set i .no) s, rt := k.rt, bk := fun env' s => k.bk (env'.set i .no) s, ct := fun env' s => k.ct (env'.set i .no) s, er := fun _ _ _ => False }
def eAt (env : List A) (x : A) : Option Nat → List A
  | none => env
  | some i => env.set i x
def erMix : List AClause → AK → Er → List A → S → Prop
  | [], k, e, env, st => k.er e env st
  | (xm, o, su) :: r, k, e, env, st => ∃ b, xm e.cls = some b ∧ (b = true → ∀ a c dx, su a c dx (eAt env (.exc a c dx e) o) st (kAt k o)) ∧ (b = false → erMix r k e env st)
def sTryMix (b : AS) (cs : List AClause) : AS := fun env st k => b env st { k with er := erMix cs k }
section
variable {X : Cx} {W : WX} {k : Nat} {x n cn f : Str} {i : Nat} {body suite : List Stmt} {b0 : Stmt} {np pos pos' : Pos} {ab : AS} {xm : Str → Option Bool}
def AXHm (X : Cx) (hds : List ExceptHandler) (cs : List AClause) : Prop := ∃ l, MixOk X hds l ∧ ∀ (W : WX) (G : Gh) (H : Hp) (kk : AK) (D : Ends), ThenS X.K W G H kk D → ∀ e c dx env σ st, SS X.K G st H → Sl X.K G env σ → ErAt X.K G e c dx → erMix cs kk e env st → wMix X.K W D l c dx σ H
theorem axm_nil : AXHm X [] [] := ⟨[], .nil, fun W G H kk D t e c dx env σ st s l ea h => t.er e c dx env σ st G H Post.refl s l ea h⟩
theorem axm_bare {hds : List ExceptHandler} {cs : List AClause} {su : Addr → Value → Option Addr → AS} (hm : X.mg x = some (.ref (He.ga X.K x))) (hx : ∀ c b, xm c = some b → PySem.W.exmOne X.K (.ref (He.ga X.K c)) (.ref (He.ga X.K x)) = some b)
    (hs : ∀ (a : Addr) (oe : Obj) (cls : Value) (d : Option Addr) (pn : List (Addr × Obj)), L2N.Zn cls d oe → (∃ vs, oe.data = .fields vs) → AXB (X.suite a ((a, oe) :: pn)) W0 (b0 :: suite) (su a cls d)) (hr : AXHm X hds cs)
    (hg : Gl X x := by rfl) (hdb : (x == ("__debug__" : Str)) = false := by decide) : AXHm X (.ExceptHandler (some (.Name x np)) none (b0 :: suite) pos' :: hds) ((xm, none, su) :: cs) := by
  obtain ⟨l, hl, hh⟩ := hr
  refine ⟨_, .bare (ts := fun a cls d => rdS X.K W0 (su a cls d)) ⟨hg, hdb, .inl hm⟩ (fun a oe cls d pn hz hf => (hs a oe cls d pn hz hf).ps) hl, fun W G H kk D t e c dx env σ st s sl ea h => ?_⟩
  obtain ⟨b, hb1, h1, h2⟩ := h
  refine ⟨b, ?_, fun hbt a ha => ?_, fun hbf => hh W G H kk D t e c dx env σ st s sl ea (h2 hbf)⟩
  · obtain ⟨rfl, _⟩ := ea
    exact hx _ _ hb1
  · exact ⟨G, _, st, _, s, sl, h1 hbt a c dx, ⟨t.nx, t.rt, t.bk, t.ct, fun _ _ _ _ _ _ _ _ _ _ _ _ z => z.elim⟩⟩
theorem axm_named {hds : List ExceptHandler} {cs : List AClause} {su : Addr → Value → Option Addr → AS} (hm : X.mg x = some (.ref (He.ga X.K x))) (hx : ∀ c b, xm c = some b → PySem.W.exmOne X.K (.ref (He.ga X.K c)) (.ref (He.ga X.K x)) = some b)
    (hs : ∀ (a : Addr) (oe : Obj) (cls : Value) (d : Option Addr) (pn : List (Addr × Obj)), L2N.Zn cls d oe → (∃ vs, oe.data = .fields vs) → AXB (X.suite a ((a, oe) :: pn)) W0 (b0 :: suite) (su a cls d)) (hr : AXHm X hds cs)
    (hi : X.N[i]? = some n := by rfl) (hln : X.env.kindOf n = some .local := by rfl) (hg : Gl X x := by rfl) (hdb : (x == ("__debug__" : Str)) = false := by decide) : AXHm X (.ExceptHandler (some (.Name x np)) (some n) (b0 :: suite) pos' :: hds) ((xm, some i, su) :: cs) := by
  obtain ⟨l, hl, hh⟩ := hr
  refine ⟨_, .named (i := i) (ts := fun a cls d => rdS X.K W0 (su a cls d)) hi hln ⟨hg, hdb, .inl hm⟩ (fun a oe cls d pn hz hf => (hs a oe cls d pn hz hf).ps) hl, fun W G H kk D t e c dx env σ st s sl ea h => ?_⟩
  obtain ⟨b, hb1, h1, h2⟩ := h
  refine ⟨b, ?_, fun hbt a ha => ?_, fun hbf => hh W G H kk D t e c dx env σ st s sl ea (h2 hbf)⟩
  · obtain ⟨rfl, _⟩ := ea
    exact hx _ _ hb1
  · refine ⟨G, _, st, _, s, sl.put i (x := .exc a c dx e) (v := some (.ref a)) ⟨rfl, ea⟩, h1 hbt a c dx, ?_⟩
    exact ⟨fun env4 σ4 st4 G4 H4 p4 s4 l4 h4 => t.nx _ _ st4 G4 H4 p4 s4 (l4.drop i none) h4, t.rt,
      fun env4 σ4 st4 G4 H4 p4 s4 l4 h4 => t.bk _ _ st4 G4 H4 p4 s4 (l4.drop i none) h4, fun env4 σ4 st4 G4 H4 p4 s4 l4 h4 => t.ct _ _ st4 G4 H4 p4 s4 (l4.drop i none) h4, fun _ _ _ _ _ _ _ _ _ _ _ _ z => z.elim⟩
theorem axs_tryMix {h0 : ExceptHandler} {hds : List ExceptHandler} {cs : List AClause} (C : CxS X W k)
    (hb : ∀ (W' : WX) (pn : List (Addr × Obj)) (xe : Value → Shared → Prop), CxS (X.tr pn xe) W' k → AXB (X.tr pn xe) W' body ab) (hh : AXHm X (h0 :: hds) cs) :
    AXS X W (.Try body (h0 :: hds) [] [] pos) (sTryMix ab cs) := by
  obtain ⟨l, hl, hh⟩ := hh
  refine ⟨_, ps_mix (tb := fun W' => rdS X.K W' ab) C.stk C.frm C.nd C.takes (fun W' pn xe tk po => (hb W' pn xe (C.tr tk po)).ps) hl, fun G env st σ H D kk s sl h t => ?_⟩
  exact ⟨G, env, st, _, s, sl, h, ⟨t.nx, t.rt, t.bk, t.ct, fun e c dx env' σ' st2 G2 H2 p2 s2 l2 ea he => hh W G2 H2 kk D (t.on p2) e c dx env' σ' st2 s2 l2 ea he⟩⟩
end
/-! ### min and max of a list of ints -/
def bMin1 : ON := fun xs q => ∃ ns : List Int, xs = [.lst (ns.map D.int)] ∧ 0 < ns.length ∧ ∀ m, m ∈ ns → (∀ y, y ∈ ns → m ≤ y) → q (.int m)
def bMax1 : ON := fun xs q => ∃ ns : List Int, xs = [.lst (ns.map D.int)] ∧ 0 < ns.length ∧ ∀ m, m ∈ ns → (∀ y, y ∈ ns → y ≤ m) → q (.int m)
theorem cb_min1 {X : Cx} {W : WX} {k : Nat} (C : CxE X W k) : CB X (.builtin "min") bMin1 := ⟨_, cr_min C.calm, fun G st H xs ds Q q s r ⟨bs, eb, hp, h⟩ t => by
  subst eb
  cases r with
  | cons r1 r2 =>
    cases r2
    cases r1 with
    | lst h1 r1 =>
      have := ints_ok r1
      subst this
      exact ⟨_, bs, rfl, SqL.of h1, hp, fun m hm hy => t.here s (.int _) (h m hm hy)⟩⟩
theorem cb_max1 {X : Cx} {W : WX} {k : Nat} (C : CxE X W k) : CB X (.builtin "max") bMax1 := ⟨_, cr_max C.calm, fun G st H xs ds Q q s r ⟨bs, eb, hp, h⟩ t => by
  subst eb
  cases r with
  | cons r1 r2 =>
    cases r2
    cases r1 with
    | lst h1 r1 =>
      have := ints_ok r1
      subst this
      exact ⟨_, bs, rfl, SqL.of h1, hp, fun m hm hy => t.here s (.int _) (h m hm hy)⟩⟩
end AM
set_option Elab.async false
set_option linter.all false
set_option maxRecDepth 100000
set_option maxHeartbeats 4000000
namespace AM
open PySem PySem.Spec PyProof.Rows L2 Evl
/-! ### dict(zip(xs, ys)), xs tuples that differ -/
theorem storedAll_nodup {K : Type} [DecidableEq K] : ∀ (ps acc : List (K × Addr × Value)), ((acc ++ ps).map (·.1)).Nodup → storedAllH acc ps = acc ++ ps
  | [], acc, _ => by simp [storedAllH]
  | p :: ps, acc, h => by
    have hn : atKey acc p.1 = none := atKey_none_of_get fun j q e => by
      have hm : p.1 ∈ acc.map (·.1) := List.mem_map.mpr ⟨_, List.mem_of_getElem? e, rfl⟩
      rw [List.map_append, List.nodup_append] at h
      exact h.2.2 _ hm p.1 (by simp) rfl
    have e : storedAllH acc (p :: ps) = storedAllH (acc ++ [p]) ps := by
      show ps.foldl _ (storedH acc p.1 p.2.1 p.2.2) = ps.foldl _ (acc ++ [p])
      rw [storedH_new hn]
    rw [e, storedAll_nodup ps (acc ++ [p]) (by simpa using h)]
    simp
/-- the keys: tuples that lie there -/
def KeysAt (H : Hp) : List V → List (List Key) → Prop
  | [], [] => True
  | x :: xs, k :: ks => (∃ b, x = .ref b ∧ H b = some (.tup (k.map kV))) ∧ KeysAt H xs ks
  | _, _ => False
theorem KeysAt.length {H : Hp} : ∀ {xs : List V} {ks : List (List Key)}, KeysAt H xs ks → xs.length = ks.length
  | [], [], _ => rfl
  | _ :: _, _ :: _, h => congrArg Nat.succ (KeysAt.length h.2)
def tDictZip (K : PySem.W.Frag) (ta : TA) : TE := fun σ H Q => ta σ H fun vs H1 => ∃ (a b : Addr) (xs ys : List V) (ks : List (List Key)), vs = [.ref a, .ref b] ∧ SqL K H1 a xs ∧ SqL K H1 b ys ∧ xs.length = ys.length ∧ KeysAt H1 xs ks ∧ ks.Nodup ∧ ∀ p, H1 p = none → Q (.ref p) (upd H1 p (.dT (ks.zip ys)))
theorem keys_addrs {H : Hp} : ∀ {xs : List V} {ks : List (List Key)} {its : List Value}, KeysAt H xs ks → Vals xs its → ∃ bs : List Addr, its = bs.map Value.ref ∧ bs.length = ks.length ∧ ∀ (i : Nat) (k : List Key) (b : Addr), ks[i]? = some k → bs[i]? = some b → H b = some (.tup (k.map kV))
  | [], [], _, _, .nil => ⟨[], rfl, rfl, fun i k b h => by simp at h⟩
  | x :: xs, k :: ks, _, h, .cons r rs => by
    obtain ⟨⟨b, rfl, hb⟩, h2⟩ := h
    obtain ⟨bs, rfl, hl, hp⟩ := keys_addrs h2 rs
    cases r
    refine ⟨b :: bs, rfl, by simp [hl], fun i k' b' e1 e2 => ?_⟩
    cases i with
    | zero => simp at e1 e2; subst e1 e2; exact hb
    | succ i => exact hp i k' b' (by simpa using e1) (by simpa using e2)
theorem paired_zip {H : Hp} : ∀ {ks : List (List Key)} {bs : List Addr} {ys : List V} {us : List Value}, Vals ys us → bs.length = ks.length → ys.length = ks.length → (∀ (i : Nat) (k : List Key) (b : Addr), ks[i]? = some k → bs[i]? = some b → H b = some (.tup (k.map kV))) →
    Paired (fun (p : List Key × V) (q : List Key × Addr × Value) => p.1 = q.1 ∧ H q.2.1 = some (.tup (p.1.map kV)) ∧ RelV p.2 q.2.2) (ks.zip ys) (ks.zip (bs.zip us))
  | [], _, _, _, _, _, _, _ => by simp only [List.zip_nil_left]; exact .nil
  | k :: ks, b :: bs, _, _, .cons r rs, h1, h2, h => .cons ⟨rfl, h 0 k b rfl rfl, r⟩ (paired_zip rs (by simpa using h1) (by simpa using h2) fun i k' b' e1 e2 => h (i + 1) k' b' (by simpa using e1) (by simpa using e2))
  | _ :: _, [], _, _, _, h1, _, _ => by simp at h1
  | _ :: _, _ :: _, [], _, .nil, _, h2, _ => by simp at h2
theorem zip_apart {N a b : Nat} (la : a < N) (lb : b < N) : ZipApart (N + 4) (N + 2) (N + 3) N (N + 1) a b := by
  constructor <;> (show (_ : Nat) ≠ _; omega)
section
variable {X : Cx}
theorem pe_dictZip {e e2 : Expr} {ta : TA} {p p2 pos pos2 : Pos} (hc : X.calm = true) (hu : X.A.units + 4 < cLine) (hg : Gl X "dict") (hm : X.mg "dict" = none) (hgz : Gl X "zip") (hmz : X.mg "zip" = none) (ha : PA X [e, e2] ta)
    (hs : starEach [e, e2] X.env = (false, eval e X.env) :: starEach [e2] X.env := by rfl) (hpl : (backTo pos2 (starEach [e2] X.env)).any (·.1) = false := by rfl)
    (hs0 : starEach [.Call (.Name "zip" p2) [e, e2] [] pos2] X.env = (false, eval (.Call (.Name "zip" p2) [e, e2] [] pos2) X.env) :: starEach [] X.env := by rfl) (hpl0 : (backTo pos (starEach [] X.env)).any (·.1) = false := by rfl) :
    PE X (.Call (.Name "dict" p) [.Call (.Name "zip" p2) [e, e2] [] pos2] [] pos) (tDictZip X.K ta) := by
  refine ⟨fun pins s σ H Q I h => ?_⟩
  refine Call_ (ld_blt I hg hm PyProof.Rows.boot_dict (PyProof.Rows.callWith_type1 ?_ hs0 hpl0))
  rw [hs0]
  show wpAny _ _ (spliced ((false, eval (.Call (.Name "zip" p2) [e, e2] [] pos2) X.env) :: backTo pos (starEach [] X.env))) _ _ s
  refine Calls.spliced_cons ?_
  refine Call_ (ld_blt I hgz hmz PyProof.Rows.boot_zip (PyProof.Rows.callWith_type1 (thn (ha.run pos2 pins s σ H _ I h) fun us s1 ⟨vs, H1, I1, r1, q1⟩ => ?_) hs hpl))
  obtain ⟨a, b, xs, ys, ks, ex, hqx, hqy, hlen, hk, hnd, q⟩ := q1
  subst ex
  cases r1 with
  | cons r rr =>
    cases rr with
    | cons r' rr =>
      cases rr
      cases r
      cases r'
      obtain ⟨its, rv, p1, hz1, la⟩ := inv_sq (t := false) I1 hqx
      obtain ⟨its2, rv2, p2', hz2, lb⟩ := inv_sq (t := false) I1 hqy
      refine zip_begins2 (begins_sq (t := false) a its.toArray) (begins_sq (t := false) b its2.toArray) p1 p2' fun h' hz hTI hTO h1 h2 hsz hkp => ?_
      refine Calls.spliced_nil ?_
      have D : ZipApart (s1.heap.objs.size + 4) (s1.heap.objs.size + 2) (s1.heap.objs.size + 3) s1.heap.objs.size (s1.heap.objs.size + 1) a b := zip_apart la lb
      obtain ⟨bs, rfl, hbl, hbk⟩ := keys_addrs hk rv
      have hxl : xs.length = bs.length := by rw [rv.length]; simp
      have hyl : ys.length = its2.length := rv2.length
      have hkl : xs.length = ks.length := hk.length
      generalize hps : (ks.zip (bs.zip its2) : List (List Key × Addr × Value)) = ps
      have psl : ps.length = xs.length := by rw [← hps]; simp; omega
      have psk : ps.map (·.1) = ks := by rw [← hps, List.map_fst_zip (by simp; omega)]
      have pget : ∀ (i : Nat) (k : List Key) (c : Addr) (v : Value), ps[i]? = some (k, c, v) ↔ (ks[i]? = some k ∧ bs[i]? = some c ∧ its2[i]? = some v) := by
        intro i k c v
        rw [← hps, List.getElem?_zip_eq_some]
        simp only [List.getElem?_zip_eq_some]
      have P := PairArg.zip (prog := X.prog) (w := X.w) _ _ _ _ _ a b D (bs.map Value.ref).toArray its2.toArray
      have old : ∀ c, c < s1.heap.objs.size → c ∉ [s1.heap.objs.size + 4, s1.heap.objs.size + 3, s1.heap.objs.size, s1.heap.objs.size + 1] := fun c hc hm => by
        have hm : (c : Nat) = s1.heap.objs.size + 4 ∨ (c : Nat) = s1.heap.objs.size + 3 ∨ (c : Nat) = s1.heap.objs.size ∨ (c : Nat) = s1.heap.objs.size + 1 := by simpa using hm
        have hc : (c : Nat) < s1.heap.objs.size := hc
        omega
      have is2 : ∀ {h2 : Heap}, (∀ c o, c < s1.heap.objs.size → s1.heap.get? c = some o → h2.get? c = some o) → ∀ x ∈ ps, (tupleKind (mixKind X.prog X.w)).is h2 x.1 x.2.1 := fun {h2} kk x hx => by
        obtain ⟨i, hi⟩ := List.mem_iff_getElem?.mp hx
        obtain ⟨e1, e2, _⟩ := (pget i x.1 x.2.1 x.2.2).mp hi
        obtain ⟨o, its, n, g1, g2⟩ := key_of (P := X.prog) (w := X.w) I1.hok (hbk i _ _ e1 e2)
        exact ⟨o, its, n, kk _ _ (Heap.lt_size g1) g1, g2⟩
      refine call_dict_pairsH (knd := tupleKind (mixKind X.prog X.w)) (ps := ps) P (I1.ok.hd hc) (show X.A.in1.in1.units < cLine by have : X.A.in1.in1.units = X.A.units + 2 := rfl; omega) ⟨hz, hTI, ⟨_, _, hTO⟩, ⟨_, h1, rfl, rfl⟩, ⟨_, h2, rfl, rfl⟩, ?_, ?_⟩ ⟨?_, fun i key v hrel => ?_⟩ (fun h3 hk3 x hx => ?_) ?_ fun h3 tk hd hk3 => ?_
      · obtain ⟨o, g1, g2⟩ := (show s1.heap.IsList a _ from p1)
        exact ⟨o, hkp _ _ g1, g2⟩
      · obtain ⟨o, g1, g2⟩ := (show s1.heap.IsList b _ from p2')
        exact ⟨o, hkp _ _ g1, g2⟩
      · simp; omega
      · obtain ⟨e1, e2⟩ := hrel
        have e1 : (bs.map Value.ref)[i]? = some key := by simpa using e1
        have e2 : its2[i]? = some v := by simpa using e2
        rw [List.getElem?_map] at e1
        cases hb : bs[i]? with
        | none => rw [hb] at e1; cases e1
        | some c =>
          rw [hb] at e1
          obtain rfl : Value.ref c = key := Option.some.inj e1
          have hik : i < ks.length := by have := (List.getElem?_eq_some_iff.mp hb).1; omega
          exact ⟨ks[i], c, (pget i _ _ _).mpr ⟨List.getElem?_eq_getElem hik, hb, e2⟩, rfl⟩
      · refine is2 (fun c o hc g => hk3 c o ?_ (old c hc) (hkp _ _ g)) x hx
        have hc : (c : Nat) < s1.heap.objs.size := hc
        show (c : Nat) ≠ h'.objs.size
        omega
      · show min (bs.map Value.ref).toArray.size its2.toArray.size ≤ sizeLine
        simp; omega
      · rw [storedAll_nodup ps [] (by simpa [psk] using hnd), List.nil_append] at hd
        have keep : ∀ c o, s1.heap.get? c = some o → h3.get? c = some o := fun c o g => hk3 c o (old c (Heap.lt_size g)) (hkp _ _ g)
        have hle : s1.heap.objs.size ≤ h'.objs.size := by rw [hsz]; exact Nat.le_add_right _ _
        have hH : H1 h'.objs.size = none := I1.hok.fresh hle
        obtain ⟨o, es, ep, g1, g2, g3, g4, _, g5⟩ := hd
        refine ⟨.ref h'.objs.size, _, I1.laid (t' := tk) (a := h'.objs.size) (o := .dT (ks.zip ys)) keep hle ?_, rfl, q _ hH⟩
        refine ⟨by simp; omega, ?_, ps, ?_, o, es, ep, g1, g2, g3, g4, g5⟩
        · exact beq_eq_false_iff_ne.mpr (Nat.ne_of_gt (Nat.lt_of_lt_of_le I1.big hle))
        · rw [← hps]
          refine paired_zip rv2 (by omega) (by omega) fun i k c e1 e2 => ?_
          have hb := hbk i k c e1 e2
          rw [upd_ne (fun z => by rw [z, hH] at hb; cases hb)]
          exact hb
end
theorem nodup_inv {α β : Type} {f : α → β} : ∀ {l : List α}, (l.map f).Nodup → l.Nodup
  | [], _ => by simp
  | x :: xs, h => by
    rw [List.map_cons, List.nodup_cons] at h
    exact List.nodup_cons.mpr ⟨fun hm => h.1 (List.mem_map_of_mem hm), nodup_inv h.2⟩
def kT (k : List Key) : D := .tup (k.map kD)
theorem keysAt_of {K : PySem.W.Frag} {G : Gh} {H : Hp} (ex : Ex G.g H) : ∀ {l : List D} {vs : List V}, Reps K G l vs → (∀ k ∈ l, isKeyT k) → ∃ ks : List (List Key), KeysAt H vs ks ∧ l = ks.map kT
  | _, _, .nil, _ => ⟨[], trivial, rfl⟩
  | d :: _, v :: _, .cons h r, hk => by
    obtain ⟨ks, h1, e1⟩ := keysAt_of ex r fun k hm => hk k (by simp [hm])
    obtain ⟨k, e2⟩ := hk d (by simp)
    subst e1 e2
    refine ⟨k :: ks, ?_, rfl⟩
    cases h with
    | tup hp rs =>
      rename_i p vs
      have := reps_kD rs
      subst this
      exact ⟨⟨p, rfl, ex _ _ hp⟩, h1⟩
theorem repT_zip {K : PySem.W.Frag} {G : Gh} : ∀ {ks : List (List Key)} {m : List D} {ys : List V}, Reps K G m ys → RepT K G ((ks.map kT).zip m) (ks.zip ys)
  | [], _, _, _ => by simp only [List.map_nil, List.zip_nil_left]; exact .nil
  | _ :: _, _, _, .nil => by simp only [List.zip_nil_right]; exact .nil
  | k :: ks, _, _, .cons h r => .cons h (repT_zip r)
section
variable {X : Cx} {W : WX} {k : Nat} {e e2 : Expr} {ae ab : AE} {p p2 pos pos2 : Pos}
def fDZip (a b : AE) : AFd := fun env st q er => a env st (fun x s1 => b env s1 (fun y s2 => ∃ l m, vw s2 x = .lst l ∧ vw s2 y = .lst m ∧ l.length = m.length ∧ (∀ k ∈ l, isKeyT k) ∧ l.Nodup ∧ q (l.zip m) s2) er) er
theorem axd_zip (C : CxE X W k) (hm : X.mg "dict" = none) (hmz : X.mg "zip" = none) (h : AX X W e ae) (h' : AX X W e2 ab) (hg : Gl X "dict" := by rfl) (hgz : Gl X "zip" := by rfl)
    (hs : starEach [e, e2] X.env = (false, eval e X.env) :: starEach [e2] X.env := by rfl) (hs2 : starEach [e2] X.env = [(false, eval e2 X.env)] := by rfl) (hpl : (backTo pos2 (starEach [e2] X.env)).any (·.1) = false := by rfl)
    (hs0 : starEach [.Call (.Name "zip" p2) [e, e2] [] pos2] X.env = (false, eval (.Call (.Name "zip" p2) [e, e2] [] pos2) X.env) :: starEach [] X.env := by rfl) (hpl0 : (backTo pos (starEach [] X.env)).any (·.1) = false := by rfl) :
    AXD X W (.Call (.Name "dict" p) [.Call (.Name "zip" p2) [e, e2] [] pos2] [] pos) (fDZip ae ab) := by
  obtain ⟨t, pe, r⟩ := h
  obtain ⟨t', pe', r'⟩ := h'
  refine ⟨_, pe_dictZip C.calm (by have := u64 C.room; omega) hg hm hgz hmz (pa_cons pe (pa_cons pe' pa_nil (by rw [hs2]; rfl)) (by rw [hs])) hs hpl hs0 hpl0, fun G env st σ H Q q er s sl a tE tX => ?_⟩
  refine r G env st σ H _ _ er s sl a (fun v d st2 G2 H2 p2 s2 r2 h2 => r' G2 env st2 σ H2 _ _ er s2 (sl.mono p2.le) h2 (fun v' d' st3 G3 H3 p3 s3 r3 h3 => ?_) (tX.on p2)) tX
  obtain ⟨l, m, hl, hm', hlen, hk, hnd, h3⟩ := h3
  have rx := (r2.mono p3.le).vw s3
  have ry := r3.vw s3
  rw [hl] at rx
  rw [hm'] at ry
  cases rx with
  | lst ha rs =>
    cases ry with
    | lst hb rs' =>
      obtain ⟨ks, hks, rfl⟩ := keysAt_of s3.ex rs hk
      refine ⟨_, _, _, _, ks, rfl, SqL.of ha, SqL.of hb, by rw [← rs.length, ← rs'.length]; exact hlen, hks, nodup_inv hnd, fun a hp => ?_⟩
      obtain ⟨s4, p4, na, ng⟩ := s3.room (o := .dT (ks.zip _)) hp
      have p23 := p2.trans p3
      refine tE _ _ st3 G3 _ (p23.trans p4) s4 ⟨a, rfl, ⟨_, upd_same, repT_zip rs'⟩, ng, na, ?_⟩ h3
      cases hh : H a with
      | none => rfl
      | some o => exact absurd hp (p23.m a (by rw [hh]; exact fun z => nomatch z))
end
end AM
set_option Elab.async false
set_option linter.all false
set_option maxRecDepth 100000
set_option maxHeartbeats 4000000
namespace AM
open PySem PySem.Spec PyProof.Rows L2 Evl
/-! ### list(zip(xs, ys)) -/
theorem zipNoLen : typeLookup (.type "zip") "__len__" = pure none := am_miss_of_fast (by decide +kernel)
theorem zipNoHint : typeLookup (.type "zip") "__length_hint__" = pure none := am_miss_of_fast (by decide +kernel)
/-- a zip ahead of its i-th turn; S is the list that grows -/
structure ZAt (z TI TO i1 i2 l1 l2 S : Addr) (xs ys : Array Value) (i : Nat) (h : Heap) : Prop where
  ti : IsTupOf2 h TI (.ref i1) (.ref i2)
  a1 : h.IsListIter i1 l1 i
  a2 : h.IsListIter i2 l2 i
  q1 : h.IsList l1 xs
  q2 : h.IsList l2 ys
  out : (IsZip h z TI TO .none ∧ ∃ a b, IsTupOf2 h TO a b) ∨ ∃ T f oT, IsZipHeld h z TI TO T f ∧ h.get? T = some oT ∧ T ≠ z ∧ T ≠ i1 ∧ T ≠ i2 ∧ T ≠ S
structure Off (S z TI TO i1 i2 l1 l2 : Addr) : Prop where
  z : S ≠ z
  ti : S ≠ TI
  to : S ≠ TO
  a1 : S ≠ i1
  a2 : S ≠ i2
  q1 : S ≠ l1
  q2 : S ≠ l2
section
variable {z TI TO i1 i2 l1 l2 S : Addr} {xs ys : Array Value} {i : Nat} {h h' : Heap}
theorem ZAt.keep (o : Off S z TI TO i1 i2 l1 l2) (st : ZAt z TI TO i1 i2 l1 l2 S xs ys i h) (k : ∀ b u, b ≠ S → h.get? b = some u → h'.get? b = some u) : ZAt z TI TO i1 i2 l1 l2 S xs ys i h' := by
  refine ⟨k _ _ (Ne.symm o.ti) st.ti, st.a1.at fun u e => k _ u (Ne.symm o.a1) e, st.a2.at fun u e => k _ u (Ne.symm o.a2) e, st.q1.at fun u e => k _ u (Ne.symm o.q1) e, st.q2.at fun u e => k _ u (Ne.symm o.q2) e, ?_⟩
  rcases st.out with ⟨hz, a, b, e⟩ | ⟨T, f, oT, hz, hT, r1, r2, r3, r4⟩
  · exact .inl ⟨k _ _ (Ne.symm o.z) hz, a, b, k _ _ (Ne.symm o.to) e⟩
  · exact .inr ⟨T, f, oT, k _ _ (Ne.symm o.z) hz, k _ _ r4 hT, r1, r2, r3, r4⟩
end
section
variable {prog : Program} {w : World} {A : Around} {E : Value → Shared → Prop} {s : Shared} {z TI TO i1 i2 l1 l2 S : Addr} {xs ys : Array Value} {i : Nat}
theorem zat_next {x y : Value} {Q : Option Value → Shared → Prop} (D : ZipApart z TI TO i1 i2 l1 l2) (hS : S < s.heap.objs.size) (st : ZAt z TI TO i1 i2 l1 l2 S xs ys i s.heap) (ex : xs[i]? = some x) (ey : ys[i]? = some y)
    (hQ : ∀ h', ZAt z TI TO i1 i2 l1 l2 S xs ys (i + 1) h' → IsTupOf2 h' s.heap.objs.size x y → (∀ c o, c ∉ [z, TI, TO, i1, i2] → s.heap.get? c = some o → h'.get? c = some o) → Q (some (.ref s.heap.objs.size)) { s with heap := h' }) :
    wpAny (model prog w) A (pyNext (.ref z)) Q E s := by
  have lt : ∀ {c o}, s.heap.get? c = some o → s.heap.objs.size ≠ c := fun e => Nat.ne_of_gt (Heap.lt_size e)
  have n1 : s.heap.objs.size ≠ i1 := let ⟨_, e, _⟩ := st.a1; lt e
  have n2 : s.heap.objs.size ≠ i2 := let ⟨_, e, _⟩ := st.a2; lt e
  rcases st.out with ⟨hz, a, b, e⟩ | ⟨T, f, oT, hz, hT, r1, r2, r3, r4⟩
  · refine wpAny_pyNext_zip_item D hz st.ti e st.a1 st.a2 st.q1 st.q2 ex ey fun h' b1 b2 b3 b4 b5 b6 hk => ?_
    exact hQ h' ⟨hk _ _ D.TIz D.TITO D.TIi1 D.TIi2 st.ti, b3, b4, st.q1.at fun o e => hk _ o D.l1z D.l1TO D.l1i1 D.l1i2 e, st.q2.at fun o e => hk _ o D.l2z D.l2TO D.l2i1 D.l2i2 e,
      .inr ⟨_, false, _, b1, b5, lt hz, n1, n2, Nat.ne_of_gt hS⟩⟩ b5 fun c o hc e => hk c o (fun x => hc (by simp [x])) (fun x => hc (by simp [x])) (fun x => hc (by simp [x])) (fun x => hc (by simp [x])) e
  · refine wpAny_pyNext_zip_item_held D hz hT st.ti st.a1 st.a2 st.q1 st.q2 ex ey fun h' b1 b3 b4 b5 b6 hk => ?_
    exact hQ h' ⟨hk _ _ D.TIz D.TIi1 D.TIi2 st.ti, b3, b4, st.q1.at fun o e => hk _ o D.l1z D.l1i1 D.l1i2 e, st.q2.at fun o e => hk _ o D.l2z D.l2i1 D.l2i2 e,
      .inr ⟨T, true, oT, b1, hk _ _ r1 r2 r3 hT, r1, r2, r3, r4⟩⟩ b5 fun c o hc e => hk c o (fun x => hc (by simp [x])) (fun x => hc (by simp [x])) (fun x => hc (by simp [x])) e
theorem zat_end {Q : Option Value → Shared → Prop} (hh : A.handled = none) (D : ZipApart z TI TO i1 i2 l1 l2) (st : ZAt z TI TO i1 i2 l1 l2 S xs ys i s.heap) (he : xs[i]? = none ∨ ys[i]? = none)
    (hQ : ∀ h', (∀ c o, c ∉ [z, TI, TO, i1, i2] → s.heap.get? c = some o → h'.get? c = some o) → Q none { s with heap := h' }) : wpAny (model prog w) A (pyNext (.ref z)) Q E s := by
  rcases st.out with ⟨hz, a, b, e⟩ | ⟨T, f, oT, hz, hT, r1, r2, r3, r4⟩
  · exact wpAny_pyNext_zip_end hh D hz st.ti e st.a1 st.a2 st.q1 st.q2 he fun h' hk => hQ h' fun c o hc e => hk c o (fun x => hc (by simp [x])) (fun x => hc (by simp [x])) (fun x => hc (by simp [x])) (fun x => hc (by simp [x])) e
  · exact wpAny_pyNext_zip_end_held hh D hz hT st.ti st.a1 st.a2 st.q1 st.q2 he fun h' hk => hQ h' fun c o hc e => hk c o (fun x => hc (by simp [x])) (fun x => hc (by simp [x])) (fun x => hc (by simp [x])) e
end
theorem mapSeq_push {its : List Value} {n : Nat} {v : Value} : ∃ c, Obj.mapSeq (·.push v) { cls := .type "list", data := .seq its.toArray n } = { cls := .type "list", data := .seq (its ++ [v]).toArray c } :=
  ⟨_, by rw [show (its ++ [v]).toArray = its.toArray.push v from by simp]; rfl⟩
theorem Vals.app : ∀ {xs ys : List V} {us ws : List Value}, Vals xs us → Vals ys ws → Vals (xs ++ ys) (us ++ ws)
  | _, _, _, _, .nil, s => s
  | _, _, _, _, .cons h r, s => .cons h (Vals.app r s)
/-- what has been gathered: new tuples -/
structure Got (xs ys : List V) (H0 : Hp) (S : Addr) (i : Nat) (ts : List Addr) (H : Hp) : Prop where
  len : ts.length = i
  old : ∀ b o, H0 b = some o → H b = some o
  at_ : H S = some (.lst (ts.map V.ref))
  new : ∀ t ∈ ts, H0 t = none ∧ t ≠ S
  nd : ts.Nodup
  tup : ∀ (j : Nat) (t : Addr), ts[j]? = some t → ∃ x y, xs[j]? = some x ∧ ys[j]? = some y ∧ H t = some (.tup [x, y])
section
variable {X : Cx} {pins : List (Addr × Obj)} {σ : L2.St} {z TI TO i1 i2 l1 l2 S : Addr} {xs ys : List V} {us ws : List Value} {H0 : Hp}
theorem zip_loop {A : Around} {R : Result → Shared → Prop} {res : Value} (hh : A.handled = none) (D : ZipApart z TI TO i1 i2 l1 l2) (O : Off S z TI TO i1 i2 l1 l2) (hS0 : H0 S = none) (rx : Vals xs us) (ry : Vals ys ws) (hl : xs.length = ys.length) (hz : xs.length ≤ sizeLine)
    (hR : ∀ s H ts, Inv X pins σ H s → Got xs ys H0 S xs.length ts H → R (.ok (.ret res)) s) :
    ∀ (k i : Nat) (s : Shared) (H : Hp) (ts : List Addr), xs.length - i = k → i ≤ xs.length → Inv X pins σ H s → Got xs ys H0 S i ts H → ZAt z TI TO i1 i2 l1 l2 S us.toArray ws.toArray i s.heap → (∀ b ∈ [z, TI, TO, i1, i2], FpOk X pins H b ∧ b < s.heap.objs.size) →
      codeAny (model X.prog X.w) A (.builtin "list.extend.loop" ⟨[.ref S, .ref z, res], []⟩) R s := by
  have hul := rx.length
  have hwl := ry.length
  intro k
  induction k with
  | zero =>
    intro i s H ts hk hi I g st hf
    refine codeAny_builtin PySem.F.entry_extend_loop ?_
    rw [Around.under_plainId PySem.F.plain_extend_loop _]
    show wpAny _ A.in1 (pyNext (.ref z) >>= _) _ _ _
    refine wpAny_bind (zat_end hh D st (.inl (by simp; omega)) fun h' hkp => ?_)
    have : i = xs.length := by omega
    subst this
    exact wpAny_pure (hR _ H ts (I.turnedL (t' := s.toks) (ch := [z, TI, TO, i1, i2]) hkp fun b hb => (hf b hb).1) g)
  | succ k ih =>
    intro i s H ts hk hi I g st hf
    have hlt : i < xs.length := by omega
    obtain ⟨its, n, rv, hS, _⟩ : ∃ its n, Vals (ts.map V.ref) its ∧ s.heap.get? S = some { cls := .type "list", data := .seq its.toArray n } ∧ True := by
      obtain ⟨_, its, n, h1, h2⟩ := (show ObjOk X.prog X.w H s.heap S (.lst (ts.map V.ref)) from I.hok S _ g.at_)
      exact ⟨its, n, h1, h2, trivial⟩
    have hitl : its.length = i := by rw [← rv.length, List.length_map, g.len]
    have hSl : S < s.heap.objs.size := Heap.lt_size hS
    refine codeAny_builtin PySem.F.entry_extend_loop ?_
    rw [Around.under_plainId PySem.F.plain_extend_loop _]
    show wpAny _ A.in1 (pyNext (.ref z) >>= _) _ _ _
    have ex : us.toArray[i]? = some (us[i]'(by omega)) := by simp
    have ey : ws.toArray[i]? = some (ws[i]'(by omega)) := by simp
    obtain ⟨x, hx, rxi⟩ : ∃ x, xs[i]? = some x ∧ RelV x (us[i]'(by omega)) := by
      have e := List.getElem?_eq_getElem hlt
      obtain ⟨u, hu, ru⟩ := rx.get e
      rw [List.getElem?_eq_getElem (by omega)] at hu
      cases hu
      exact ⟨_, e, ru⟩
    obtain ⟨y, hy, ryi⟩ : ∃ y, ys[i]? = some y ∧ RelV y (ws[i]'(by omega)) := by
      have e := List.getElem?_eq_getElem (show i < ys.length by omega)
      obtain ⟨u, hu, ru⟩ := ry.get e
      rw [List.getElem?_eq_getElem (by omega)] at hu
      cases hu
      exact ⟨_, e, ru⟩
    refine wpAny_bind (zat_next D hSl st ex ey fun h' st' hT hkp => ?_)
    have nS : S ∉ [z, TI, TO, i1, i2] := by simp [O.z, O.ti, O.to, O.a1, O.a2]
    have hT0 : H s.heap.objs.size = none := I.hok.fresh (Nat.le_refl _)
    have I1 : Inv X pins σ (upd H s.heap.objs.size (.tup [x, y])) { s with heap := h' } := I.turnedNew (t' := s.toks) (ch := [z, TI, TO, i1, i2]) hkp (fun b hb => (hf b hb).1) (Nat.le_refl _) ⟨by show 2 ≤ sizeLine; decide, [_, _], .cons rxi (.cons ryi .nil), ⟨_, hT, rfl, _, rfl⟩⟩
    have hS' := hkp S _ nS hS
    have up : ∀ b o, b ≠ S → h'.get? b = some o → (h'.update S (Obj.mapSeq (·.push (Value.ref s.heap.objs.size)))).get? b = some o := fun b o hb e => (Heap.get?_update_other _ _ (Ne.symm hb)).trans e
    have hS2 := Heap.get?_update_self (Obj.mapSeq (·.push (Value.ref s.heap.objs.size))) hS' rfl
    have neS : s.heap.objs.size ≠ S := Nat.ne_of_gt hSl
    have hSH : (upd H s.heap.objs.size (.tup [x, y])) S = some (.lst (ts.map V.ref)) := by rw [upd_ne (Ne.symm neS)]; exact g.at_
    show wpAny _ A.in1 (updateSeq S (·.push (Value.ref s.heap.objs.size)) >>= _) _ _ _
    refine wpAny_bind (wpAny_updateSeq hS' rfl (wpAny_pure ⟨plainId_quiet PySem.F.plain_extend_loop _, ?_⟩) (by simp; omega) (by simp; omega))
    have tne : ∀ t ∈ ts, t ≠ s.heap.objs.size := fun t ht e => by
      obtain ⟨j, hj⟩ := List.mem_iff_getElem?.mp ht
      obtain ⟨_, _, _, _, e1⟩ := g.tup j t hj
      rw [e, hT0] at e1
      cases e1
    have hT2 := up _ _ neS hT
    refine ih (i + 1) _ (upd (upd H s.heap.objs.size (.tup [x, y])) S (.lst ((ts ++ [s.heap.objs.size]).map V.ref))) (ts ++ [s.heap.objs.size]) (by omega) hlt ?_ ?_ (st'.keep O up) ?_
    · refine I1.write (x := S) (e := S) (t' := s.toks) (by rw [hSH]; exact True.intro) (.inl rfl) up ⟨_, hS2⟩ ?_
      obtain ⟨c, ec⟩ := mapSeq_push (its := its) (n := n) (v := Value.ref s.heap.objs.size)
      refine ⟨by simp [g.len]; omega, its ++ [Value.ref s.heap.objs.size], c, ?_, hS2.trans (congrArg some ec)⟩
      rw [List.map_append]
      exact Vals.app rv (.cons rfl .nil)
    · refine ⟨by simp [g.len], fun b o e => ?_, upd_same, fun t ht => ?_, ?_, fun j t hj => ?_⟩
      · have hb := g.old b o e
        rw [upd_ne (fun q => by rw [q, hS0] at e; cases e), upd_ne (fun q => by rw [q, hT0] at hb; cases hb)]
        exact hb
      · rcases List.mem_append.mp ht with ht | ht
        · exact g.new t ht
        · obtain rfl : t = s.heap.objs.size := by simpa using ht
          refine ⟨?_, neS⟩
          cases e : H0 s.heap.objs.size with
          | none => rfl
          | some o => rw [g.old _ _ e] at hT0; cases hT0
      · rw [List.nodup_append]
        exact ⟨g.nd, by simp, fun a ha b hb => by obtain rfl : b = s.heap.objs.size := by simpa using hb
                                                  exact tne a ha⟩
      · by_cases hjl : j < ts.length
        · rw [List.getElem?_append_left hjl] at hj
          obtain ⟨x', y', e1, e2, e3⟩ := g.tup j t hj
          have hm := List.mem_of_getElem? hj
          refine ⟨x', y', e1, e2, ?_⟩
          rw [upd_ne (g.new t hm).2, upd_ne (tne t hm)]
          exact e3
        · have hlt2 := (List.getElem?_eq_some_iff.mp hj).1
          have hj2 : j = ts.length := by simp at hlt2; omega
          subst hj2
          obtain rfl : s.heap.objs.size = t := by simpa using hj
          rw [g.len]
          refine ⟨x, y, hx, hy, ?_⟩
          rw [upd_ne neS, upd_same]
    · intro b hb
      have hbl := (hf b hb).2
      refine ⟨⟨?_, (hf b hb).1.2⟩, Nat.lt_trans hbl (Heap.lt_size hT2)⟩
      rw [upd_ne (fun q => nS (by rw [← q]; exact hb)), upd_ne (Nat.ne_of_lt hbl)]
      exact (hf b hb).1.1
theorem call_listZip {A : Around} {E : Value → Shared → Prop} {s : Shared} {H : Hp} {Q : Value → Shared → Prop} (hh : A.handled = none) (D : ZipApart z TI TO i1 i2 l1 l2) (rx : Vals xs us) (ry : Vals ys ws) (hl : xs.length = ys.length) (hz : xs.length ≤ sizeLine) (I : Inv X pins σ H s) (hz0 : IsZip s.heap z TI TO .none)
    (st : ∀ S, S = s.heap.objs.size → ZAt z TI TO i1 i2 l1 l2 S us.toArray ws.toArray 0 s.heap) (hf : ∀ b ∈ [z, TI, TO, i1, i2], FpOk X pins H b ∧ b < s.heap.objs.size)
    (hq : ∀ s' H' ts, Inv X pins σ H' s' → Got xs ys H s.heap.objs.size xs.length ts H' → Q (.ref s.heap.objs.size) s') : wpAny (model X.prog X.w) A (call (.type "list") [.ref z]) Q E s := by
  generalize hSe : s.heap.objs.size = S at st hq
  have st := st S rfl
  have lt : ∀ {c o}, s.heap.get? c = some o → S ≠ c := fun e => by rw [← hSe]; exact Nat.ne_of_gt (Heap.lt_size e)
  have O : Off S z TI TO i1 i2 l1 l2 := by
    have hz : ∃ o, s.heap.get? z = some o := by
      rcases st.out with ⟨e, _⟩ | ⟨_, _, _, e, _⟩
      · exact ⟨_, e⟩
      · exact ⟨_, e⟩
    obtain ⟨_, ez⟩ := hz
    obtain ⟨_, e1, _⟩ := st.a1
    obtain ⟨_, e2, _⟩ := st.a2
    obtain ⟨_, e3, _⟩ := st.q1
    obtain ⟨_, e4, _⟩ := st.q2
    exact ⟨lt ez, lt st.ti, fun e => absurd (hf TO (by simp)).2 (by rw [← e, ← hSe]; exact Nat.lt_irrefl _), lt e1, lt e2, lt e3, lt e4⟩
  have hH : H S = none := I.hok.fresh (Nat.le_of_eq hSe)
  have loop : ∀ (h : Heap) (c : Nat), (∀ b o, b ≠ S → s.heap.get? b = some o → h.get? b = some o) → h.get? S = some { cls := .type "list", data := .seq #[] c } → ∀ {A : Around} {R : Result → Shared → Prop}, A.handled = none → (∀ s' H' ts, Inv X pins σ H' s' → Got xs ys H S xs.length ts H' → R (.ok (.ret .none)) s') →
      codeAny (model X.prog X.w) A (.builtin "list.extend.loop" ⟨[.ref S, .ref z, .none], []⟩) R { s with heap := h } := fun h c hk hS {A R} hh hR => by
    have I1 : Inv X pins σ (upd H S (.lst [])) { s with heap := h } := I.laid (t' := s.toks) (fun b u e => hk b u (fun q => lt e q.symm) e) (Nat.le_of_eq hSe) ⟨by show 0 ≤ _; omega, [], c, .nil, hS⟩
    have low : S < h.objs.size := Heap.lt_size hS
    refine zip_loop hh D O hH rx ry hl hz hR xs.length 0 _ _ [] (by omega) (by omega) I1 ⟨rfl, fun b o e => ?_, upd_same, by simp, by simp, by simp⟩ (st.keep O hk) fun b hb => ?_
    · rw [upd_ne (fun q => by rw [q, hH] at e; cases e)]
      exact e
    · have hbl : b < S := by rw [← hSe]; exact (hf b hb).2
      refine ⟨⟨?_, (hf b hb).1.2⟩, Nat.lt_trans hbl low⟩
      rw [upd_ne (Nat.ne_of_lt hbl)]
      exact (hf b hb).1.1
  refine callType_codes (Q₁ := fun obj s₁ => obj = .ref s.heap.objs.size ∧ s₁ = { s with heap := s.heap.push { cls := .type "list", data := .seq #[] } }) PySem.F.called_list (PySem.F.typeCall_list_1 _) PySem.F.entry_list_init (code_list_new _ ⟨rfl, rfl⟩) fun obj s₁ h₁ => ?_
  obtain ⟨rfl, rfl⟩ := h₁
  rw [hSe]
  have hS : (s.heap.push { cls := .type "list", data := .seq #[] }).get? S = some { cls := .type "list", data := .seq #[] } := by rw [← hSe]; exact Heap.get?_push_size _ rfl
  refine ⟨⟨_, hS, rfl⟩, PySem.F.args_list_init_2 _ _, ?_⟩
  have kp : ∀ (h : Heap) f, (∀ b o, b ≠ S → s.heap.get? b = some o → h.get? b = some o) → ∀ b o, b ≠ S → s.heap.get? b = some o → (h.update S f).get? b = some o := fun h f k b o hb e => (Heap.get?_update_other _ _ (Ne.symm hb)).trans (k b o hb e)
  have k0 : ∀ b o, b ≠ S → s.heap.get? b = some o → (s.heap.push { cls := .type "list", data := .seq #[] }).get? b = some o := fun b o _ e => Heap.get?_push_of_some _ e
  show wpAny _ _ (Builtin.List.listItems (.ref S) >>= fun old => Builtin.List.listUpdate (.ref S) (fun _ => #[]) >>= fun _ => letGo old.toList.reverse >>= fun _ => Builtin.List.listExtendWith (.ref S) (.ref z) .none) _ _ _
  refine wpAny_bind ?_
  unfold Builtin.List.listItems
  refine wpAny_bind (wpAny_seqItems hS rfl (wpAny_pure ?_))
  show wpAny _ _ (updateSeq S (fun _ => #[]) >>= fun _ => letGo (#[] : Array Value).toList.reverse >>= fun _ => Builtin.List.listExtendWith (.ref S) (.ref z) .none) _ _ _
  refine wpAny_bind (wpAny_updateSeq hS rfl ?_)
  have hS2 := Heap.get?_update_self (Obj.mapSeq (fun _ => (#[] : Array Value))) hS rfl
  have k1 := kp _ (Obj.mapSeq (fun _ => (#[] : Array Value))) k0
  have hz1 := k1 z _ (Ne.symm O.z) hz0
  refine wpAny_bind (wpAny_letGo ?_)
  unfold Builtin.List.listExtendWith
  refine wpAny_bind (wpAny_typeOf (T := "zip") ⟨_, hz1, rfl⟩ ?_)
  have n1 : Builtin.List.listSameRef (.ref S) (.ref z) = false := by simp [Builtin.List.listSameRef, O.z]
  have n2 : (Value.type "zip" == Value.type "list") = false := by decide
  have n3 : (Value.type "zip" == Value.type "tuple") = false := by decide
  simp only [n1, n2, n3, Bool.or_false, Bool.false_eq_true, if_false]
  refine wpAny_bind (wpAny_pyIter_zip hz1 ?_)
  refine wpAny_bind (wpAny_holding ?_)
  unfold Builtin.List.listLengthHint
  refine wpAny_bind (wpAny_specialOf (T := "zip") ⟨_, hz1, rfl⟩ zipNoLen ?_)
  show wpAny _ _ (specialOf (Value.ref z) (Str.ofString "__length_hint__") >>= _) _ _ _
  refine wpAny_bind (wpAny_specialOf (T := "zip") ⟨_, hz1, rfl⟩ zipNoHint ?_)
  refine wpAny_pure ?_
  refine wpAny_ite_split (fun _ => ?_) (fun _ => wpAny_pure ⟨plainId_quiet PySem.F.plain_extend_loop _, loop _ _ k1 hS2 hh fun s' H' ts I' g => ⟨rfl, hq s' H' ts I' g⟩⟩)
  refine wpAny_bind (wpAny_rule ?_)
  refine wpAny_bind ?_
  show wpAny _ _ (updateSeq S (·.push .none) >>= fun _ => updateSeq S (·.pop)) _ _ _
  refine wpAny_bind (wpAny_updateSeq hS2 rfl ?_)
  have hS3 := Heap.get?_update_self (Obj.mapSeq (·.push Value.none)) hS2 rfl
  have k2 := kp _ (Obj.mapSeq (·.push Value.none)) k1
  refine wpAny_updateSeq (hz := by seq_fits) hS3 rfl ?_
  have hS4 := Heap.get?_update_self (Obj.mapSeq (·.pop)) hS3 rfl
  have k3 := kp _ (Obj.mapSeq (·.pop)) k2
  exact wpAny_pure ⟨plainId_quiet PySem.F.plain_extend_loop _, loop _ _ k3 hS4 hh fun s' H' ts I' g => ⟨rfl, hq s' H' ts I' g⟩⟩
end
def tLZip (K : PySem.W.Frag) (ta : TA) : TE := fun σ H Q => ta σ H fun vs H1 => ∃ (a b : Addr) (xs ys : List V), vs = [.ref a, .ref b] ∧ SqL K H1 a xs ∧ SqL K H1 b ys ∧ xs.length = ys.length ∧ ∀ p H' ts, H1 p = none → Got xs ys H1 p xs.length ts H' → Q (.ref p) H'
theorem pe_listZip {X : Cx} {e e2 : Expr} {ta : TA} {p p2 pos pos2 : Pos} (hc : X.calm = true) (hg : Gl X "list") (hm : X.mg "list" = none) (hgz : Gl X "zip") (hmz : X.mg "zip" = none) (ha : PA X [e, e2] ta)
    (hs : starEach [e, e2] X.env = (false, eval e X.env) :: starEach [e2] X.env := by rfl) (hpl : (backTo pos2 (starEach [e2] X.env)).any (·.1) = false := by rfl)
    (hs0 : starEach [.Call (.Name "zip" p2) [e, e2] [] pos2] X.env = (false, eval (.Call (.Name "zip" p2) [e, e2] [] pos2) X.env) :: starEach [] X.env := by rfl) (hpl0 : (backTo pos (starEach [] X.env)).any (·.1) = false := by rfl) :
    PE X (.Call (.Name "list" p) [.Call (.Name "zip" p2) [e, e2] [] pos2] [] pos) (tLZip X.K ta) := by
  refine ⟨fun pins s σ H Q I h => ?_⟩
  refine Call_ (ld_blt I hg hm PyProof.Rows.boot_list (PyProof.Rows.callWith_type1 ?_ hs0 hpl0))
  rw [hs0]
  show wpAny _ _ (spliced ((false, eval (.Call (.Name "zip" p2) [e, e2] [] pos2) X.env) :: backTo pos (starEach [] X.env))) _ _ s
  refine Calls.spliced_cons ?_
  refine Call_ (ld_blt I hgz hmz PyProof.Rows.boot_zip (PyProof.Rows.callWith_type1 (thn (ha.run pos2 pins s σ H _ I h) fun us s1 ⟨vs, H1, I1, r1, q1⟩ => ?_) hs hpl))
  obtain ⟨a, b, xs, ys, ex, hqx, hqy, hlen, q⟩ := q1
  subst ex
  cases r1 with
  | cons r rr =>
    cases rr with
    | cons r' rr =>
      cases rr
      cases r
      cases r'
      obtain ⟨its, rv, p1, hz1, la⟩ := inv_sq (t := false) I1 hqx
      obtain ⟨its2, rv2, p2', hz2, lb⟩ := inv_sq (t := false) I1 hqy
      refine zip_begins2 (begins_sq (t := false) a its.toArray) (begins_sq (t := false) b its2.toArray) p1 p2' fun h' hz hTI hTO h1 h2 hsz hkp => ?_
      refine Calls.spliced_nil ?_
      have I2 : Inv X pins σ H1 { s1 with heap := h' } := I1.kept (t' := s1.toks) hkp
      have g1 : h'.IsList a its.toArray := by
        obtain ⟨o, g1, g2⟩ := (show s1.heap.IsList a _ from p1)
        exact ⟨o, hkp _ _ g1, g2⟩
      have g2 : h'.IsList b its2.toArray := by
        obtain ⟨o, g1, g2⟩ := (show s1.heap.IsList b _ from p2')
        exact ⟨o, hkp _ _ g1, g2⟩
      refine call_listZip (I1.ok.hd hc) (zip_apart la lb) rv rv2 hlen hz1 I2 hz (fun S _ => ⟨hTI, ⟨_, h1, rfl, rfl⟩, ⟨_, h2, rfl, rfl⟩, g1, g2, .inl ⟨hz, _, _, hTO⟩⟩) (fun c hcm => ?_) fun s' H' ts I' g => ⟨.ref _, H', I', rfl, q _ H' ts (I2.hok.fresh (Nat.le_refl _)) g⟩
      have e' : c = s1.heap.objs.size + 4 ∨ c = s1.heap.objs.size + 2 ∨ c = s1.heap.objs.size + 3 ∨ c = s1.heap.objs.size ∨ c = s1.heap.objs.size + 1 := by simpa using hcm
      have hle : s1.heap.objs.size ≤ c ∧ c < h'.objs.size := by
        rcases e' with z | z | z | z | z
        · rw [z, hsz]; exact ⟨Nat.le_add_right _ _, Nat.add_lt_add_left (by decide) _⟩
        · rw [z, hsz]; exact ⟨Nat.le_add_right _ _, Nat.add_lt_add_left (by decide) _⟩
        · rw [z, hsz]; exact ⟨Nat.le_add_right _ _, Nat.add_lt_add_left (by decide) _⟩
        · rw [z, hsz]; exact ⟨Nat.le_refl _, Nat.lt_add_of_pos_right (by decide)⟩
        · rw [z, hsz]; exact ⟨Nat.le_add_right _ _, Nat.add_lt_add_left (by decide) _⟩
      exact ⟨I1.fpOk hle.1 (I1.hok.fresh hle.1), hle.2⟩
/-! ### its reading -/
section
variable {K : PySem.W.Frag} {G G2 : Gh} {H H2 : Hp} {st : S}
theorem SS.ext (s : SS K G st H) (k : ∀ b o, H b = some o → H2 b = some o) : SS K G st H2 ∧ Post G H G H2 :=
  ⟨⟨fun a o e => k a o (s.ex a o e), s.len, s.nd, fun n c q e1 e2 => (s.cell n c q e1 e2).mono (Gh.le.refl G) (fun u e => k q u e) (fun _ e => e)⟩, ⟨Gh.le.refl G, fun x u e _ => k x u e, fun x e _ _ => e, fun x z => .inl z, fun x h z => by
    cases e : H x with
    | none => exact h e
    | some o => rw [k x o e] at z; cases z⟩⟩
/-- new tuples are frozen, one after the other -/
theorem frz_tups {G0 : Gh} : ∀ (ts : List Addr) (os : List HO) {G : Gh}, SS K G st H2 → Post G0 H G H2 → ts.length = os.length → ts.Nodup → (∀ t ∈ ts, H t = none ∧ G.g t = none ∧ t ∉ G.as) → (∀ (j : Nat) (t : Addr) (o : HO), ts[j]? = some t → os[j]? = some o → H2 t = some o) →
    ∃ G3, SS K G3 st H2 ∧ Post G0 H G3 H2 ∧ G.le G3 ∧ G3.as = G.as ∧ (∀ b, b ∉ ts → G3.g b = G.g b) ∧ ∀ (j : Nat) (t : Addr) (o : HO), ts[j]? = some t → os[j]? = some o → G3.g t = some o
  | [], _, G, s, p, _, _, _, _ => ⟨G, s, p, Gh.le.refl G, rfl, fun _ _ => rfl, fun j t o h => by simp at h⟩
  | _ :: _, [], _, _, _, h, _, _, _ => by simp at h
  | t :: ts, o :: os, G, s, p, hl, nd, hn, ho => by
    rw [List.nodup_cons] at nd
    obtain ⟨h1, h2, h3⟩ := hn t (by simp)
    have e := ho 0 t o rfl rfl
    obtain ⟨s1, le1⟩ := s.freeze e h2 h3
    obtain ⟨G3, s3, p3, le3, as3, off3, at3⟩ := frz_tups ts os s1 (p.freeze h2 h1) (by simpa using hl) nd.2 (fun x hx => ⟨(hn x (by simp [hx])).1, by
      show (upd G.g t o) x = none
      rw [upd_ne (fun q => nd.1 (by rw [← q]; exact hx))]
      exact (hn x (by simp [hx])).2.1, (hn x (by simp [hx])).2.2⟩) fun j x u e1 e2 => ho (j + 1) x u (by simpa using e1) (by simpa using e2)
    refine ⟨G3, s3, p3, le1.trans le3, as3, fun b hb => ?_, fun j x u e1 e2 => ?_⟩
    · rw [off3 b (fun q => hb (by simp [q]))]
      exact upd_ne (fun q => hb (by simp [q]))
    · cases j with
      | zero =>
        simp at e1 e2
        subst e1 e2
        rw [off3 _ nd.1]
        exact upd_same
      | succ j => exact at3 j x u (by simpa using e1) (by simpa using e2)
theorem reps_zip {G3 : Gh} : ∀ {l m : List D} {xs ys : List V} {ts : List Addr}, Reps K G3 l xs → Reps K G3 m ys → ts.length = xs.length → xs.length = ys.length → (∀ (j : Nat) (t : Addr) (x y : V), ts[j]? = some t → xs[j]? = some x → ys[j]? = some y → G3.g t = some (.tup [x, y])) → Reps K G3 (zipD l m) (ts.map V.ref)
  | _, _, _, _, [], .nil, _, _, _, _ => by unfold zipD; simp; exact .nil
  | _, _, _, _, t :: ts, .cons h r, .cons h2 r2, e1, e2, hg => .cons (.tup (hg 0 t _ _ rfl rfl rfl) (.cons h (.cons h2 .nil))) (reps_zip r r2 (by simpa using e1) (by simpa using e2) fun j t' x y a b c => hg (j + 1) t' x y (by simpa using a) (by simpa using b) (by simpa using c))
  | _, _, _, _, _ :: _, .nil, _, e1, _, _ => by simp at e1
  | _, _, _, _, [], .cons _ _, _, e1, _, _ => by simp at e1
  | _, _, _, _, _ :: _, .cons _ _, .nil, _, e2, _ => by simp at e2
end
section
variable {X : Cx} {W : WX} {k : Nat} {e e2 : Expr} {ae ab : AE} {p p2 pos pos2 : Pos}
def fLZip (a b : AE) : AFr := fun env st q er => a env st (fun x s1 => b env s1 (fun y s2 => ∃ l m, vw s2 x = .lst l ∧ vw s2 y = .lst m ∧ l.length = m.length ∧ q (zipD l m) s2) er) er
theorem axf_lzip (C : CxE X W k) (hm : X.mg "list" = none) (hmz : X.mg "zip" = none) (h : AX X W e ae) (h' : AX X W e2 ab) (hg : Gl X "list" := by rfl) (hgz : Gl X "zip" := by rfl)
    (hs : starEach [e, e2] X.env = (false, eval e X.env) :: starEach [e2] X.env := by rfl) (hs2 : starEach [e2] X.env = [(false, eval e2 X.env)] := by rfl) (hpl : (backTo pos2 (starEach [e2] X.env)).any (·.1) = false := by rfl)
    (hs0 : starEach [.Call (.Name "zip" p2) [e, e2] [] pos2] X.env = (false, eval (.Call (.Name "zip" p2) [e, e2] [] pos2) X.env) :: starEach [] X.env := by rfl) (hpl0 : (backTo pos (starEach [] X.env)).any (·.1) = false := by rfl) :
    AXF X W (.Call (.Name "list" p) [.Call (.Name "zip" p2) [e, e2] [] pos2] [] pos) (fLZip ae ab) := by
  obtain ⟨t, pe, r⟩ := h
  obtain ⟨t', pe', r'⟩ := h'
  refine ⟨_, pe_listZip C.calm hg hm hgz hmz (pa_cons pe (pa_cons pe' pa_nil (by rw [hs2]; rfl)) (by rw [hs])) hs hpl hs0 hpl0, fun G env st σ H Q q er s sl a tE tX => ?_⟩
  refine r G env st σ H _ _ er s sl a (fun v d st2 G2 H2 p2 s2 r2 h2 => r' G2 env st2 σ H2 _ _ er s2 (sl.mono p2.le) h2 (fun v' d' st3 G3 H3 p3 s3 r3 h3 => ?_) (tX.on p2)) tX
  obtain ⟨l, m, hl, hm', hlen, h3⟩ := h3
  have rx := (r2.mono p3.le).vw s3
  have ry := r3.vw s3
  rw [hl] at rx
  rw [hm'] at ry
  cases rx with
  | lst ha rs =>
    cases ry with
    | lst hb rs' =>
      rename_i pa vs pb vs'
      have hlv : vs.length = vs'.length := by rw [← rs.length, ← rs'.length]; exact hlen
      refine ⟨_, _, vs, vs', rfl, SqL.of ha, SqL.of hb, hlv, fun a H' ts hp g => ?_⟩
      obtain ⟨s4, p4⟩ := s3.ext g.old
      obtain ⟨_, _, na, ng⟩ := s3.room (o := .lst []) hp
      have tl := g.len
      obtain ⟨G5, s5, p5, le5, as5, off5, at5⟩ := frz_tups (H := H3) ts (List.zipWith (fun x y => HO.tup [x, y]) vs vs') s4 p4 (by simp; omega) g.nd (fun t ht => by
        obtain ⟨_, _, n1, n2⟩ := s3.room (o := .lst []) (g.new t ht).1
        exact ⟨(g.new t ht).1, n2, n1⟩) (fun j t o e1 e2 => by
        obtain ⟨x, y, f1, f2, f3⟩ := g.tup j t e1
        rw [List.getElem?_zipWith, f1, f2] at e2
        cases e2
        exact f3)
      have p23 := p2.trans p3
      have nat : a ∉ ts := fun hm => (g.new a hm).2 rfl
      refine tE _ _ st3 G5 H' (p23.trans p5) s5 ⟨a, _, rfl, g.at_, by rw [off5 a nat]; exact ng, by rw [as5]; exact na, ?_, reps_zip (rs.mono le5) (rs'.mono le5) (by omega) hlv fun j t x y e1 e2 e3 => at5 j t _ e1 (by rw [List.getElem?_zipWith, e2, e3])⟩ h3
      cases hh : H a with
      | none => rfl
      | some o => exact absurd hp (p23.m a (by rw [hh]; exact fun z => nomatch z))
end
end AM
set_option Elab.async false
set_option linter.all false
set_option maxRecDepth 100000
set_option maxHeartbeats 4000000
namespace AM
open PySem PySem.Spec PyProof.Rows L2 Evl
/-! ### l[i] += n, d[k] += n -/
section
variable {X : Cx}
theorem get_list : PGet X (rIxL X.K) := by
  intro pins s σ H x y v u Q I rx ry h
  obtain ⟨p, xs, i, z, rfl, rfl, hq, he, q⟩ := h
  cases rx
  obtain ⟨t, rfl⟩ := ry
  obtain ⟨its, r, pl, hz⟩ := I.list hq
  obtain ⟨j, h1, h2, h3, h4, h5⟩ := atI_get he
  obtain ⟨w, ew, rw'⟩ := r.get h2
  have hl := r.length
  have hn := line63
  have fin : EP X pins σ Q w s := ⟨z, H, I, rw', q⟩
  by_cases h0 : 0 ≤ i
  · have hj : i.toNat = j := by
      rw [seqIndex_of h0 h5] at h1
      exact Option.some.inj h1
    exact wpAny_getItem_list pl.isList h0 (by omega) (by rw [hj]; simpa using ew) fin
  · have hj : (i + (its.toArray.size : Int)).toNat = j := by
      rw [seqIndex_neg (by omega) h4] at h1
      rw [List.size_toArray, ← hl]
      exact Option.some.inj h1
    exact wpAny_getItem_list_neg pl.isList (by omega) (by rw [List.size_toArray] <;> omega) (by omega) (by rw [hj]; simpa using ew) fin
theorem get_dic (hu : X.A.units + 2 < cLine) : PGet X rIxDic := by
  intro pins s σ H x y v u Q I rx ry h
  obtain ⟨a, w, rfl, g, q⟩ := h
  obtain rfl : v = Value.ref a := rx
  exact d_getItem (by omega) I g ry fun w' s3 I3 rw' => ⟨w, H, I3, rw', q⟩
end
def sAugIx (o b a : AE) : AS := fun env st k => o env st (fun x s1 => b env s1 (fun j s2 => ∃ n i l v, x = .ref n ∧ j = .int i ∧ s2[n]? = some (.lst l) ∧ atI l i = some (.int v) ∧ a env s2 (fun y s3 => ∃ w l' j', y = .int w ∧ s3[n]? = some (.lst l') ∧ ixN l'.length i = some j' ∧ k.nx env (s3.set n (.lst (l'.set j' (.int (v + w)))))) (fun e s => k.er e env s)) (fun e s => k.er e env s)) (fun e s => k.er e env s)
def sAugDx (o b a : AE) : AS := fun env st k => o env st (fun x s1 => b env s1 (fun j s2 => ∃ n l v, x = .ref n ∧ isKeyT (vw s2 j) ∧ s2[n]? = some (.dic l) ∧ DLook l (vw s2 j) (.int v) ∧ a env s2 (fun y s3 => ∃ w l' l2, y = .int w ∧ s3[n]? = some (.dic l') ∧ keysT l' ∧ l'.length < 100000 ∧ vw s3 j = vw s2 j ∧ DPutD l' (vw s3 j) (.int (v + w)) l2 ∧ k.nx env (s3.set n (.dic l2))) (fun e s => k.er e env s)) (fun e s => k.er e env s)) (fun e s => k.er e env s)
section
variable {K : PySem.W.Frag} {W : WX}
theorem refS_augIx {ta to tb : TE} {aa ao ab : AE} (ha : RefE K W ta aa) (ho : RefE K W to ao) (hb : RefE K W tb ab) : RefS K W (tAugS to tb ta (rIxL K) (ipI fun i j => i + j) rSetL) (sAugIx ao ab aa) := fun G env st σ H D k s l h t => by
  refine ho G env st σ H _ _ _ s l h (fun w x st1 G1 H1 p1 s1 r1 h1 => ?_) (t.x l)
  refine hb G1 env st1 σ H1 _ _ _ s1 (l.mono p1.le) h1 (fun u j st2 G2 H2 p2 s2 r2 h2 => ?_) ((t.x l).on p1)
  obtain ⟨n, i, ls, v, rfl, rfl, hn, hat, h2⟩ := h2
  have p12 := p1.trans p2
  cases r1 with
  | ref ep =>
    rename_i p
    cases r2
    have ep2 := pre_get p2.le.a ep
    obtain ⟨vs, gp, hp, rs⟩ := s2.cell n _ p hn ep2
    obtain ⟨vv, hv, rv⟩ := atI_reps rs hat
    cases rv
    refine ⟨p, vs, i, _, rfl, rfl, SqL.of hp, hv, ?_⟩
    refine ha G2 env st2 σ H2 _ _ _ s2 (l.mono p12.le) h2 (fun y d st3 G3 H3 p3 s3 r3 h3 => ?_) ((t.x l).on p12)
    obtain ⟨w, l', j', rfl, hn3, hj, h3⟩ := h3
    cases r3
    have ep3 := pre_get p3.le.a ep2
    obtain ⟨vs3, gp3, hp3, rs3⟩ := s3.cell n _ p hn3 ep3
    obtain ⟨s4, p4⟩ := s3.setCell (n := n) (c' := .lst (l'.set j' (.int (v + w)))) (o := .lst (vs3.set j' (.int (v + w)))) ep3 gp3 ⟨_, gp3, upd_same, rs3.set (.int _) j'⟩
    exact ⟨v, w, rfl, rfl, p, vs3, i, j', rfl, rfl, hp3, by rw [← rs3.length]; exact hj, t.nx env σ _ G3 _ ((p12.trans p3).trans p4) s4 (l.mono ((p12.trans p3).trans p4).le) h3⟩
theorem dicT_of {G : Gh} {H : Hp} {l : List (D × D)} {p : Addr} {kk d : D} (h : CellOk K G H (.dic l) p) (hk : isKeyT kk) (hl : DLook l kk d) : G.g p = none ∧ ∃ kvs, H p = some (.dT kvs) ∧ RepT K G l kvs := by
  exact h
theorem refS_augDx {ta to tb : TE} {aa ao ab : AE} (ha : RefE K W ta aa) (ho : RefE K W to ao) (hb : RefE K W tb ab) : RefS K W (tAugS to tb ta rIxDic (ipI fun i j => i + j) rSetD) (sAugDx ao ab aa) := fun G env st σ H D k s l h t => by
  refine ho G env st σ H _ _ _ s l h (fun w x st1 G1 H1 p1 s1 r1 h1 => ?_) (t.x l)
  refine hb G1 env st1 σ H1 _ _ _ s1 (l.mono p1.le) h1 (fun u j st2 G2 H2 p2 s2 r2 h2 => ?_) ((t.x l).on p1)
  obtain ⟨n, ls, v, rfl, hkey, hn, hat, h2⟩ := h2
  have p12 := p1.trans p2
  cases r1 with
  | ref ep =>
    rename_i p
    have ep2 := pre_get p2.le.a ep
    obtain ⟨gp, kvs, hp, rk⟩ := dicT_of (s2.cell n _ p hn ep2) hkey hat
    obtain ⟨kk, ek⟩ := hkey
    have ru := r2.vw s2
    rw [ek] at ru hat
    obtain ⟨vv, e1, rv⟩ := rk.look hat
    cases rv
    obtain ⟨b, eb, hb2⟩ : ∃ b, u = .ref b ∧ H2 b = some (.tup (kk.map kV)) := by
      cases ru with
      | tup hy rs _ =>
        have := reps_kD rs
        subst this
        exact ⟨_, rfl, hy⟩
    subst eb
    refine ⟨p, _, rfl, by rw [← e1]; exact DGet.t hp hb2, ?_⟩
    refine ha G2 env st2 σ H2 _ _ _ s2 (l.mono p12.le) h2 (fun y d st3 G3 H3 p3 s3 r3 h3 => ?_) ((t.x l).on p12)
    obtain ⟨w, l', l2, rfl, hn3, hne, hsz, hvw, hput, h3⟩ := h3
    cases r3
    have ep3 := pre_get p3.le.a ep2
    have ru3 := (r2.mono p3.le).vw s3
    rw [hvw, ek] at ru3
    rw [hvw, ek] at hput
    have hb3 : H3 b = some (.tup (kk.map kV)) := by
      cases ru3 with
      | tup hy rs _ =>
        have := reps_kD rs
        subst this
        exact hy
    obtain ⟨gp3, kvs3, hp3, rk3⟩ := s3.cell n _ p hn3 ep3
    · obtain ⟨s4, p4⟩ := s3.setCell (n := n) (c' := .dic l2) (o := .dT (putK kvs3 kk (.int (v + w)))) ep3 gp3 ⟨gp3, _, upd_same, RepT.put (.int _) rk3 hput⟩
      refine ⟨v, w, rfl, rfl, ?_⟩
      exact ⟨p, _, rfl, DPut.t hp3 hb3 (sz_lt (by rw [← rk3.length]; exact hsz)), t.nx env σ _ G3 _ ((p12.trans p3).trans p4) s4 (l.mono ((p12.trans p3).trans p4).le) h3⟩
end
section
variable {X : Cx} {W : WX} {o i e : Expr} {ao ab ae : AE} {pos tpos : Pos}
theorem axs_augIx (ho : AX X W o ao) (hi : AX X W i ab) (he : AX X W e ae) (ha : ∀ ov iv new, augStore i ov iv new = (do holding [new, ov, iv] (setItem ov iv new); release [new, ov, iv] []; pure .next) := by intros; rfl) : AXS X W (.AugAssign (.Subscript o i tpos) .Add e pos) (sAugIx ao ab ae) := by
  obtain ⟨to, po, ro⟩ := ho
  obtain ⟨tb, pb, rb⟩ := hi
  obtain ⟨te, pe, re⟩ := he
  exact ⟨_, ps_augS po pb get_list pe ip_add set_list ha, refS_augIx re ro rb⟩
theorem axs_augDx {k : Nat} (C : CxE X W k) (ho : AX X W o ao) (hi : AX X W i ab) (he : AX X W e ae) (ha : ∀ ov iv new, augStore i ov iv new = (do holding [new, ov, iv] (setItem ov iv new); release [new, ov, iv] []; pure .next) := by intros; rfl) : AXS X W (.AugAssign (.Subscript o i tpos) .Add e pos) (sAugDx ao ab ae) := by
  obtain ⟨to, po, ro⟩ := ho
  obtain ⟨tb, pb, rb⟩ := hi
  obtain ⟨te, pe, re⟩ := he
  exact ⟨_, ps_augS po pb (get_dic (by have := u64 C.room; omega)) pe ip_add (set_dict (by have := u64 C.room; omega)) ha, refS_augDx re ro rb⟩
end
end AM
set_option Elab.async false
set_option linter.all false
set_option maxRecDepth 100000
set_option maxHeartbeats 4000000
namespace AM
open PySem PySem.Spec PyProof.Rows L2 Evl
/-! ### x = {..: .. for ..}, a cell -/
def sCellD (f : AFd) (i : Nat) : AS := fun env st k => f env st (fun l s1 => k.nx (env.set i (.d (.ref s1.length))) (s1 ++ [.dic l])) (fun e s1 => k.er e env s1)
theorem refS_cellD {K : PySem.W.Frag} {W : WX} {te : TE} {af : AFd} {i : Nat} (h : RefD K W te af) : RefS K W (tAsg te (gName i)) (sCellD af i) := fun G env st σ H D k s l a t =>
  h G env st σ H _ _ _ s l a (fun v ds st2 G2 H2 p2 s2 r2 h2 => by
    obtain ⟨G3, s3, p3, r3⟩ := ownd_cell s2 p2 r2
    exact t.nx _ _ _ G3 H2 p3 s3 ((l.mono p3.le).set i r3) h2) (t.x l)
theorem swD_true {kx vx : Expr} {gs : List Comprehension} {scope : Scope} {pos py : Pos} {y : Str} {l : Nat} {env : Env} (hk : env.scope.kind = .function) (hy : env.scope.names.lookup y = some .local) (hl : (py.line == pos.line) = true)
    (ha : (scope.names.any fun (n, k) => n == y && (k == .local || k == .cell)) = false) : swapsWith (.DictComp kx vx gs scope pos) (some (.Name y py)) l env = pure true := by
  have ky : env.kindOf y = some .local := hy
  have hb : env.blockKind = .function := by unfold Env.blockKind; rw [hk]; rfl
  unfold swapsWith
  simp only [hb, ky, ha, Expr.pos, hl]
  rfl
section
variable {X : Cx} {W : WX} {k : Nat}
theorem ps_setDcT {i : Nat} {y : Str} {py : Pos} {kx vx tg iter : Expr} {ifs : List Expr} {scope : Scope} {own : List (Str × Nat)} {pos spos : Pos} {wi : TI} {g : TG} {tt : TT} {tk tv : TE} (hu : X.A.units + 1 < cLine) (hc : X.calm = true) (hN : X.N.Nodup) (hy : X.N[i]? = some y) (hyl : X.env.scope.names.lookup y = some .local)
    (hsw : swapsWith (.DictComp kx vx [⟨tg, iter, ifs, 0⟩] scope pos) (some (.Name y py)) spos.line X.env = pure true) (hi : PI X tg iter wi) (ok : BlkOk X.N X.env.scope scope own)
    (hg : ∀ (s : Shared) (H : Hp) (C : Addr) (cl : List (Str × Addr)) (fp : List Addr), PG (X.blk s H scope (compEnvC scope cl C X.env) fp) tg g) (ht : ∀ (s : Shared) (H : Hp) (C : Addr) (cl : List (Str × Addr)) (fp : List Addr), PTs (X.blk s H scope (compEnvC scope cl C X.env) fp) ifs tt)
    (hk : ∀ (s : Shared) (H : Hp) (C : Addr) (cl : List (Str × Addr)) (fp : List Addr), PE (X.blk s H scope (compEnvC scope cl C X.env) fp) kx tk)
    (he : ∀ (s : Shared) (H : Hp) (C : Addr) (cl : List (Str × Addr)) (fp : List Addr), PE (X.blk s H scope (compEnvC scope cl C X.env) fp) vx tv) (hs : ∀ x, foldedSetIterable iter X.env x = pure x) :
    PS X (.Assign [.Name y py] (.DictComp kx vx [⟨tg, iter, ifs, 0⟩] scope pos) spos) (tAsg (tDcT wi g tt tk tv (own.map (·.2))) (gName i)) := by
  refine ⟨fun pins s σ H D I h => ?_⟩
  rw [exec_Assign_Name_used _ _ _ _ hsw]
  refine wpAny_bind (wpAny_standAt (wpAny_bind ?_))
  have h : tDcT wi g tt tk tv (own.map (·.2)) σ H (fun x H1 => gName i x σ H1 D.nx) := h
  show wpAny _ X.A (do let _ ← comprehension (.DictComp kx vx [⟨tg, iter, ifs, 0⟩] scope pos) scope X.env (firstIterPos [⟨tg, iter, ifs, 0⟩] pos) newDict false (eval iter X.env) (some (assign (.Name y py) X.env))) _ _ s
  refine wpAny_bind (thn (dc_coreT (Qf := fun _ s' => SP X pins D .next s') hu hc hN hi ok hg ht hk he hs I h fun L C s' m H' I' q hn f => ?_) fun _ s' hq => wpAny_pure (wpAny_pure hq))
  show wpAny _ _ (assign (.Name y py) X.env (.ref L)) _ _ _
  refine wpAny_assign_Name (store_ok2 (v := V.ref L) I' hN hy (.inl hyl) rfl (fun s2 I2 ⟨a, sb, ha⟩ => ?_) (.inr hyl))
  obtain ⟨f0, f1, f2, f3, f4, f5⟩ := f
  have haC : C ≠ a := by
    rcases ha with z | z
    · rw [z]; exact f1
    · exact fun e => f4 y a z e.symm
  exact ⟨m, hn.sameBut sb haC, fun h3 sb3 => ⟨_, H', I2.turned (t' := s2.toks) (fun b o hb e => (sb3.2 b hb).trans e) f0 f1 f3 f4 f5, q⟩⟩
theorem axs_setDc (own : List (Str × Nat)) {i : Nat} {y : Str} {py pos spos : Pos} {kx vx tg iter : Expr} {ifs : List Expr} {scope : Scope} {ai : AI} {ag : AG} {xt : AT} {ak ae : AE} (C : CxE X W k) (ok : BlkOk X.N X.env.scope scope own) (hi : AXI X W tg iter ai)
    (hg : ∀ (s : Shared) (H : Hp) (C : Addr) (cl : List (Str × Addr)) (fp : List Addr), AXGc (X.blk s H scope (compEnvC scope cl C X.env) fp) (own.map (·.2)) tg ag) (ht : ∀ (s : Shared) (H : Hp) (C : Addr) (cl : List (Str × Addr)) (fp : List Addr), AXTs (X.blk s H scope (compEnvC scope cl C X.env) fp) W0 ifs xt)
    (hk : ∀ (s : Shared) (H : Hp) (C : Addr) (cl : List (Str × Addr)) (fp : List Addr), AX (X.blk s H scope (compEnvC scope cl C X.env) fp) W0 kx ak)
    (he : ∀ (s : Shared) (H : Hp) (C : Addr) (cl : List (Str × Addr)) (fp : List Addr), AX (X.blk s H scope (compEnvC scope cl C X.env) fp) W0 vx ae)
    (hsw : swapsWith (.DictComp kx vx [⟨tg, iter, ifs, 0⟩] scope pos) (some (.Name y py)) spos.line X.env = pure true := by exact swD_true rfl rfl rfl (by decide +kernel)) (hy : X.N[i]? = some y := by rfl) (hyl : X.env.scope.names.lookup y = some .local := by rfl) (hs : ∀ x, foldedSetIterable iter X.env x = pure x := by intro _; rfl) :
    AXS X W (.Assign [.Name y py] (.DictComp kx vx [⟨tg, iter, ifs, 0⟩] scope pos) spos) (sCellD (fDc ai ag xt ak ae (own.map (·.2))) i) := by
  obtain ⟨t, p, r⟩ := hi
  exact ⟨_, ps_setDcT (i := i) (by have := u64 C.room; omega) C.calm C.nd hy hyl hsw p ok (fun s H C cl fp => (hg s H C cl fp).pg) (fun s H C cl fp => (ht s H C cl fp).pts) (fun s H C cl fp => (hk s H C cl fp).pe) (fun s H C cl fp => (he s H C cl fp).pe) hs, refS_cellD (refD_dc r rdG_ref rdG_stays rdT_ref rdE_ref rdE_ref)⟩
theorem axs_cellD {i : Nat} {x : Str} {e : Expr} {af : AFd} {pos pos' : Pos} (hN : X.N.Nodup) (h : AXD X W e af) (hi : X.N[i]? = some x := by rfl) (hx : Loc X.env.scope x := by first | exact Or.inl rfl | exact Or.inr rfl) (hs : swapsWith e (some (.Name x pos')) pos.line X.env = pure false := by rfl) (hf : X.fn x = true ∨ X.env.scope.names.lookup x = some .local := by first | exact .inl rfl | exact .inr rfl) :
    AXS X W (.Assign [.Name x pos'] e pos) (sCellD af i) := by
  obtain ⟨t, p, r⟩ := h
  exact ⟨_, ps_set hN hi hx p hs hf, refS_cellD r⟩
end
/-! ### list(range(n)) -/
def fLRng (a : AE) : AFr := fun env st q er => a env st (fun x s1 => ∃ n : Int, x = .int n ∧ 0 ≤ n ∧ n ≤ 100000 ∧ q ((List.range n.toNat).map fun (i : Nat) => D.int (i : Int)) s1) er
theorem reps_rg {K : PySem.W.Frag} {G : Gh} {n : Int} : Reps K G ((List.range n.toNat).map fun (i : Nat) => D.int (i : Int)) (rgV 0 n) := by
  have e1 : ((List.range n.toNat).map fun (i : Nat) => D.int (i : Int)) = ((List.range n.toNat).map fun (i : Nat) => (i : Int)).map D.int := by rw [List.map_map]; rfl
  have e2 : rgV 0 n = ((List.range n.toNat).map fun (i : Nat) => (i : Int)).map V.int := by
    unfold rgV
    rw [List.map_map]
    simp
  rw [e1, e2]
  exact Reps.ints _
section
variable {X : Cx} {W : WX} {k : Nat} {a o e : Expr} {ae ao : AE} {p p2 pos pos2 apos : Pos}
theorem axf_lrng (C : CxE X W k) (hm : X.mg "list" = none) (hmr : X.mg "range" = none) (h : AX X W a ae) (hg : Gl X "list" := by rfl) (hgr : Gl X "range" := by rfl) (na : starEach [a] X.env = (false, eval a X.env) :: starEach [] X.env := by rfl)
    (na2 : starEach [.Call (.Name "range" p2) [a] [] pos2] X.env = (false, eval (.Call (.Name "range" p2) [a] [] pos2) X.env) :: starEach [] X.env := by rfl) : AXF X W (.Call (.Name "list" p) [.Call (.Name "range" p2) [a] [] pos2] [] pos) (fLRng ae) := by
  obtain ⟨t, pe, r⟩ := h
  refine ⟨_, pe_listRg C.calm hg hm (prg_1 hgr hmr pe na) na2, fun G env st σ H Q q er s l h tE tX => r G env st σ H _ _ er s l h (fun v d st1 G1 H1 p1 s1 r1 h1 => ?_) tX⟩
  obtain ⟨n, rfl, h0, h2, h1⟩ := h1
  cases r1
  refine ⟨n, rfl, RgOk.of_le (by omega) (by omega) (by omega) h0, fun a hp => ?_⟩
  obtain ⟨s2, p2, np, gp⟩ := s1.room (o := .lst (rgV 0 n)) hp
  exact tE _ _ st1 _ _ (p1.trans p2) s2 (ResOk.on p1 ⟨a, _, rfl, upd_same, gp, np, hp, reps_rg⟩) h1
/-! ### l.index(x) -/
def aIdx (o a : AE) : AE := fun env st q er => o env st (fun x s1 => (∃ l, vw s1 x = .lst l) ∧ a env s1 (fun y s2 => ∃ l j z, vw s2 x = .lst l ∧ (D.lst l).shp ∧ (vw s2 y).shp ∧ l[j]? = some z ∧ D.eqv z (vw s2 y) = true ∧ (∀ (m : Nat) (z' : D), m < j → l[m]? = some z' → D.eqv z' (vw s2 y) = false) ∧ q (.int (j : Nat)) s2) er) er
theorem pys_map : ∀ l : List D, D.pys l = l.map D.py
  | [] => by rw [D.pys]; rfl
  | x :: xs => by rw [D.pys, pys_map xs]; rfl
theorem plains_mem : ∀ {l : List D}, D.plains l = true → ∀ x ∈ l, x.plain = true
  | [], _, _, h => by cases h
  | y :: ys, h, x, hx => by
    rw [D.plains, Bool.and_eq_true] at h
    rcases List.mem_cons.mp hx with rfl | hx
    · exact h.1
    · exact plains_mem h.2 x hx
theorem refE_idx {K : PySem.W.Frag} {to te : TE} (ho : RefE K W to ao) (he : RefE K W te ae) : RefE K W (tBM K "list" (rIndexD K) to (tCons te tNil)) (aIdx ao ae) := fun G env st σ H Q q er s l h tE tX => by
  refine ho G env st σ H _ _ er s l h (fun v d st1 G1 H1 p1 s1 r1 h1 => ?_) tX
  obtain ⟨⟨l0, hl0⟩, h1⟩ := h1
  have rv := r1.vw s1
  rw [hl0] at rv
  cases rv with
  | lst hp rs =>
    rename_i pp vs
    refine ⟨Or.inl ⟨rfl, _, Or.inl (Or.inl hp)⟩, he G1 env st1 σ H1 _ _ er s1 (l.mono p1.le) h1 (fun w d2 st2 G2 H2 p2 s2 r2 h2 => ?_) (tX.on p1)⟩
    obtain ⟨l2, j, z, hl2, hsl, hsy, hj, he1, he2, h2⟩ := h2
    have rv2 := (r1.mono p2.le).vw s2
    have ry := r2.vw s2
    rw [hl2] at rv2
    have dl := rv2.dp s2.ex hsl.1
    have dy := ry.dp s2.ex hsy.1
    rw [D.py] at dl
    have pl : ∀ x ∈ l2, x.plain = true := plains_mem (by have := hsl.1; rw [D.plain] at this; exact this)
    have sl := D.shaped hsl
    rw [D.py] at sl
    refine ⟨pp, w, _, _, j, z.py, rfl, rfl, dl, dy, sl, D.shaped hsy, by rw [pys_map, List.getElem?_map, hj]; rfl, ?_, fun m z' hm hz => ?_, tE _ _ st2 G2 H2 (p1.trans p2) s2 (.int _) h2⟩
    · rw [D.py_eqv (pl z (List.mem_of_getElem? hj)) hsy.1]; exact he1
    · rw [pys_map, List.getElem?_map] at hz
      cases hz2 : l2[m]? with
      | none => rw [hz2] at hz; cases hz
      | some y =>
        rw [hz2] at hz
        obtain rfl : y.py = z' := Option.some.inj hz
        rw [D.py_eqv (pl y (List.mem_of_getElem? hz2)) hsy.1]
        exact he2 m y hm hz2
theorem ax_idx (C : CxE X W k) (ho : AX X W o ao) (he : AX X W e ae) (hbase : attributeBase o "index" X.env (eval o X.env) = eval o X.env := by rfl)
    (hfew : ((backTo pos (starEach [e] X.env)).all (fun x => !x.1) && (backToKw pos (keywordEach [] X.env)).all (fun x => x.1.isSome) && decide (([e] : List Expr).length + ([] : List Keyword).length + (if ([] : List Keyword).isEmpty then 0 else 1) < 30)) = true := by rfl)
    (hline : (apos.endLine == pos.line) = true := by rfl) (hs : starEach [e] X.env = (false, eval e X.env) :: starEach [] X.env := by rfl) : AX X W (.Call (.Attribute o "index" apos) [e] [] pos) (aIdx ao ae) := by
  obtain ⟨to, po, ro⟩ := ho
  obtain ⟨te, pe, re⟩ := he
  exact ⟨_, pe_bm PySem.F.plainAttrs_list PySem.F.slot_list_index PySem.F.type_list_index (mt_indexD (by have := u64 C.room; omega)) po (pa_cons pe pa_nil hs) hbase hfew hline hs rfl, refE_idx ro re⟩
end
end AM
set_option Elab.async false
set_option linter.all false
set_option maxRecDepth 100000
set_option maxHeartbeats 4000000
namespace AM
open PySem PySem.Spec PyProof.Rows L2 Evl
/-! ### l[::-1] -/
def aRev (a : AE) : AE := fun env st q er => a env st (fun x s1 => ∃ l, vw s1 x = .lst l ∧ q (.lst l.reverse) s1) er
theorem Reps.reverse {K : PySem.W.Frag} {G : Gh} : ∀ {l : List D} {vs : List V}, Reps K G l vs → Reps K G l.reverse vs.reverse
  | _, _, .nil => .nil
  | _ :: _, _ :: _, .cons h r => by
    rw [List.reverse_cons, List.reverse_cons]
    exact (Reps.reverse r).append (.cons h .nil)
section
variable {X : Cx} {W : WX} {k : Nat}
theorem ax_rev {e : Expr} {ae : AE} {k1 : Nat} {p1 p2 p3 pos : Pos} (h : AX X W e ae) : AX X W (.Subscript e (.Slice none none (some (.UnaryOp .USub (.Constant (.int 1) k1 p1) p2)) p3) pos) (aRev ae) := by
  obtain ⟨t, pe, r⟩ := h
  refine ⟨_, pe_revL pe, fun G env st σ H Q q er s l h tE tX => r G env st σ H _ _ er s l h (fun v d st1 G1 H1 p1 s1 r1 h1 => ?_) tX⟩
  obtain ⟨l0, hl, h1⟩ := h1
  have rv := r1.vw s1
  rw [hl] at rv
  cases rv with
  | lst hp rs =>
    refine ⟨_, _, rfl, SqL.of hp, fun a ha => ?_⟩
    obtain ⟨s4, p4⟩ := s1.new (o := .lst (List.reverse _)) ha
    exact tE _ _ st1 _ _ (p1.trans p4) s4 (.lst upd_same ((Reps.reverse rs).mono p4.le)) h1
/-! ### list * int -/
def oRep : O2 := fun x y q => ∃ l k, x = .lst l ∧ y = .int k ∧ 0 ≤ k ∧ k ≤ 100000 ∧ l.length * k.toNat ≤ 100000 ∧ q (.lst (List.replicate k.toNat l).flatten)
theorem Reps.rep {K : PySem.W.Frag} {G : Gh} {l : List D} {vs : List V} (r : Reps K G l vs) : ∀ n : Nat, Reps K G (List.replicate n l).flatten (List.replicate n vs).flatten
  | 0 => .nil
  | n + 1 => by
    rw [List.replicate_succ, List.replicate_succ, List.flatten_cons, List.flatten_cons]
    exact r.append (Reps.rep r n)
theorem op_Rep : OpR X (binaryOp .Mult) rRep ∧ RefO X.K rRep oRep := ⟨op_rep, fun G st H x y dx dy Q q s rx ry h t => by
  obtain ⟨l, k, rfl, rfl, h0, h1, h2, h⟩ := h
  cases rx with
  | lst hp rs =>
    cases ry
    exact ⟨_, k, _, rfl, rfl, hp, by omega, by omega, sz_of (by rw [← rs.length]; exact h2), fun p hp' => t.newL s (Reps.rep rs k.toNat) h hp'⟩⟩
/-! ### n += .. -/
abbrev oInc : O2 := oI fun i j => .int (i + j)
theorem ip_Add : PIp X .Add (rI0 fun i j => .int (i + j)) ∧ RefO X.K (rI0 fun i j => .int (i + j)) oInc := ⟨ip_add, ref_i fun _ _ _ => .int _⟩
theorem ip_Sub : PIp X .Sub (rI0 fun i j => .int (i - j)) ∧ RefO X.K (rI0 fun i j => .int (i - j)) oSub := ⟨ip_sub, ref_i fun _ _ _ => .int _⟩
theorem ip_Mul : PIp X .Mult (rI CMulW fun i j => .int (i * j)) ∧ RefO X.K (rI CMulW fun i j => .int (i * j)) oMul := ⟨(opI fun _ _ _ _ _ _ _ hc q => imul_int q hc.ok : OpR X (inplaceOp .Mult) (rI CMulW fun i j => .int (i * j))), ref_ic fun _ _ _ => .int _⟩
end
/-! ### dict([(key, value), ..]), the keys tuples that differ -/
def PairsAt (H : Hp) : List V → List (List Key) → List V → Prop
  | [], [], [] => True
  | x :: xs, k :: ks, y :: ys => (∃ T b, x = .ref T ∧ H T = some (.tup [.ref b, y]) ∧ H b = some (.tup (k.map kV))) ∧ PairsAt H xs ks ys
  | _, _, _ => False
theorem PairsAt.len {H : Hp} : ∀ {xs : List V} {ks : List (List Key)} {ys : List V}, PairsAt H xs ks ys → xs.length = ks.length ∧ ys.length = ks.length
  | [], [], [], _ => ⟨rfl, rfl⟩
  | _ :: _, _ :: _, _ :: _, h => ⟨congrArg Nat.succ h.2.len.1, congrArg Nat.succ h.2.len.2⟩
  | [], [], _ :: _, h => h.elim
  | [], _ :: _, _, h => by cases h
  | _ :: _, [], _, h => by cases h
  | _ :: _, _ :: _, [], h => h.elim
def tDictP (K : PySem.W.Frag) (ta : TA) : TE := fun σ H Q => ta σ H fun vs H1 => ∃ (a : Addr) (xs ys : List V) (ks : List (List Key)), vs = [.ref a] ∧ SqL K H1 a xs ∧ PairsAt H1 xs ks ys ∧ ks.Nodup ∧ ∀ p, H1 p = none → Q (.ref p) (upd H1 p (.dT (ks.zip ys)))
section
variable {X : Cx}
theorem pairs_addrs {pins : List (Addr × Obj)} {σ : L2.St} {H : Hp} {s : Shared} (I : Inv X pins σ H s) : ∀ {xs : List V} {ks : List (List Key)} {ys : List V} {its : List Value}, PairsAt H xs ks ys → Vals xs its → ∃ (ts bs : List Addr) (us : List Value), its = ts.map Value.ref ∧ ts.length = ks.length ∧ bs.length = ks.length ∧ us.length = ks.length ∧ Vals ys us ∧ (∀ (i : Nat) (k : List Key) (b : Addr), ks[i]? = some k → bs[i]? = some b → H b = some (.tup (k.map kV))) ∧
    ∀ (j : Nat) (t b : Addr) (u : Value), ts[j]? = some t → bs[j]? = some b → us[j]? = some u → s.heap.IsTuple t #[.ref b, u]
  | [], [], [], _, _, .nil => ⟨[], [], [], rfl, rfl, rfl, rfl, .nil, fun i k b h => by simp at h, fun j t b u h => by simp at h⟩
  | x :: xs, k :: ks, y :: ys, _, h, .cons r rs => by
    obtain ⟨⟨T, b, rfl, hT, hb⟩, h2⟩ := h
    obtain ⟨ts, bs, us, rfl, l1, l2, l3, hv, hk, ht⟩ := pairs_addrs I h2 rs
    cases r
    obtain ⟨its', r', p', _⟩ := I.tuple (SqT.of hT)
    cases r' with
    | cons ra rb =>
      cases rb with
      | cons ry rn =>
        rename_i u _
        cases rn
        cases ra
        refine ⟨T :: ts, b :: bs, _ :: us, rfl, by simp [l1], by simp [l2], by simp [l3], .cons ry hv, fun i k' b' e1 e2 => ?_, fun j t b' u' e1 e2 e3 => ?_⟩
        · cases i with
          | zero => simp at e1 e2; subst e1 e2; exact hb
          | succ i => exact hk i k' b' (by simpa using e1) (by simpa using e2)
        · cases j with
          | zero => simp at e1 e2 e3; subst e1 e2 e3; exact p'
          | succ j => exact ht j t b' u' (by simpa using e1) (by simpa using e2) (by simpa using e3)
  | [], [], _ :: _, _, h, _ => h.elim
  | _ :: _, _ :: _, [], _, h, _ => h.elim
theorem pe_dictPairs {e : Expr} {ta : TA} {p pos : Pos} (hc : X.calm = true) (hu : X.A.units + 4 < cLine) (hg : Gl X "dict") (hm : X.mg "dict" = none) (ha : PA X [e] ta)
    (hs0 : starEach [e] X.env = (false, eval e X.env) :: starEach [] X.env := by rfl) (hpl0 : (backTo pos (starEach [] X.env)).any (·.1) = false := by rfl) :
    PE X (.Call (.Name "dict" p) [e] [] pos) (tDictP X.K ta) := by
  refine ⟨fun pins s σ H Q I h => ?_⟩
  refine Call_ (ld_blt I hg hm PyProof.Rows.boot_dict (PyProof.Rows.callWith_type1 (thn (ha.run pos pins s σ H _ I h) fun us s1 ⟨vs, H1, I1, r1, q1⟩ => ?_) hs0 hpl0))
  obtain ⟨a, xs, ys, ks, ex, hqx, hk, hnd, q⟩ := q1
  subst ex
  cases r1 with
  | cons r rr =>
    cases rr
    cases r
    obtain ⟨its, rv, pl, hz⟩ := I1.list hqx
    obtain ⟨ts, bs, us, rfl, l1, l2, l3, hv, hbk, htt⟩ := pairs_addrs I1 hk rv
    obtain ⟨lx, ly⟩ := hk.len
    generalize hps : (ks.zip (bs.zip us) : List (List Key × Addr × Value)) = ps
    have psl : ps.length = ks.length := by rw [← hps]; simp; omega
    have psk : ps.map (·.1) = ks := by rw [← hps, List.map_fst_zip (by simp; omega)]
    have pget : ∀ (i : Nat) (k : List Key) (c : Addr) (v : Value), ps[i]? = some (k, c, v) ↔ (ks[i]? = some k ∧ bs[i]? = some c ∧ us[i]? = some v) := by
      intro i k c v
      rw [← hps, List.getElem?_zip_eq_some]
      simp only [List.getElem?_zip_eq_some]
    have P := PairArg.list (prog := X.prog) (w := X.w) a (ts.map Value.ref).toArray (fun j => ts[j]?.getD 0) ((bs.map Value.ref).zip us)
    have nl : ((bs.map Value.ref).zip us).length = ks.length := by simp; omega
    refine call_dict_pairsH (knd := tupleKind (mixKind X.prog X.w)) (ps := ps) P (I1.ok.hd hc) (show X.A.in1.in1.units < cLine by have : X.A.in1.in1.units = X.A.units + 2 := rfl; omega) ⟨pl, by simp; omega, fun j k v hj => ?_⟩ ⟨by rw [nl, psl], fun i key v hrel => ?_⟩ (fun h3 hk3 x hx => ?_) (by rw [nl]; omega) fun h3 tk hd hk3 => ?_
    · rw [List.getElem?_zip_eq_some, List.getElem?_map] at hj
      obtain ⟨e1, e2⟩ := hj
      have hj3 : j < ts.length := by have := (List.getElem?_eq_some_iff.mp e2).1; omega
      cases hb : bs[j]? with
      | none => rw [hb] at e1; cases e1
      | some b =>
        rw [hb] at e1
        obtain rfl : Value.ref b = k := Option.some.inj e1
        have et : ts[j]? = some ts[j] := List.getElem?_eq_getElem hj3
        refine ⟨by simp [et], .inl ?_⟩
        show s1.heap.IsTuple (ts[j]?.getD 0) #[Value.ref b, v]
        rw [et]
        exact htt j _ b v et hb e2
    · have hrel : ((bs.map Value.ref).zip us)[i]? = some (key, v) := hrel
      rw [List.getElem?_zip_eq_some, List.getElem?_map] at hrel
      obtain ⟨e1, e2⟩ := hrel
      cases hb : bs[i]? with
      | none => rw [hb] at e1; cases e1
      | some c =>
        rw [hb] at e1
        obtain rfl : Value.ref c = key := Option.some.inj e1
        have hik : i < ks.length := by have := (List.getElem?_eq_some_iff.mp hb).1; omega
        exact ⟨ks[i], c, (pget i _ _ _).mpr ⟨List.getElem?_eq_getElem hik, hb, e2⟩, rfl⟩
    · obtain ⟨i, hi⟩ := List.mem_iff_getElem?.mp hx
      obtain ⟨e1, e2, _⟩ := (pget i x.1 x.2.1 x.2.2).mp hi
      obtain ⟨o, its, n, g1, g2⟩ := key_of (P := X.prog) (w := X.w) I1.hok (hbk i _ _ e1 e2)
      exact ⟨o, its, n, hk3 _ _ (Nat.ne_of_lt (Heap.lt_size g1)) (by simp) g1, g2⟩
    · rw [storedAll_nodup ps [] (by simpa [psk] using hnd), List.nil_append] at hd
      have keep : ∀ c o, s1.heap.get? c = some o → h3.get? c = some o := fun c o g => hk3 c o (by simp) g
      have hH : H1 s1.heap.objs.size = none := I1.hok.fresh (Nat.le_refl _)
      obtain ⟨o, es, ep, g1, g2, g3, g4, _, g5⟩ := hd
      refine ⟨.ref s1.heap.objs.size, _, I1.laid (t' := tk) (a := s1.heap.objs.size) (o := .dT (ks.zip ys)) keep (Nat.le_refl _) ?_, rfl, q _ hH⟩
      refine ⟨by simp; omega, ?_, ps, ?_, o, es, ep, g1, g2, g3, g4, g5⟩
      · exact beq_eq_false_iff_ne.mpr (Nat.ne_of_gt I1.big)
      · rw [← hps]
        refine paired_zip hv (by omega) (by omega) fun i k c e1 e2 => ?_
        have hb := hbk i k c e1 e2
        rw [upd_ne (fun z => by rw [z, hH] at hb; cases hb)]
        exact hb
end
theorem pairsAt_of {K : PySem.W.Frag} {G : Gh} {H : Hp} (ex : Ex G.g H) : ∀ {ps : List (D × D)} {vs : List V}, Reps K G (ps.map fun p => D.tup [p.1, p.2]) vs → (∀ p ∈ ps, isKeyT p.1) → ∃ (ks : List (List Key)) (ys : List V), PairsAt H vs ks ys ∧ ps.map (·.1) = ks.map kT ∧ RepT K G ps (ks.zip ys)
  | [], _, .nil, _ => ⟨[], [], trivial, rfl, .nil⟩
  | (d, e) :: ps, v :: vs, .cons h r, hk => by
    obtain ⟨ks, ys, h1, e1, h2⟩ := pairsAt_of ex r fun k hm => hk k (by simp [hm])
    obtain ⟨k, e2⟩ := hk (d, e) (by simp)
    have e2 : d = kT k := e2
    subst e2
    cases h with
    | tup hp rs =>
      rename_i T vs'
      cases rs with
      | cons ra rb =>
        cases rb with
        | cons ry rn =>
          rename_i y _
          cases rn
          cases ra with
          | tup hp' rs' =>
            rename_i b ws
            have := reps_kD rs'
            subst this
            refine ⟨k :: ks, _ :: ys, ⟨⟨T, b, rfl, ex _ _ hp, ex _ _ hp'⟩, h1⟩, by simp [e1], .cons ry h2⟩
section
variable {X : Cx} {W : WX} {k : Nat} {e : Expr} {ae : AE} {p pos : Pos}
def fDPairs (a : AE) : AFd := fun env st q er => a env st (fun x s1 => ∃ ps : List (D × D), vw s1 x = .lst (ps.map fun p => D.tup [p.1, p.2]) ∧ (∀ p ∈ ps, isKeyT p.1) ∧ (ps.map (·.1)).Nodup ∧ q ps s1) er
theorem axd_pairs (C : CxE X W k) (hm : X.mg "dict" = none) (h : AX X W e ae) (hg : Gl X "dict" := by rfl)
    (hs0 : starEach [e] X.env = (false, eval e X.env) :: starEach [] X.env := by rfl) (hpl0 : (backTo pos (starEach [] X.env)).any (·.1) = false := by rfl) :
    AXD X W (.Call (.Name "dict" p) [e] [] pos) (fDPairs ae) := by
  obtain ⟨t, pe, r⟩ := h
  refine ⟨_, pe_dictPairs C.calm (by have := u64 C.room; omega) hg hm (pa_cons pe pa_nil hs0) hs0 hpl0, fun G env st σ H Q q er s sl a tE tX => ?_⟩
  refine r G env st σ H _ _ er s sl a (fun v d st2 G2 H2 p2 s2 r2 h2 => ?_) tX
  obtain ⟨ps, hl, hk, hnd, h2⟩ := h2
  have rx := r2.vw s2
  rw [hl] at rx
  cases rx with
  | lst ha rs =>
    obtain ⟨ks, ys, hks, ek, rt⟩ := pairsAt_of s2.ex rs hk
    rw [ek] at hnd
    refine ⟨_, _, ys, ks, rfl, SqL.of ha, hks, nodup_inv hnd, fun a hp => ?_⟩
    obtain ⟨s4, p4, na, ng⟩ := s2.room (o := .dT (ks.zip _)) hp
    refine tE _ _ st2 G2 _ (p2.trans p4) s4 ⟨a, rfl, ⟨_, upd_same, rt⟩, ng, na, ?_⟩ h2
    cases hh : H a with
    | none => rfl
    | some o => exact absurd hp (p2.m a (by rw [hh]; exact fun z => nomatch z))
end
end AM
set_option Elab.async false
set_option linter.all false
set_option maxRecDepth 100000
set_option maxHeartbeats 4000000
namespace AM
open PySem PySem.Spec PyProof.Rows L2 Evl
section
variable {X : Cx} {CX : CXT} {k : Nat} {f : Addr} {fd : FuncData} {ps : List Str} {sp : Sp} {E : L2.St → XK} {x : Str} {e : Expr} {es : List Expr} {t : TA} {p pos : Pos} {ds : List Value} {dvs : List V}
/-- f(x, .., *y) -/
theorem pe_callSt (F : FnOk X.prog X.w X.K X.mg X.base CX k f fd ps sp) (hr : Room k X.A) (hg : Gl X x) (hm : X.mg x = some (.ref f)) (hk : PySem.W.keepIn X.K (.ref f) = true) (hb : Binds X.K fd ps ds) (hd : Vals dvs ds) (hx : ∀ σ, PassesAt CX X σ (E σ))
    (ha : PA X (e :: es) t) (hdb : (x == ("__debug__" : Str)) = false := by decide) (he : starEach (e :: es) X.env = (false, eval e X.env) :: starEach es X.env := by rfl) (hst : (backTo pos (starEach es X.env)).any (·.1) = true := by rfl) :
    PE X (.Call (.Name x p) (e :: es) [] pos) (tCallSD sp dvs E t) := by
  refine ⟨fun pins s σ H Q I h => ?_⟩
  refine wpAny_Call_Name_kw (ld_glob I hg hm ?_ hdb)
  refine PySem.W.callWith_S2 (h₀ := X.base) I.ok.mod.kin hk (thn (ha.run pos pins s σ H _ I h) fun us s1 ⟨vs, H1, I1, r, q⟩ => ⟨I1.kIn, ?_⟩) he hst
  exact run_fnSD F hr hb hd (hx σ) I1 r q
end
section
variable {X : Cx} {W : WX} {k j : Nat} {f : Addr} {fd : FuncData} {ps : List Str} {m : AF} {x : Str} {e : Expr} {es : List Expr} {aa : AEs} {p pos : Pos} {dd : List D} {dvs : List V}
theorem ax_callSt (C : CxE X W k) (F : FnOk X.prog X.w X.K X.mg X.base (L2N.CX X.prog X.w) j f fd ps (SpA X.K m)) (hm : X.mg x = some (.ref f)) (hk : PySem.W.keepIn X.K (.ref f) = true) (hb : BindsD X.K fd ps dvs) (hdd : ∀ G, Reps X.K G dd dvs) (ha : AXA X W (e :: es) aa) (hj : j ≤ k)
    (hg : Gl X x := by rfl) (hdb : (x == ("__debug__" : Str)) = false := by decide) (he : starEach (e :: es) X.env = (false, eval e X.env) :: starEach es X.env := by rfl) (hst : (backTo pos (starEach es X.env)).any (·.1) = true := by rfl) : AX X W (.Call (.Name x p) (e :: es) [] pos) (aCall m aa dd) := by
  obtain ⟨t, p, r⟩ := ha
  obtain ⟨ds, hv, hb⟩ := hb
  exact ⟨_, pe_callSt F (C.room.mono hj) hg hm hk hb hv (fun σ => L2N.passAt C.takes σ) p hdb he hst, refE_call r hdd⟩
end
/-! ### l += list -/
def sExt (i : Nat) (a : AE) : AS := fun env st k => ∃ n, env[i]? = some (.d (.ref n)) ∧ a env st (fun y s1 => ∃ l l2, s1[n]? = some (.lst l) ∧ vw s1 y = .lst l2 ∧ l.length + l2.length ≤ 100000 ∧ k.nx (env.set i (.d (.ref n))) (s1.set n (.lst (l ++ l2)))) (fun e s1 => k.er e env s1)
section
variable {X : Cx} {K : PySem.W.Frag} {W : WX}
theorem refS_ext {i : Nat} {te : TE} {ae : AE} (he : RefE K W te ae) : RefS K W (tAug i te rExt2) (sExt i ae) := fun G env st σ H D k s l h t => by
  obtain ⟨n, ex, h⟩ := h
  obtain ⟨u, eu, ru⟩ := l.slot i _ ex
  refine ⟨u, eu, he G env st σ H _ _ _ s l h (fun v d st2 G2 H2 p2 s2 r2 q => ?_) (t.x l)⟩
  obtain ⟨ls, ls2, hn2, hv2, hlen, q⟩ := q
  cases ru with
  | ref ep =>
    rename_i pp
    obtain ⟨vs2, gp2, hp2, rs2⟩ := s2.cell n _ pp hn2 (pre_get p2.le.a ep)
    have rv := r2.vw s2
    rw [hv2] at rv
    cases rv with
    | lst hb rb =>
      obtain ⟨s3, p3⟩ := s2.setCell (n := n) (c' := .lst (ls ++ ls2)) (o := .lst (vs2 ++ _)) (pre_get p2.le.a ep) gp2 ⟨_, gp2, upd_same, rs2.append rb⟩
      exact ⟨pp, _, vs2, _, rfl, rfl, hp2, hb, sz_of (by rw [← rs2.length, ← rb.length]; exact hlen), t.nx _ _ _ G2 _ (p2.trans p3) s3 ((l.mono (p2.trans p3).le).set i (.ref (pre_get p2.le.a ep))) q⟩
theorem axs_ext {i : Nat} {x : Str} {e : Expr} {ae : AE} {pos pos' : Pos} (hN : X.N.Nodup) (h : AX X W e ae) (hi : X.N[i]? = some x := by rfl) (hx : Loc X.env.scope x := by first | exact Or.inl rfl | exact Or.inr rfl) (hf : X.fn x = true ∨ X.env.scope.names.lookup x = some .local := by first | exact .inl rfl | exact .inr rfl) :
    AXS X W (.AugAssign (.Name x pos') .Add e pos) (sExt i ae) := by
  obtain ⟨t, p, r⟩ := h
  exact ⟨_, ps_aug hN hi hx p (iop_ext : OpR X (inplaceOp .Add) rExt2) hf, refS_ext r⟩
end
end AM
set_option Elab.async false
set_option linter.all false
set_option maxRecDepth 100000
set_option maxHeartbeats 4000000
namespace AM
open PySem PySem.Spec PyProof.Rows L2 Evl
/-! ### own __iter__ that gives back iter(self.f), f a list -/
def spIt (K : PySem.W.Frag) (n : Nat) (C : Addr) (fld : Str) : Sp := fun vs H Q _ => ∃ a dx fs l zs, vs = [.ref a] ∧ H a = some (.ins C dx fs) ∧ Cls K C ∧ NoAttr K C fld ∧ fs.lookup fld = some (.ref l) ∧ SqL K H l zs ∧ ∀ it, H it = none → n ≤ it → Q (.ref it) (upd H it (ItO l it 0))
def rIterB (K : PySem.W.Frag) (n : Nat) : List V → Hp → VK → Prop := fun xs H Q => ∃ (l : Addr) (zs : List V), xs = [.ref l] ∧ SqL K H l zs ∧ ∀ it, H it = none → n ≤ it → Q (.ref it) (upd H it (ItO l it 0))
theorem call_iterB {X : Cx} : CallR X (.builtin "iter") (rIterB X.K X.base.objs.size) := by
  intro pins s σ H xs us Q I r h
  obtain ⟨l, zs, ex, hq, q⟩ := h
  exact ItX.call_iterN pins s σ H xs us Q I r ⟨l, zs, ex, hq, fun it h1 h2 => q it h1 (Nat.le_trans I.ok.bsz h2)⟩
/-- a heap with room that is taken by nothing -/
def padH (h : Heap) (n : Nat) : Heap := ⟨h.objs ++ Array.replicate (n - h.objs.size) ⟨.none, none, .freed, #[]⟩, h.life⟩
theorem padH_size {h : Heap} {n : Nat} (e : h.objs.size ≤ n) : (padH h n).objs.size = n := by
  unfold padH
  simp
  omega
theorem padH_get {h : Heap} {n b : Nat} : (padH h n).get? b = h.get? b := by
  unfold Heap.get? padH
  by_cases hb : b < h.objs.size
  · rw [Array.getElem?_append_left hb]
  · have e : h.objs[b]? = none := Array.getElem?_eq_none (by omega)
    rw [Array.getElem?_append_right (by omega), e, Array.getElem?_replicate]
    by_cases h2 : b - h.objs.size < n - h.objs.size
    · rw [if_pos h2]
    · rw [if_neg h2]
theorem env0_pad {P : Program} {w : World} {K : PySem.W.Frag} {mg : Str → Option Value} {base : Heap} {A : Around} {outer : List Env} {s : Shared} {H : Hp} (e : Env0 P w K mg base A outer s H) : Env0 P w K mg (padH base s.heap.objs.size) A outer s H := by
  have k : ∀ b o, base.get? b = some o → (padH base s.heap.objs.size).get? b = some o := fun b o h => by rw [padH_get]; exact h
  have ff : ∀ l : List Env, s.heap.FunFrames base l → s.heap.FunFrames (padH base s.heap.objs.size) l := by
    intro l
    induction l with
    | nil => exact fun _ => trivial
    | cons x xs ih =>
      rintro ⟨h1, ⟨L, o, h2, h3, h4⟩, h5⟩
      exact ⟨h1, ⟨L, o, h2, by rw [padH_get]; exact h3, h4⟩, ih h5⟩
  obtain ⟨mb, b1, b2⟩ := e.mod.blt
  exact ⟨e.frames, ⟨e.mod.kin.keeps k, e.mod.glob.keeps k, ⟨mb, b1.keeps k, b2⟩, e.mod.nolimit.keeps k⟩, fun b o h => e.bs b o (by rw [padH_get] at h; exact h), Nat.le_of_eq (padH_size e.bsz), ff _ e.funs, e.frf, e.hok, e.bare⟩
theorem fn_iter {P : Program} {w : World} {K : PySem.W.Frag} {mg : Str → Option Value} {base : Heap} {x qual : Str} {params : Arguments} {scope : Scope} {f : Addr} {fd : FuncData} {C : Addr} {fld : Str} {p1 p2 p3 p4 p5 : Pos}
    (F : FunD K x qual params [.Return (some (.Call (.Name "iter" p1) [.Attribute (.Name "self" p2) fld p3] [] p4)) p5] scope [] [] f fd) (S : FnScope ["self"] ["self"] scope) (hm : mg "iter" = none)
    (hg : ∀ (cdv : Value) (A : Around) (outer : List Env) (s : Shared) (H : Hp) (E : XK), Gl (cxOf (L2N.CX P w) P w K mg base ["self"] qual scope f cdv A outer s H E) "iter")
    (hv : Vis scope "self")
    (hb : ∀ env : Env, attributeBase (.Name "self" p2) fld env (eval (.Name "self" p2) env) = eval (.Name "self" p2) env := by intro _; rfl)
    (hst : ∀ env : Env, starEach [.Attribute (.Name "self" p2) fld p3] env = [(false, eval (.Attribute (.Name "self" p2) fld p3) env)] := by intro _; rfl) :
    FnOk P w K mg base (L2N.CX P w) 1 f fd ["self"] (spIt K base.objs.size C fld) := by
  refine F.ok (k := 0) S (fun vs H Q E h => ?_) (fun cdv A outer s H vs Q E hr h => ?_)
  · obtain ⟨a, dx, fs, l, zs, rfl, _⟩ := h; rfl
  · obtain ⟨a, dx, fs, l, zs, rfl, ha, hc, hn, hl, hq, q⟩ := h
    refine ⟨_, pss_one (ps_ret (pe_callB call_iterB (hg _ _ _ _ _ _) hm (by rfl) (pa_cons (pe_fld (pe_var (i := 0) rfl hv (by decide) (by decide)) (hb _)) pa_nil (by rw [hst]; rfl)) (by decide) (by decide) (by rw [hst]; rfl) (by rfl))), ?_⟩
    exact ⟨.ref a, rfl, a, C, dx, fs, .ref l, rfl, ha, hc, hn, hl, l, zs, rfl, hq, q⟩
def iOwn (K : PySem.W.Frag) (C : Addr) (fld : Str) (te : TE) : TI := fun σ H R => te σ H fun x H1 => ∃ a dx fs l zs, x = .ref a ∧ H1 a = some (.ins C dx fs) ∧ Cls K C ∧ NoAttr K C fld ∧ fs.lookup fld = some (.ref l) ∧ SqL K H1 l zs ∧ R (Itl K l) H1
theorem itlF0 {K : PySem.W.Frag} {a : Addr} : ItX.ItlF K a 0 = Itl K a := by
  unfold ItX.ItlF
  simp only [Nat.zero_add]
section
variable {X : Cx} {k : Nat} {f C : Addr} {fd : FuncData} {ps : List Str} {fld : Str} {e : Expr} {te : TE}
/-- the own __iter__ runs: an iterator that nobody holds -/
theorem run_iter {A' : Around} {pins : List (Addr × Obj)} {σ : L2.St} {H : Hp} {s : Shared} {Q : Value → Shared → Prop} {a dx l : Addr} {fs : List (Str × V)} {zs : List V} (F : ∀ base, FnOk X.prog X.w X.K X.mg base (L2N.CX X.prog X.w) k f fd ps (spIt X.K base.objs.size C fld)) (hr : Room k A') (hfr : A'.frames = X.A.frames) (hb : Binds X.K fd ps [])
    (hs : PySem.W.findIn X.K (.ref C) "__iter__" = some (some (.ref f))) (hfn : PySem.W.isFn X.K (.ref f) = true)
    (I : Inv X pins σ H s) (ha : H a = some (.ins C dx fs)) (hc : Cls X.K C) (hn : NoAttr X.K C fld) (hl : fs.lookup fld = some (.ref l)) (hq : SqL X.K H l zs)
    (h : ∀ (it : Addr) (s' : Shared), H it = none → s.heap.objs.size ≤ it → Inv X pins σ (upd H it (ItO l it 0)) s' → Q (.ref it) s') : wpAny (model X.prog X.w) A' (pyIter (.ref a)) Q X.xe s := by
  obtain ⟨mA, J, _⟩ := ins_get I.hok ha
  obtain ⟨od, J, _⟩ := J.look
  obtain ⟨m, hF⟩ := I.fr
  refine PySem.W.owit_iter hF I.ok.mod.kin J hs hfn ?_
  have e0 : Env0 X.prog X.w X.K X.mg X.base A' X.stack s H := by
    have e := I.env0
    exact ⟨by rw [hfr]; exact e.frames, e.mod, e.bs, e.bsz, e.funs, e.frf, e.hok, e.bare⟩
  have e1 := env0_pad e0
  have hsz : (padH X.base s.heap.objs.size).objs.size = s.heap.objs.size := padH_size e0.bsz
  have F := F (padH X.base s.heap.objs.size)
  rw [hsz] at F
  have hsp : spIt X.K s.heap.objs.size C fld [.ref a] H (fun v H' => ∃ it, v = .ref it ∧ H it = none ∧ s.heap.objs.size ≤ it ∧ H' = upd H it (ItO l it 0)) (fun _ _ _ => False) := ⟨a, dx, fs, l, zs, rfl, ha, hc, hn, hl, hq, fun it hi hg => ⟨it, rfl, hi, hg, rfl⟩⟩
  have hlen : [Value.ref a].length = ps.length := F.len _ _ _ _ hsp
  have b := hb s [.ref a] I.kIn (by rw [List.append_nil]; exact hlen)
  rw [List.append_nil] at b
  refine wpAny_call (codeAny_mono (F.run A' X.stack s H ⟨[.ref a], []⟩ [.ref a] [.ref a] _ _ hr e1 b (.cons rfl .nil) hsp) fun r s' hq => ?_)
  cases r with
  | error e =>
    obtain ⟨_, _, _, _, _, _, _, _, _, _, _, _, w⟩ := hq
    exact w.elim
  | ok fl =>
    cases fl with
    | next => exact False.elim hq
    | brk => exact False.elim hq
    | cont => exact False.elim hq
    | ret u =>
      obtain ⟨v2, H2, I2, rv2, it2, ev2, hi, hge, eH2⟩ := I.after hq
      subst ev2 eH2
      obtain rfl : u = Value.ref it2 := rv2
      show wpAny _ _ (specialOf (.ref it2) "__next__") _ _ s'
      have hT : s'.TypeIs (.ref it2) "list_iterator" := ⟨_, itO_get I2 upd_same, rfl⟩
      exact wpAny_specialOf (name := Str.ofString "__next__") hT slot_listiter_next.lookup (h it2 s' hi hge I2)
theorem pi_own {tg : Expr} (F : ∀ base, FnOk X.prog X.w X.K X.mg base (L2N.CX X.prog X.w) k f fd ps (spIt X.K base.objs.size C fld)) (hr : Room k X.A) (hb : Binds X.K fd ps [])
    (hs : PySem.W.findIn X.K (.ref C) "__iter__" = some (some (.ref f))) (hfn : PySem.W.isFn X.K (.ref f) = true) (he : PE X e te) : PI X tg e (iOwn X.K C fld te) := by
  refine ⟨fun pins s σ H R I h => thn (he.run pins s σ H _ I h) fun u s1 ⟨v, H1, I1, r1, a, dx, fs, l, zs, ev, ha, hc, hn, hl, hq, q⟩ => ?_⟩
  subst ev
  obtain rfl : u = Value.ref a := r1
  refine run_iter F hr rfl hb hs hfn I1 ha hc hn hl hq fun it s' hi hge I2 => ?_
  have eo := itO_get I2 (upd_same (H := H1) (a := it) (o := ItO l it 0))
  have st : s'.heap.IsListIter it l (0 + 0) := ⟨_, eo, rfl, rfl⟩
  have I3 := ItX.inv_drop (φ := fun h => h.get? it = some (GNX.itObj l 0)) I2 (by rw [upd_same]; rfl)
  have I4 := ItX.inv_fp I2 (upd_same (H := H1) (a := it) (o := ItO l it 0)) (Nat.le_trans I1.sz hge)
  rw [ItX.dropH_upd hi] at I3 I4
  refine ⟨it, [it], _, _, H1, rfl, I3, ItX.turn_listF l it 0, st, fun b hb => ?_, by rw [itlF0]; exact q⟩
  obtain rfl : b = it := by simpa using hb
  exact I4
end
/-- the items of an object that is walked by its list f -/
def itemsO (c f : Str) : D → Option (List D)
  | .obj c' fs => if c' = c then (match fs.lookup f with
    | some (.lst l) => some l
    | _ => none) else none
  | _ => none
def aIterO (c f : Str) (a : AE) : AI := fun env st q er => a env st (fun d s1 => ∃ l, itemsO c f d = some l ∧ q l [] s1) er
theorem rep_items {K : PySem.W.Frag} {G : Gh} {c f : Str} {d : D} {v : V} {l : List D} (r : Rep K G d v) (e : itemsO c f d = some l) : ∃ p dx fs a vs, v = .ref p ∧ G.g p = some (.ins (He.ga K c) dx fs) ∧ fs.lookup f = some (.ref a) ∧ G.g a = some (.lst vs) ∧ Reps K G l vs := by
  cases r with
  | obj hp rf =>
    rename_i c' p dx fs vs
    have e' : (if c' = c then (match fs.lookup f with
      | some (.lst l) => some l
      | _ => none) else none) = some l := e
    clear e
    have e := e'; clear e'
    split at e
    · rename_i ec
      subst ec
      split at e
      · rename_i l' el
        cases e
        obtain ⟨w, hw, rw'⟩ := rf.look el
        cases rw' with
        | lst ha rs => exact ⟨p, dx, vs, _, _, rfl, hp, hw, ha, rs⟩
      · cases e
    · cases e
  | _ => cases e
section
variable {X : Cx} {W : WX} {k j : Nat} {fa : Addr} {fd : FuncData} {ps : List Str} {c fld : Str} {e tg : Expr} {ae : AE}
theorem axi_own (C : CxE X W k) (F : ∀ base, FnOk X.prog X.w X.K X.mg base (L2N.CX X.prog X.w) j fa fd ps (spIt X.K base.objs.size (He.ga X.K c) fld)) (hb : BindsD X.K fd ps []) (hcl : Cls X.K (He.ga X.K c)) (hna : NoAttr X.K (He.ga X.K c) fld)
    (hs : PySem.W.findIn X.K (.ref (He.ga X.K c)) "__iter__" = some (some (.ref fa))) (hfn : PySem.W.isFn X.K (.ref fa) = true) (he : AX X W e ae) (hj : j ≤ k) : AXI X W tg e (aIterO c fld ae) := by
  obtain ⟨t, p, r⟩ := he
  obtain ⟨ds0, v0, hb⟩ := hb
  cases v0
  refine ⟨_, pi_own F (C.room.mono hj) hb hs hfn p, fun G env st σ H R q er s sl a t tX => r G env st σ H _ _ er s sl a (fun v d st2 G2 H2 p2 s2 r2 ⟨l, el, h2⟩ => ?_) tX⟩
  obtain ⟨p, dx, fs, a, vs, rfl, hp, hl, ha, rs⟩ := rep_items r2 el
  refine ⟨p, dx, fs, a, vs, rfl, s2.ex _ _ hp, hcl, hna, hl, SqL.of (s2.ex _ _ ha), t _ _ _ st2 G2 H2 p2 s2 (walks_seq fun G3 st3 H3 le s3 _ => ⟨vs, rs.mono le, SqL.of (s3.ex _ _ (le.g _ _ ha))⟩) h2⟩
end
end AM
set_option Elab.async false
set_option linter.all false
set_option maxRecDepth 100000
set_option maxHeartbeats 4000000
namespace AM
open PySem PySem.Spec PyProof.Rows L2 Evl
/-! ### fresh dicts: handed back, come from a call -/
def sRetD (f : AFd) : AS := fun env st k => f env st (fun l s1 => k.rt (.ownD l) s1) (fun e s1 => k.er e env s1)
section
variable {X : Cx} {W : WX} {e : Expr} {af : AFd} {pos p : Pos} {k j : Nat} {f : Addr} {fd : FuncData} {ps : List Str} {m : AF} {x : Str} {es : List Expr} {aa : AEs} {dd : List D} {dvs : List V}
theorem axs_retD (h : AXD X W e af) : AXS X W (.Return (some e) pos) (sRetD af) := by
  obtain ⟨t, p, r⟩ := h
  refine ⟨_, ps_ret p, fun G env st σ H D k s l a t => ?_⟩
  exact r G env st σ H _ _ _ s l a (fun v ds st2 G2 H2 p2 s2 r2 h2 => t.rt v (.ownD ds) st2 G2 H2 p2 s2 r2 h2) (t.x l)
theorem axd_call (C : CxE X W k) (F : FnOk X.prog X.w X.K X.mg X.base (L2N.CX X.prog X.w) j f fd ps (SpA X.K m)) (hm : X.mg x = some (.ref f)) (hk : PySem.W.keepIn X.K (.ref f) = true) (hb : BindsD X.K fd ps dvs) (hdd : ∀ G, Reps X.K G dd dvs) (ha : AXA X W (e :: es) aa) (hj : j ≤ k)
    (hg : Gl X x := by rfl) (hdb : (x == ("__debug__" : Str)) = false := by decide) (he : starEach (e :: es) X.env = (false, eval e X.env) :: starEach es X.env := by rfl) (hpl : (backTo pos (starEach es X.env)).any (·.1) = false := by rfl) : AXD X W (.Call (.Name x p) (e :: es) [] pos) (fdCall m aa dd) := by
  obtain ⟨t, p, r⟩ := ha
  obtain ⟨ds, hv, hb⟩ := hb
  refine ⟨_, pe_callSD F (C.room.mono hj) hg hm hk hb hv (fun σ => L2N.passAt C.takes σ) p hdb he hpl, fun G env st σ H Q q er s l h tE tX => ?_⟩
  refine r G env st σ H _ _ er s l h (fun vs ds st2 G2 H2 p2 s2 a2 h2 => ?_) tX
  refine ⟨G2, st2, _, _, er, s2, a2.append (hdd G2), h2, fun v r st3 G3 H3 p3 s3 r3 h3 => ?_, fun e c dx st3 G3 H3 p3 s3 ea h3 => tX e c dx st3 G3 H3 (p2.trans p3) s3 ea h3⟩
  cases r with
  | ownD l => exact tE v l st3 G3 H3 (p2.trans p3) s3 (r3.on p2) h3
  | _ => exact h3.elim
end
/-- a fresh list, a fresh dict, as a cell -/
def aCellL (f : AFr) : AE := fun env st q er => f env st (fun l s1 => q (.ref s1.length) (s1 ++ [.lst l])) er
def aCellD (f : AFd) : AE := fun env st q er => f env st (fun l s1 => q (.ref s1.length) (s1 ++ [.dic l])) er
section
variable {X : Cx} {W : WX} {e : Expr}
theorem ax_cellL {af : AFr} (h : AXF X W e af) : AX X W e (aCellL af) := by
  obtain ⟨t, p, r⟩ := h
  refine ⟨_, p, fun G env st σ H Q q er s l a tE tX => r G env st σ H _ _ er s l a (fun v ds st2 G2 H2 p2 s2 r2 h2 => ?_) tX⟩
  obtain ⟨G3, s3, p3, r3⟩ := own_cell s2 p2 r2
  exact tE v _ _ G3 H2 p3 s3 r3 h2
theorem ax_cellD {af : AFd} (h : AXD X W e af) : AX X W e (aCellD af) := by
  obtain ⟨t, p, r⟩ := h
  refine ⟨_, p, fun G env st σ H Q q er s l a tE tX => r G env st σ H _ _ er s l a (fun v ds st2 G2 H2 p2 s2 r2 h2 => ?_) tX⟩
  obtain ⟨G3, s3, p3, r3⟩ := ownd_cell s2 p2 r2
  exact tE v _ _ G3 H2 p3 s3 r3 h2
end
/-! ### the methods, by values -/
section
variable {X : Cx}
def rClearT : V → List V → Hp → VK → Prop := fun x xs H Q => ∃ a kvs, x = .ref a ∧ xs = [] ∧ H a = some (.dT kvs) ∧ Q .non (upd H a (.dT []))
theorem mt_clearT : MtR X "dict.clear" rClearT := by
  intro pins s σ H x xs v us Q I rx rxs h
  obtain ⟨a, kvs, rfl, rfl, ha, q⟩ := h
  cases rx
  cases rxs
  obtain ⟨z, hd, xs', rel, dd⟩ := dt_of I.hok ha
  have hz : (pairsH xs').length ≤ sizeLine := by rw [show (pairsH xs').length = xs'.length by simp [pairsH], ← Paired.length rel]; exact z
  refine clear_keyed (knd := tupleKind (mixKind X.prog X.w)) ⟨xs', dd, rfl⟩ (fun h' hm' hs => ?_) hz
  obtain ⟨ys, dd', e⟩ := hm'
  have ey : ys = [] := List.map_eq_nil_iff.mp e
  subst ey
  obtain ⟨o, es, ep, hq, h2, h3, h4, _, h5⟩ := dd'
  have I2 : Inv X pins σ (upd H a (.dT [])) { s with heap := h' } := d_write (t' := s.toks) I (by rw [ha]; exact True.intro) hs ⟨o, hq⟩ ⟨Nat.zero_le _, hd, [], .nil, o, es, ep, hq, h2, h3, h4, h5⟩
  exact ⟨.non, _, I2, rfl, q⟩
def rGetT : V → List V → Hp → VK → Prop := fun x xs H Q => ∃ (a : Addr) (kvs : List (List L2.Key × V)) (k : List L2.Key) (b : Addr) (d : V), x = .ref a ∧ xs = [.ref b, d] ∧ H a = some (.dT kvs) ∧ H b = some (.tup (k.map kV)) ∧ Q ((valV kvs k).getD d) H
theorem valueAt_pairs {κ : Type} [DecidableEq κ] (xs : List (κ × Addr × Value)) (k : κ) : valueAt (pairsH xs) k = (atKey xs k).map (·.2) := valueAt_pairsH xs k
theorem mt_getT (hu : X.A.units + 1 < cLine) : MtR X "dict.get" rGetT := by
  intro pins s σ H x xs v us Q I rx rxs h
  obtain ⟨a, kvs, k, b, d, rfl, rfl, ha, hb, q⟩ := h
  cases rx
  obtain ⟨u1, u2, rfl, r1, r2⟩ := vals2 rxs
  cases r1
  obtain ⟨z, hd, xs', rel, dd⟩ := dt_of I.hok ha
  refine getOr_keyed (knd := tupleKind (mixKind X.prog X.w)) (tupleKind_room_in1 hu) (key_of I.hok hb) hd ⟨xs', dd, rfl⟩ ?_
  rw [valueAt_pairsH]
  have r := rel.val k
  refine ⟨(valV kvs k).getD d, H, I.tok _, ?_, q⟩
  revert r
  cases valV kvs k <;> cases (atKey xs' k).map (·.2) <;> intro r
  · exact r2
  · exact (show False from r).elim
  · exact (show False from r).elim
  · exact r
end
/-! ### by data -/
inductive DGetD : List (D × D) → D → Option D → Prop
  | hit {l : List (D × D)} {k v : D} : DLook l k v → DGetD l k (some v)
  | miss {l : List (D × D)} {k : D} : (∀ p ∈ l, p.1 ≠ k) → DGetD l k none
theorem RepT.getD {K : PySem.W.Frag} {G : Gh} {l : List (D × D)} {kvs : List (List Key × V)} {k : List Key} {o : Option D} {d : D} {v : V} (r : RepT K G l kvs) (rd : Rep K G d v) (h : DGetD l (.tup (k.map kD)) o) : Rep K G (o.getD d) ((valV kvs k).getD v) := by
  generalize hk : D.tup (k.map kD) = kk at h
  cases h with
  | hit hl =>
    subst hk
    obtain ⟨w, e, rw'⟩ := r.look hl
    rw [e]; exact rw'
  | miss hm =>
    subst hk
    rw [r.none hm]; exact rd
/-- d.clear() -/
def aClrD (o : AE) : AE := fun env st q er => o env st (fun x s1 => ∃ n l, x = .ref n ∧ s1[n]? = some (.dic l) ∧ q .non (s1.set n (.dic []))) er
/-- d.get(k, x) -/
def aGetD (o a b : AE) : AE := fun env st q er => o env st (fun x s1 => (∃ l0, vw s1 x = .dic l0) ∧ a env s1 (fun y s2 => b env s2 (fun z s3 => ∃ l r, vw s3 x = .dic l ∧ isKeyT (vw s3 y) ∧ DGetD l (vw s3 y) r ∧ q (r.getD z) s3) er) er) er
/-- x.pop(), x.pop(i), x.clear(): lists -/
def aPopL (o : AE) : AE := fun env st q er => o env st (fun x s1 => ∃ n l y, x = .ref n ∧ s1[n]? = some (.lst l) ∧ l[l.length - 1]? = some y ∧ q y (s1.set n (.lst l.dropLast))) er
def aPopI (o a : AE) : AE := fun env st q er => o env st (fun x s1 => ∃ n l0, x = .ref n ∧ s1[n]? = some (.lst l0) ∧ a env s1 (fun j s2 => ∃ (i : Nat) (l : List D) (y : D), j = .int (i : Int) ∧ i < 2 ^ 63 ∧ s2[n]? = some (.lst l) ∧ l[i]? = some y ∧ q y (s2.set n (.lst (l.eraseIdx i)))) er) er
def aClrL (o : AE) : AE := fun env st q er => o env st (fun x s1 => ∃ n l, x = .ref n ∧ s1[n]? = some (.lst l) ∧ q .non (s1.set n (.lst []))) er
section
variable {K : PySem.W.Frag} {G : Gh}
theorem Reps.erase : ∀ {ds : List D} {vs : List V} (i : Nat), Reps K G ds vs → Reps K G (ds.eraseIdx i) (vs.eraseIdx i)
  | _, _, _, .nil => .nil
  | _, _, 0, .cons _ r => r
  | _, _, i + 1, .cons q r => .cons q (Reps.erase i r)
theorem Reps.dropLast : ∀ {ds : List D} {vs : List V}, Reps K G ds vs → Reps K G ds.dropLast vs.dropLast
  | _, _, .nil => .nil
  | _, _, .cons h .nil => .nil
  | _, _, .cons h (.cons h2 r) => .cons h (Reps.dropLast (.cons h2 r))
end
section
variable {X : Cx} {W : WX} {k : Nat} {o e e2 : Expr} {ao ae ab : AE} {pos apos : Pos}
theorem ax_clrD (ho : AX X W o ao) (hbase : attributeBase o "clear" X.env (eval o X.env) = eval o X.env := by rfl) (hline : (apos.endLine == pos.line) = true := by rfl) : AX X W (.Call (.Attribute o "clear" apos) [] [] pos) (aClrD ao) := by
  obtain ⟨t, p, r⟩ := ho
  refine ⟨_, pe_bm0 PySem.F.plainAttrs_dict PySem.F.slot_dict_clear PySem.F.type_dict_clear mt_clearT p hbase hline, fun G env st σ H Q q er s l h tE tX => ?_⟩
  refine r G env st σ H _ _ er s l h (fun v d st1 G1 H1 p1 s1 r1 h1 => ?_) tX
  obtain ⟨n, ls, rfl, hn, h1⟩ := h1
  cases r1 with
  | ref ep =>
    rename_i a
    obtain ⟨gp, kvs, hp, rk⟩ := s1.cell n _ a hn ep
    obtain ⟨s2, p2⟩ := s1.setCell (n := n) (c' := .dic []) (o := .dT []) ep gp ⟨gp, [], upd_same, .nil⟩
    exact ⟨Or.inr (Or.inr (Or.inl ⟨rfl, .inr ⟨_, hp⟩⟩)), a, kvs, rfl, rfl, hp, tE .non .non _ G1 _ (p1.trans p2) s2 .non h1⟩
theorem ax_clrL (ho : AX X W o ao) (hbase : attributeBase o "clear" X.env (eval o X.env) = eval o X.env := by rfl) (hline : (apos.endLine == pos.line) = true := by rfl) : AX X W (.Call (.Attribute o "clear" apos) [] [] pos) (aClrL ao) := by
  obtain ⟨t, p, r⟩ := ho
  refine ⟨_, pe_bm0 PySem.F.plainAttrs_list PySem.F.slot_list_clear PySem.F.type_list_clear mt_clear p hbase hline, fun G env st σ H Q q er s l h tE tX => ?_⟩
  refine r G env st σ H _ _ er s l h (fun v d st1 G1 H1 p1 s1 r1 h1 => ?_) tX
  obtain ⟨n, ls, rfl, hn, h1⟩ := h1
  cases r1 with
  | ref ep =>
    rename_i a
    obtain ⟨vs, gp, hp, rk⟩ := s1.cell n _ a hn ep
    obtain ⟨s2, p2⟩ := s1.setCell (n := n) (c' := .lst []) (o := .lst []) ep gp ⟨[], gp, upd_same, .nil⟩
    exact ⟨Or.inl ⟨rfl, _, Or.inl (Or.inl hp)⟩, a, vs, rfl, rfl, hp, tE .non .non _ G1 _ (p1.trans p2) s2 .non h1⟩
theorem ax_popL (ho : AX X W o ao) (hbase : attributeBase o "pop" X.env (eval o X.env) = eval o X.env := by rfl) (hline : (apos.endLine == pos.line) = true := by rfl) : AX X W (.Call (.Attribute o "pop" apos) [] [] pos) (aPopL ao) := by
  obtain ⟨t, p, r⟩ := ho
  refine ⟨_, pe_bm0 PySem.F.plainAttrs_list PySem.F.slot_list_pop PySem.F.type_list_pop mt_pop p hbase hline, fun G env st σ H Q q er s l h tE tX => ?_⟩
  refine r G env st σ H _ _ er s l h (fun v d st1 G1 H1 p1 s1 r1 h1 => ?_) tX
  obtain ⟨n, ls, y, rfl, hn, hy, h1⟩ := h1
  cases r1 with
  | ref ep =>
    rename_i a
    obtain ⟨vs, gp, hp, rk⟩ := s1.cell n _ a hn ep
    obtain ⟨w, hw, rw'⟩ := rk.get hy
    obtain ⟨s2, p2⟩ := s1.setCell (n := n) (c' := .lst ls.dropLast) (o := .lst vs.dropLast) ep gp ⟨_, gp, upd_same, rk.dropLast⟩
    exact ⟨Or.inl ⟨rfl, _, Or.inl (Or.inl hp)⟩, a, vs, w, rfl, rfl, hp, by rw [← rk.length]; exact hw, tE w y _ G1 _ (p1.trans p2) s2 (rw'.mono p2.le) h1⟩
theorem ax_popI (ho : AX X W o ao) (he : AX X W e ae) (hbase : attributeBase o "pop" X.env (eval o X.env) = eval o X.env := by rfl)
    (hfew : ((backTo pos (starEach [e] X.env)).all (fun x => !x.1) && (backToKw pos (keywordEach [] X.env)).all (fun x => x.1.isSome) && decide (([e] : List Expr).length + ([] : List Keyword).length + (if ([] : List Keyword).isEmpty then 0 else 1) < 30)) = true := by rfl)
    (hline : (apos.endLine == pos.line) = true := by rfl) (hs : starEach [e] X.env = (false, eval e X.env) :: starEach [] X.env := by rfl) : AX X W (.Call (.Attribute o "pop" apos) [e] [] pos) (aPopI ao ae) := by
  obtain ⟨to, po, ro⟩ := ho
  obtain ⟨te, pe, re⟩ := he
  refine ⟨_, pe_bm PySem.F.plainAttrs_list PySem.F.slot_list_pop PySem.F.type_list_pop mt_popAt po (pa_cons pe pa_nil hs) hbase hfew hline hs rfl, fun G env st σ H Q q er s l h tE tX => ?_⟩
  refine ro G env st σ H _ _ er s l h (fun v d st1 G1 H1 p1 s1 r1 h1 => ?_) tX
  obtain ⟨n, l0, rfl, hn, h1⟩ := h1
  cases r1 with
  | ref ep =>
    rename_i a
    obtain ⟨vs, gp, hp, rk⟩ := s1.cell n _ a hn ep
    refine ⟨Or.inl ⟨rfl, _, Or.inl (Or.inl hp)⟩, re G1 env st1 σ H1 _ _ er s1 (l.mono p1.le) h1 (fun w d st2 G2 H2 p2 s2 r2 h2 => ?_) (tX.on p1)⟩
    obtain ⟨i, ls, y, rfl, hi, hn2, hy, h2⟩ := h2
    cases r2
    obtain ⟨vs2, gp2, hp2, rk2⟩ := s2.cell n _ a hn2 (pre_get p2.le.a ep)
    obtain ⟨w, hw, rw'⟩ := rk2.get hy
    obtain ⟨s3, p3⟩ := s2.setCell (n := n) (c' := .lst (ls.eraseIdx i)) (o := .lst (vs2.eraseIdx i)) (pre_get p2.le.a ep) gp2 ⟨_, gp2, upd_same, rk2.erase i⟩
    have hil := (List.getElem?_eq_some_iff.mp hw).1
    refine ⟨a, vs2, (i : Int), i, w, rfl, rfl, hp2, by omega, by omega, ?_, hw, tE w y _ G2 _ ((p1.trans p2).trans p3) s3 (rw'.mono p3.le) h2⟩
    rw [seqIndex_of (by omega) (by simpa using hil)]
    simp
theorem ax_getD (C : CxE X W k) (ho : AX X W o ao) (he : AX X W e ae) (he2 : AX X W e2 ab) (hbase : attributeBase o "get" X.env (eval o X.env) = eval o X.env := by rfl)
    (hfew : ((backTo pos (starEach [e, e2] X.env)).all (fun x => !x.1) && (backToKw pos (keywordEach [] X.env)).all (fun x => x.1.isSome) && decide (([e, e2] : List Expr).length + ([] : List Keyword).length + (if ([] : List Keyword).isEmpty then 0 else 1) < 30)) = true := by rfl)
    (hline : (apos.endLine == pos.line) = true := by rfl) (hs : starEach [e, e2] X.env = (false, eval e X.env) :: starEach [e2] X.env := by rfl) (hs2 : starEach [e2] X.env = (false, eval e2 X.env) :: starEach [] X.env := by rfl) (hpl : (backTo pos (starEach [e2] X.env)).any (·.1) = false := by rfl) : AX X W (.Call (.Attribute o "get" apos) [e, e2] [] pos) (aGetD ao ae ab) := by
  obtain ⟨to, po, ro⟩ := ho
  obtain ⟨te, pe, re⟩ := he
  obtain ⟨tb, pb, rb⟩ := he2
  refine ⟨_, pe_bm PySem.F.plainAttrs_dict PySem.F.slot_dict_get PySem.F.type_dict_get (mt_getT (by have := u64 C.room; omega)) po (pa_cons pe (pa_cons pb pa_nil hs2) hs) hbase hfew hline hs hpl, fun G env st σ H Q q er s l h tE tX => ?_⟩
  refine ro G env st σ H _ _ er s l h (fun v d st1 G1 H1 p1 s1 r1 h1 => ?_) tX
  obtain ⟨⟨l0, e0⟩, h1⟩ := h1
  have rv := r1.vw s1
  rw [e0] at rv
  obtain ⟨a, kvs, ev, hp⟩ : ∃ a kvs, v = .ref a ∧ H1 a = some (.dT kvs) := by
    cases rv with
    | dicT hp rk => exact ⟨_, _, rfl, hp⟩
  subst ev
  refine ⟨Or.inr (Or.inr (Or.inl ⟨rfl, .inr ⟨_, hp⟩⟩)), re G1 env st1 σ H1 _ _ er s1 (l.mono p1.le) h1 (fun w d2 st2 G2 H2 p2 s2 r2 h2 => ?_) (tX.on p1)⟩
  have p12 := p1.trans p2
  refine rb G2 env st2 σ H2 _ _ er s2 (l.mono p12.le) h2 (fun w3 d3 st3 G3 H3 p3 s3 r3 h3 => ?_) (tX.on p12)
  have p13 := p12.trans p3
  obtain ⟨ls, o', e3, ⟨kk, ek⟩, hg, h3⟩ := h3
  have rx3 := (r1.mono (p2.trans p3).le).vw s3
  rw [e3] at rx3
  have ry3 := (r2.mono p3.le).vw s3
  rw [ek] at ry3 hg
  cases rx3 with
  | dicT hp3 rk3 =>
    cases ry3 with
    | tup hy rs _ =>
      have := reps_kD rs
      subst this
      exact ⟨a, _, kk, _, w3, rfl, rfl, hp3, hy, tE _ _ st3 G3 H3 p13 s3 (RepT.getD rk3 r3 hg) h3⟩
/-- d[k] = v, keys tuples: the value first -/
def sSetDx (o b a : AE) : AS := fun env st k => a env st (fun d s1 => o env s1 (fun x s2 => b env s2 (fun j s3 => ∃ n l l2, x = .ref n ∧ s3[n]? = some (.dic l) ∧ isKeyT (vw s3 j) ∧ l.length < 100000 ∧ DPutD l (vw s3 j) d l2 ∧ k.nx env (s3.set n (.dic l2))) (fun e s => k.er e env s)) (fun e s => k.er e env s)) (fun e s => k.er e env s)
theorem axs_setDx {a b : Expr} {aa : AE} {spos : Pos} (C : CxE X W k) (ha : AX X W a aa) (ho : AX X W o ao) (hb : AX X W b ab)
    (hg : ∀ v, assign (.Subscript o b spos) X.env v = (do
      let ov ← holding [v] (eval o X.env)
      let iv ← holding [v, ov] (eval b X.env)
      standAt spos
      holding [v, ov, iv] (setItem ov iv v)
      release [v, ov, iv] []) := by intro _; rfl)
    (hs : swapsWithSole [.Subscript o b spos] a pos.line X.env = pure false := by rfl) (hw : swappedStores [.Subscript o b spos] a X.env = pure none := by rfl) (h1 : (assignEach [.Subscript o b spos] X.env).map (·.2) = [assign (.Subscript o b spos) X.env] := by rfl) :
    AXS X W (.Assign [.Subscript o b spos] a pos) (sSetDx ao ab aa) := by
  obtain ⟨ta, pa, ra⟩ := ha
  obtain ⟨to, po, ro⟩ := ho
  obtain ⟨tb, pb, rb⟩ := hb
  refine ⟨_, ps_asg pa (pg_sub po pb (set_dict (by have := u64 C.room; omega)) hg) hs hw h1, fun G env st σ H D k s l h t => ?_⟩
  refine ra G env st σ H _ _ _ s l h (fun v d st1 G1 H1 p1 s1 r1 h1 => ?_) (t.x l)
  refine ro G1 env st1 σ H1 _ _ _ s1 (l.mono p1.le) h1 (fun w x st2 G2 H2 p2 s2 r2 h2 => ?_) ((t.x l).on p1)
  refine rb G2 env st2 σ H2 _ _ _ s2 (l.mono (p1.trans p2).le) h2 (fun u j st3 G3 H3 p3 s3 r3 h3 => ?_) ((t.x l).on (p1.trans p2))
  have p13 := (p1.trans p2).trans p3
  obtain ⟨n, ls, l2, rfl, hn, ⟨kk, ek⟩, hsz, hput, h3⟩ := h3
  cases r2 with
  | ref ep =>
    rename_i p
    have ep3 := pre_get p3.le.a ep
    obtain ⟨gp, kvs, hp, rk⟩ := s3.cell n _ p hn ep3
    have ry := r3.vw s3
    rw [ek] at ry hput
    cases ry with
    | tup hy rs _ =>
      have := reps_kD rs
      subst this
      obtain ⟨s4, p4⟩ := s3.setCell (n := n) (c' := .dic l2) (o := .dT (putK kvs kk v)) ep3 gp ⟨gp, _, upd_same, RepT.put (r1.mono (p2.trans p3).le) rk hput⟩
      exact ⟨p, _, rfl, DPut.t hp hy (sz_lt (by rw [← rk.length]; exact hsz)), t.nx env σ _ G3 _ (p13.trans p4) s4 (l.mono (p13.trans p4).le) h3⟩
end
/-! ### != of dicts -/
section
variable {prog : Program} {w : World} {K : Type} [DecidableEq K] {knd : HeapKind prog w K} {A : Around} {E : Value → Shared → Prop} {s : Shared}
theorem neH {a b : Addr} {xa xb : List (K × Addr × Value)} {r : Bool} {Q : Value → Shared → Prop} (hr : knd.room A.in1) (ha : (a == sysModules) = false) (hb : (b == sysModules) = false)
    (da : s.heap.DictOfH knd a xa) (db : s.heap.DictOfH knd b xb) (hu : A.units < cLine) (hits : xa.length = xb.length → HitsH A.in1 s xb xa r) (h : Q (.bool (!(xa.length == xb.length && r))) s) :
    wpAny (model prog w) A (compareOp .NotEq (.ref a) (.ref b)) Q E s := by
  have tb := typeIsH db
  have ta := typeIsH da
  refine wpAny_richCompare_same_room (op := .NotEq) ta tb PySem.F.slot_dict_ne (wpAny_call_entry PySem.F.slot_dict_ne ta PySem.F.entry_dict_ne ?_ (PySem.F.args_dict_ne_2 _ _)) hu
  show wpAny _ _ (Builtin.Dict.dictSlotArgs "__ne__" ⟨[.ref a, .ref b], []⟩ >>= _) _ _ s
  refine wpAny_bind ?_
  unfold Builtin.Dict.dictSlotArgs
  refine wpAny_bind (wpAny_notOrdered_dict ta (wpAny_pure ?_))
  refine wpAny_bind (wpAny_isInstance (T := "dict") tb PySem.F.sub_dict_dict ?_)
  simp only [Bool.not_true, Bool.false_eq_true, if_false]
  refine wpAny_bind (wpAny_pure (wpAny_bind (wpAny_pure (wpAny_bind (samePairsH hr ha hb da db hits (wpAny_pure ⟨_, rfl, ?_, ?_⟩))))))
  · exact fun x => nomatch x
  · simpa using h
end
def rNeT (K : PySem.W.Frag) : R2 := fun x y H Q => ∃ a b kvs kws r, x = .ref a ∧ y = .ref b ∧ H a = some (.dT kvs) ∧ H b = some (.dT kws) ∧ (kvs.length = kws.length → VHits K H kws kvs r) ∧ Q (.bl (!(kvs.length == kws.length && r))) H
def oEqD : O2 := fun x y q => ∃ l m b, x = .dic l ∧ y = .dic m ∧ (l.length = m.length → DHits m l b) ∧ q (.bl (l.length == m.length && b))
def oNeD : O2 := fun x y q => ∃ l m b, x = .dic l ∧ y = .dic m ∧ (l.length = m.length → DHits m l b) ∧ q (.bl (!(l.length == m.length && b)))
section
variable {X : Cx} {W : WX} {k : Nat}
theorem op_neT (hu : X.A.units + 65 < cLine) : OpR X (compareOp .NotEq) (rNeT X.K) := by
  intro pins s σ H x y v u Q I rx ry h
  obtain ⟨a, b, kvs, kws, r, rfl, rfl, ea, eb, hh, q⟩ := h
  obtain rfl : v = Value.ref a := rx
  obtain rfl : u = Value.ref b := ry
  obtain ⟨_, ha, xa, ra, da⟩ := dt_of I.hok ea
  obtain ⟨_, hb, xb, rb, db⟩ := dt_of I.hok eb
  have l1 := Paired.length ra
  have l2 := Paired.length rb
  have hu1 : X.A.in1.units + 64 < cLine := by show X.A.units + 1 + 64 < cLine; omega
  refine neH (show (tupleKind (mixKind X.prog X.w)).room X.A.in1 by show X.A.units + 1 < cLine; omega) ha hb da db (by omega) (r := r) (fun hl => hits_of hu1 I rb (by obtain ⟨_, _, _, _, _, _, _, _, hn⟩ := db; exact hn) ra (hh (by omega))) ?_
  rw [← l1, ← l2]
  exact ⟨.bl _, H, I, rfl, q⟩
theorem Rv.dicT' {K : PySem.W.Frag} {G : Gh} {H : Hp} {l : List (D × D)} {v : V} (r : Rv K G H (.dic l) v) : ∃ a kvs, v = .ref a ∧ H a = some (.dT kvs) ∧ RepT K G l kvs := by
  cases r with
  | dicT hp rk => exact ⟨_, _, rfl, hp, rk⟩
theorem op_EqD (C : CxE X W k) : OpR X (compareOp .Eq) (rEqT X.K) ∧ RefO X.K (rEqT X.K) oEqD := ⟨(op_EqT C).1, fun G st H x y dx dy Q q s rx ry h t => by
  obtain ⟨l, m, b, rfl, rfl, hh, h⟩ := h
  obtain ⟨a, kvs, rfl, ha, ra⟩ := rx.dicT'
  obtain ⟨a', kws, rfl, hb, rb⟩ := ry.dicT'
  refine ⟨a, a', kvs, kws, b, rfl, rfl, ha, hb, fun e => vhits s.ex rb ra (hh (by rw [ra.length, rb.length]; exact e)), ?_⟩
  rw [← ra.length, ← rb.length]
  exact t.here s (.bl _) h⟩
theorem op_NeD (C : CxE X W k) : OpR X (compareOp .NotEq) (rNeT X.K) ∧ RefO X.K (rNeT X.K) oNeD := ⟨op_neT (u64 C.room), fun G st H x y dx dy Q q s rx ry h t => by
  obtain ⟨l, m, b, rfl, rfl, hh, h⟩ := h
  obtain ⟨a, kvs, rfl, ha, ra⟩ := rx.dicT'
  obtain ⟨a', kws, rfl, hb, rb⟩ := ry.dicT'
  refine ⟨a, a', kvs, kws, b, rfl, rfl, ha, hb, fun e => vhits s.ex rb ra (hh (by rw [ra.length, rb.length]; exact e)), ?_⟩
  rw [← ra.length, ← rb.length]
  exact t.here s (.bl _) h⟩
end
end AM
set_option Elab.async false
set_option linter.all false
set_option maxRecDepth 100000
set_option maxHeartbeats 4000000
namespace AM
open PySem PySem.Spec PyProof.Rows L2 Evl
/-! ### sum of a list or of a tuple -/
section
variable {X : Cx} {W : WX} {k : Nat}
def rSumT (K : PySem.W.Frag) : List V → Hp → VK → Prop := fun vs H Q => rSum K vs H Q ∨ ∃ (a : Addr) (ns : List Int), vs = [V.ref a] ∧ SqT K H a (ns.map V.int) ∧ Q (.int ns.sum) H
theorem cr_sumT (hc : X.calm = true) : CallR X (.builtin "sum") (rSumT X.K) := by
  intro pins s σ H vs us Q I r h
  rcases h with h | ⟨a, ns, rfl, hs, q⟩
  · exact cr_sum hc pins s σ H vs us Q I r h
  · obtain ⟨its, rv, hl, _⟩ := I.tuple hs
    have hl' : s.heap.IsTuple a its.toArray := hl
    have hi : IntsAre its ns := rv.ints
    rw [Vals.ref1 r]
    obtain ⟨xs, hx⟩ := hi.allInts.items
    have hn : numsOf its.toArray.toList = ns := by rw [show its.toArray.toList = its from rfl, hi.numsOf]
    rw [hx] at hl' hn
    rw [nums_intItems] at hn
    refine PySem.W.ktm_sumG (I.ok.hd hc) hl' fun h' tk t' hk => ?_
    refine ⟨.int _, H, I.kept hk, ⟨_, rfl⟩, ?_⟩
    rw [preSum_eq, List.take_of_length_le (by simp), hn]
    exact q
def bSumA : ON := fun xs q => match xs with
  | [.tup l] => ∃ ns : List Int, l = ns.map D.int ∧ q (.int ns.sum)
  | _ => bSum xs q
theorem cb_sumA (C : CxE X W k) : CB X (.builtin "sum") bSumA := ⟨_, cr_sumT C.calm, fun G st H xs ds Q q s r h t => by
  unfold bSumA at h
  split at h
  · obtain ⟨bs, eb, h⟩ := h
    subst eb
    cases r with
    | cons r1 r2 =>
      cases r2
      cases r1 with
      | tup h1 r1 _ =>
        have := ints_ok r1
        subst this
        exact .inr ⟨_, bs, rfl, SqT.of h1, t.here s (.int _) h⟩
  · obtain ⟨bs, eb, h⟩ := h
    subst eb
    cases r with
    | cons r1 r2 =>
      cases r2
      cases r1 with
      | lst h1 r1 =>
        have := ints_ok r1
        subst this
        exact .inl ⟨_, bs, rfl, SqL.of h1, t.here s (.int _) h⟩⟩
@[simp ↓] theorem ev_bSumA_l {l : List D} {q : D → Prop} : bSumA [.lst l] q = bSum [.lst l] q := propext Iff.rfl
@[simp ↓] theorem ev_bSumA_t {l : List D} {q : D → Prop} : bSumA [.tup l] q = ∃ ns : List Int, l = ns.map D.int ∧ q (.int ns.sum) := propext Iff.rfl
end
end AM
set_option Elab.async false
set_option linter.all false
set_option maxRecDepth 100000
set_option maxHeartbeats 4000000
namespace AM
open PySem PySem.Spec L2 Evl
/-! ### xs[:] = ys -/
section
variable {prog : Program} {w : World} {A : Around} {E : Value → Shared → Prop} {s : Shared}
theorem setWhole {l b sl : Addr} {items new : Array Value} {n : Nat} {Q : Unit → Shared → Prop} (ho : s.heap.get? l = some { cls := .type "list", data := .seq items n })
    (hb : s.heap.IsList b new) (hs : s.heap.IsSliceOf sl .none .none .none) (hz : items.size + new.size ≤ sizeLine)
    (h : ∀ f : Array Value → Array Value, f items = new → Q () { s with heap := s.heap.update l (Obj.mapSeq f) }) : wpAny (model prog w) A (setItem (.ref l) (.ref sl) (.ref b)) Q E s := by
  have hl : s.heap.IsList l items := PySem.IsL.isList (n := n) ho
  obtain ⟨os, hos, hcs, hds⟩ := id hs
  obtain ⟨ob, hob, hcb, nb, hdb⟩ := id hb
  have hTs : s.TypeIs (.ref sl) "slice" := ⟨os, hos, hcs⟩
  have hTb : s.TypeIs (.ref b) "list" := ⟨ob, hob, hcb⟩
  unfold setItem
  try with_reducible refine wpAny_holding ?_
  first | refine wpAny_bind (wpAny_pure ?_) | skip
  refine wpAny_bind (wpAny_sequenceKey hl.typeIs (by decide) ?_)
  refine wpAny_bind (wpAny_callSpecial?_slot (name := Str.ofString "__setitem__") hl.typeIs PySem.slot_list_setitem
    (wpAny_call_entry PySem.slot_list_setitem hl.typeIs PySem.entry_list_setitem ?_ (PySem.args_list_setitem _ _ _)))
  show wpAny _ _ (Builtin.List.listSubscript? (.ref sl) >>= _) _ _ s
  refine wpAny_bind ?_
  unfold Builtin.List.listSubscript?
  refine wpAny_bind (wpAny_specialOf hTs slice_no_index ?_)
  simp only [Option.isNone_none, if_true]
  refine wpAny_pure ?_
  show wpAny _ _ (typeOf (.ref sl) >>= _) _ _ s
  refine wpAny_bind (wpAny_typeOf hTs ?_)
  rw [if_neg (by decide)]
  rw [listSliceParts_eq]
  refine wpAny_bind (wpAny_bind (wpAny_field hos hds (x := .none) rfl (wpAny_bind (wpAny_listPart .none ?_))))
  rw [if_neg (show ¬ ((rawPart none == rawInt 0) = true) from Bool.false_ne_true)]
  refine wpAny_bind (wpAny_field hos hds (x := .none) rfl (wpAny_bind (wpAny_listPart .none ?_)))
  refine wpAny_bind (wpAny_field hos hds (x := .none) rfl (wpAny_bind (wpAny_listPart .none (wpAny_pure ?_))))
  have hi : ∀ {A : Around} {E : Value → Shared → Prop} {Q : Array Value → Shared → Prop}, Q new s → wpAny (model prog w) A (Builtin.List.listItems (.ref b)) Q E s := by
    intro A E Q q
    unfold Builtin.List.listItems
    exact wpAny_bind (wpAny_seqItems hob hdb (wpAny_pure q))
  have ha : ∀ {A : Around} {E : Value → Shared → Prop} {Q : Array Value → Shared → Prop}, Q new s → wpAny (model prog w) A (Builtin.List.listAllItems (.ref b) "must assign iterable to extended slice") Q E s := by
    intro A E Q q
    unfold Builtin.List.listAllItems
    refine wpAny_bind (wpAny_typeOf hTb ?_)
    rw [if_pos (by decide)]
    exact hi q
  have e0 : (sliceBounds none none none items.size) = (0, (items.size : Int), 1) := rfl
  have es : (rawPart none, rawPart none, rawPart none).2.snd = rawPart none := rfl
  have hlong : ¬ (Builtin.List.listTooLong (items.size + new.size) = true) := by
    unfold Builtin.List.listTooLong
    simp
    exact hz
  split
  · refine wpAny_bind (hi ?_)
    refine wpAny_bind (m := Builtin.List.listItems (.ref l)) ?_
    unfold Builtin.List.listItems
    refine wpAny_bind (wpAny_seqItems ho rfl (wpAny_pure ?_))
    refine wpAny_bind (wpAny_of_eq (sliceIndices_raw none none none items.size (by simp)) ?_)
    rw [e0, if_pos (show ((1 : Int) == 1) = true from rfl)]
    refine wpAny_bind (wpAny_rule ?_)
    rw [if_neg hlong]
    have hf : (fun xs : Array Value => xs.extract 0 (0 : Int).toNat ++ new ++ xs.extract (max (0 : Int) (items.size : Int)).toNat) items = new := by
      have e1 : (max (0 : Int) (items.size : Int)).toNat = items.size := by omega
      show items.extract 0 0 ++ new ++ items.extract (max (0 : Int) (items.size : Int)).toNat items.size = new
      rw [e1]
      simp
    refine wpAny_bind (PyProof.Rows.listUpdate_at ho rfl ?_ (by omega) (by
      show ((fun xs : Array Value => xs.extract 0 (0 : Int).toNat ++ new ++ xs.extract (max (0 : Int) (items.size : Int)).toNat) items).size ≤ _
      rw [hf]; omega))
    refine wpAny_bind (wpAny_letGo ?_)
    exact wpAny_pure ⟨.none, rfl, wpAny_pure (h _ hf)⟩
  · refine wpAny_bind (ha ?_)
    refine wpAny_bind (m := Builtin.List.listItems (.ref l)) ?_
    unfold Builtin.List.listItems
    refine wpAny_bind (wpAny_seqItems ho rfl (wpAny_pure ?_))
    refine wpAny_bind (wpAny_of_eq (sliceIndices_raw none none none items.size (by simp)) ?_)
    rw [e0, if_pos (show ((1 : Int) == 1) = true from rfl)]
    refine wpAny_bind (wpAny_rule ?_)
    rw [if_neg hlong]
    have hf : (fun xs : Array Value => xs.extract 0 (0 : Int).toNat ++ new ++ xs.extract (max (0 : Int) (items.size : Int)).toNat) items = new := by
      have e1 : (max (0 : Int) (items.size : Int)).toNat = items.size := by omega
      show items.extract 0 0 ++ new ++ items.extract (max (0 : Int) (items.size : Int)).toNat items.size = new
      rw [e1]
      simp
    refine wpAny_bind (PyProof.Rows.listUpdate_at ho rfl ?_ (by omega) (by
      show ((fun xs : Array Value => xs.extract 0 (0 : Int).toNat ++ new ++ xs.extract (max (0 : Int) (items.size : Int)).toNat) items).size ≤ _
      rw [hf]; omega))
    refine wpAny_bind (wpAny_letGo ?_)
    exact wpAny_pure ⟨.none, rfl, wpAny_pure (h _ hf)⟩
def rSetW (K : PySem.W.Frag) : V → V → Hp → (Hp → Prop) → Prop := fun o v H Q => ∃ p xs b ys, o = .ref p ∧ v = .ref b ∧ H p = some (.lst xs) ∧ SqL K H b ys ∧ xs.length + ys.length ≤ sizeLine ∧ Q (upd H p (.lst ys))
theorem set_whole {X : Cx} {pins : List (Addr × Obj)} {s : Shared} {σ : St} {H : Hp} {o v : V} {ov u : Value} {sl : Addr} {Q : Hp → Prop} (I : Inv X pins σ H s) (ro : RelV o ov) (rv : RelV v u) (hs : s.heap.IsSliceOf sl .none .none .none) (h : rSetW X.K o v H Q) :
    wpAny (model X.prog X.w) X.A (setItem ov (.ref sl) u) (fun _ s' => ∃ H', Inv X pins σ H' s' ∧ Q H') X.xe s := by
  obtain ⟨p, xs, b, ys, rfl, rfl, hp, hb, hz, q⟩ := h
  cases ro
  cases rv
  obtain ⟨its, n, r, ho, _⟩ := I.lst hp
  obtain ⟨new, rn, hl, _⟩ := I.list hb
  have l1 := r.length
  have l2 := rn.length
  refine setWhole ho hl.isList hs (by rw [List.size_toArray, List.size_toArray]; omega) fun f hf => ?_
  refine ⟨_, I.lstUpd (n' := if new.toArray.size == its.toArray.size then n else n + 1) hp ho ?_ rn (by omega) s.toks, q⟩
  simp only [Obj.mapSeq, hf]
def gWhole (K : PySem.W.Frag) (to : TE) : TG := fun v σ H Q => to σ H fun o H1 => rSetW K o v H1 fun H2 => Q σ H2
theorem pg_whole {X : Cx} {o : Expr} {to : TE} {pos p2 : Pos} (ho : PE X o to)
    (ha : ∀ v, assign (.Subscript o (.Slice none none none p2) pos) X.env v = (do
      let ov ← holding [v] (eval o X.env)
      let iv ← holding [v, ov] (eval (.Slice none none none p2) X.env)
      standAt pos
      holding [v, ov, iv] (setItem ov iv v)
      release [iv, v, ov] []) := by intro _; rfl) : PG X (.Subscript o (.Slice none none none p2) pos) (gWhole X.K to) := by
  refine ⟨fun pins s σ H v u Q I r h => ?_⟩
  rw [ha]
  refine wpAny_bind (wpAny_holding (thn (ho.run pins s σ H _ I h) fun ov s1 ⟨x, H1, I1, r1, q1⟩ => ?_))
  refine wpAny_bind (wpAny_holding ?_)
  refine wpAny_Slice ?_
  rw [evalPart_none]
  refine wpAny_pure ?_
  refine wpAny_pure ?_
  refine wpAny_pure ?_
  have I2 : Inv X pins σ H1 { s1 with heap := s1.heap.push { cls := .type "slice", data := .fields #[.none, .none, .none] } } := I1.kept (t' := s1.toks) fun b ob q => Heap.get?_push_of_some _ q
  refine wpAny_bind (wpAny_standAt (wpAny_bind (wpAny_holding (thn (set_whole I2 r1 r (Heap.IsSliceOf.new ..) q1) fun _ s3 ⟨H3, I3, q3⟩ => ?_))))
  exact wpAny_release ⟨σ, H3, I3, q3⟩
end
section
variable {K : PySem.W.Frag} {W : WX}
/-- x[:] = e: the value first, a list of its own -/
def sSetW (o a : AE) : AS := fun env st k => a env st (fun d s1 => o env s1 (fun x s2 => match x, d with
  | .ref n, .lst ys => ∃ l, s2[n]? = some (.lst l) ∧ l.length + ys.length < 100000 ∧ k.nx env (s2.set n (.lst ys))
  | _, _ => False) (fun e s => k.er e env s)) (fun e s => k.er e env s)
theorem refS_setW {ta to : TE} {aa ao : AE} (ha : RefE K W ta aa) (ho : RefE K W to ao) : RefS K W (tAsg ta (gWhole K to)) (sSetW ao aa) := fun G env st σ H D k s l h t => by
  refine ha G env st σ H _ _ _ s l h (fun v d st1 G1 H1 p1 s1 r1 h1 => ?_) (t.x l)
  refine ho G1 env st1 σ H1 _ _ _ s1 (l.mono p1.le) h1 (fun w x st2 G2 H2 p2 s2 r2 h2 => ?_) ((t.x l).on p1)
  split at h2
  · rename_i n ys
    obtain ⟨ls, hn, hz, h2⟩ := h2
    cases r2 with
    | ref ep =>
      rename_i p
      have r1' := r1.mono p2.le
      cases r1' with
      | lst hb rs2 =>
        obtain ⟨vs, gp, hp, rs⟩ := s2.cell n _ p hn ep
        obtain ⟨s4, p4⟩ := s2.setCell (n := n) (c' := .lst ys) (o := .lst _) ep gp ⟨_, gp, upd_same, rs2⟩
        refine ⟨p, vs, _, _, rfl, rfl, hp, SqL.of (s2.ex _ _ hb), ?_, t.nx env σ _ G2 _ ((p1.trans p2).trans p4) s4 (l.mono ((p1.trans p2).trans p4).le) h2⟩
        have := rs.length
        have := rs2.length
        exact Nat.le_of_lt (sz_lt (by omega))
  · exact h2.elim
end
section
variable {X : Cx} {W : WX} {o a : Expr} {ao aa : AE} {pos spos p2 : Pos}
theorem axs_setW (ha : AX X W a aa) (ho : AX X W o ao)
    (hg : ∀ v, assign (.Subscript o (.Slice none none none p2) spos) X.env v = (do
      let ov ← holding [v] (eval o X.env)
      let iv ← holding [v, ov] (eval (.Slice none none none p2) X.env)
      standAt spos
      holding [v, ov, iv] (setItem ov iv v)
      release [iv, v, ov] []) := by intro _; rfl)
    (hs : swapsWithSole [.Subscript o (.Slice none none none p2) spos] a pos.line X.env = pure false := by rfl) (hw : swappedStores [.Subscript o (.Slice none none none p2) spos] a X.env = pure none := by rfl) (h1 : (assignEach [.Subscript o (.Slice none none none p2) spos] X.env).map (·.2) = [assign (.Subscript o (.Slice none none none p2) spos) X.env] := by rfl) :
    AXS X W (.Assign [.Subscript o (.Slice none none none p2) spos] a pos) (sSetW ao aa) := by
  obtain ⟨ta, pa, ra⟩ := ha
  obtain ⟨to, po, ro⟩ := ho
  exact ⟨_, ps_asg pa (pg_whole po hg) hs hw h1, refS_setW ra ro⟩
end
/-! ### tuple * int -/
theorem tuple_mul1 (l : Addr) (items : Array Value) (n : Nat) (dd : Option Addr) (sl : Array (Option Value)) (u : Tok) :
    Meets (Builtin.«tuple.__mul__» ⟨[.ref l, .int 1 u], []⟩) (fun _ R s => s.heap.get? l = some { cls := .type "tuple", dict := dd, data := .seq items n, slots := sl } ∧
      R (.ok (.ret (Value.ref l))) s) :=
  .of_wp fun prog w A R s h => by
    obtain ⟨hp, g, d, tk, os⟩ := s
    obtain ⟨hl, h⟩ := h
    have f1 := AutoSeq1.idx_int
    wp_walk using wpAny_loadPart' hl
    repeat (first
      | (refine wpAny_ite_false (decide_eq_false (by decide)) ?_; wp_walk using wpAny_loadPart' hl)
      | (refine wpAny_ite_true (decide_eq_true (by simp)) ?_; wp_walk using wpAny_loadPart' hl))
    exact ⟨_, rfl, h⟩
section
variable {X : Cx}
def rRepT1 (K : PySem.W.Frag) : R2 := fun x y H Q => ∃ l xs, x = .ref l ∧ y = .int 1 ∧ SqT K H l xs ∧ Q (.ref l) H
theorem op_repT1 : OpR X (binaryOp .Mult) (rRepT1 X.K) := by
  intro pins s σ H x y v u Q I rx ry h
  obtain ⟨l, xs, rfl, rfl, hT, q⟩ := h
  cases rx
  obtain ⟨t, rfl⟩ := ry
  obtain ⟨its, r, ⟨⟨cls, dd, data, sl⟩, ho, hc, n, hd⟩, hs⟩ := I.tuple hT
  simp only at hc hd
  subst hc hd
  refine wpAny_binaryOp_repeat_ref (T := "tuple") (U := "int") (by decide) ⟨_, ho, rfl⟩ (fun s' => typeIs_int s' 1 t) noFill_tuple_mul F.fills_int_mul F.slot_int_rmul repeat_tuple F.slot_int_index.lookup
    (call_meets F.slot_int_rmul (typeIs_int s 1 t) F.entry_int_rmul (F.args_int_rmul_2 _ _) (int_rmul_tuple 1 t l its.toArray n dd sl)
      ⟨ho, rfl, ⟨_, ho, rfl⟩, call_meets F.slot_tuple_mul ⟨_, ho, rfl⟩ F.entry_tuple_mul (F.args_tuple_mul_2 _ _) (tuple_mul1 l its.toArray n dd sl t) ⟨ho, ?_⟩⟩)
  exact ⟨.ref l, H, I, rfl, q⟩
def oRepT : O2 := fun x y q => ∃ l k, x = .tup l ∧ y = .int k ∧ l ≠ [] ∧ 1 ≤ k ∧ k ≤ 1000 ∧ l.length ≤ 1000 ∧ q (.tup (List.replicate k.toNat l).flatten)
theorem op_RepT : OpR X (binaryOp .Mult) (fun x y H Q => rRepT1 X.K x y H Q ∨ rRepT X.K x y H Q) ∧ RefO X.K (fun x y H Q => rRepT1 X.K x y H Q ∨ rRepT X.K x y H Q) oRepT := ⟨op_repT1.or op_repT, fun G st H x y dx dy Q q s rx ry h t => by
  obtain ⟨l, k, rfl, rfl, h0, h1, h2, h3, h⟩ := h
  cases rx with
  | tup hp rs hh =>
    cases ry
    by_cases hk : k = 1
    · subst hk
      have e : (List.replicate (1 : Int).toNat l).flatten = l := by simp
      rw [e] at h
      exact .inl ⟨_, _, rfl, rfl, SqT.of hp, t.here s hh h⟩
    · refine .inr ⟨_, k, _, rfl, rfl, SqT.of hp, ?_, by omega, h2, by rw [← rs.length]; exact h3, fun p hp' => ?_⟩
      · intro e
        subst e
        cases rs
        exact h0 rfl
      · exact t.newT s (Reps.rep rs k.toNat) h hp'⟩
end
/-! ### own == against a value of another kind -/
def LookT (X : Cx) (P : V → Hp → Prop) (t : Value) : Prop := ∀ {pins : List (Addr × Obj)} {s : Shared} {σ : St} {H : Hp} {y : V} {u : Value}, L2.Inv X pins σ H s → L2.RelV y u → P y H → PySem.W.Looks (model X.prog X.w) s.heap (typeOf u) t
section
variable {X : Cx} {W : WX} {k j : Nat} {a b : Expr} {ta tb : TE} {C f : Addr} {fd : FuncData} {ps : List Str} {sp : Sp} {CX : CXT} {E : St → XK} {P : V → Hp → Prop} {t : Value}
theorem pe_eqK (hP : LookT X P t) (F : FnOk X.prog X.w X.K X.mg X.base CX k f fd ps sp) (hr : Room k X.A) (hn : PySem.W.notFirst X.K C t = true) (hs : PySem.W.findIn X.K (.ref C) "__eq__" = some (some (.ref f))) (hfn : PySem.W.isFn X.K (.ref f) = true) (hb : Binds X.K fd ps []) (hx : ∀ σ, PassesAt CX X σ (E σ)) (ha : PE X a ta) (hi : PE X b tb) :
    PC X .Eq a b (tOwn2 C sp E P ta tb) := by
  refine ⟨fun pins s σ H Q I h => ?_⟩
  refine binT ha hi I h fun v u s2 x y H2 I2 rx ry q => ?_
  obtain ⟨p, dx, fs, rfl, hp, hpy, q⟩ := q
  obtain rfl : v = Value.ref p := rx
  obtain ⟨mA, J, _⟩ := ins_get I2.hok hp
  obtain ⟨od, J, _⟩ := J.look
  obtain ⟨m, hF⟩ := I2.fr
  exact PySem.W.cmp_K (op := .Eq) (by have := u64 hr; omega) hF I2.ok.mod.kin J (hP I2 ry hpy) hn hs hfn (wpAny_mono (run_fnAt F hr rfl hb (hx σ) I2 (vs := [V.ref p, y]) (us := [Value.ref p, u]) (.cons (show L2.RelV (.ref p) (.ref p) from rfl) (.cons ry .nil)) q) (fun _ _ z => back_ok z) fun _ _ z => z)
def PLst (K : PySem.W.Frag) (y : V) (H : Hp) : Prop := ∃ a xs, y = .ref a ∧ SqL K H a xs
def PNon (y : V) (H : Hp) : Prop := y = .non
theorem look_lst : LookT X (PLst X.K) (.type "list") := by
  rintro pins s σ H y u I r ⟨a, xs, rfl, h⟩
  obtain rfl : u = Value.ref a := r
  obtain ⟨its, _, ht, _⟩ := I.list h
  obtain ⟨o, ho, hc⟩ := ht.isList.typeIs
  exact fun A Q E s k q => wpAny_typeOf_ref (k _ _ ho) (by rw [hc]; exact q)
theorem look_non : LookT X PNon (.type "NoneType") := by
  rintro pins s σ H y u I r h
  obtain rfl : y = .non := h
  cases r
  exact PySem.W.Looks.of_pure rfl
theorem look_cls {C : Addr} : LookT X (PIns C) (.ref C) := by
  rintro pins s σ H y u I r ⟨p', dx', fs', rfl, hp'⟩
  obtain rfl : u = Value.ref p' := r
  obtain ⟨mA', J', _⟩ := ins_get I.hok hp'
  obtain ⟨od', J', _⟩ := J'.look
  exact J'.type
end
def isLst : D → Prop
  | .lst _ => True
  | _ => False
def isNon : D → Prop
  | .non => True
  | _ => False
section
variable {K : PySem.W.Frag}
theorem pv_lst {G : Gh} {H : Hp} {d : D} {v : V} (r : Rv K G H d v) (h : isLst d) : PLst K v H := by
  cases r with
  | lst hp rs => exact ⟨_, _, rfl, SqL.of hp⟩
  | _ => exact h.elim
theorem pv_non {G : Gh} {H : Hp} {d : D} {v : V} (r : Rv K G H d v) (h : isNon d) : PNon v H := by
  cases r with
  | non => rfl
  | _ => exact h.elim
end
section
variable {X : Cx} {W : WX} {k j : Nat} {a b : Expr} {c : Str} {pos : Pos} {aa ab : AE} {mf : AF} {f : Addr} {fd : FuncData} {ps : List Str} {P : V → Hp → Prop} {PD : D → Prop} {t : Value}
theorem ax_eqK (hP : LookT X P t) (hv : ∀ {G : Gh} {H : Hp} {d : D} {v : V}, Rv X.K G H d v → PD d → P v H) (C : CxE X W k) (F : FnOk X.prog X.w X.K X.mg X.base (L2N.CX X.prog X.w) j f fd ps (SpA X.K mf)) (hb : BindsD X.K fd ps []) (hn : PySem.W.notFirst X.K (He.ga X.K c) t = true) (hs : PySem.W.findIn X.K (.ref (He.ga X.K c)) "__eq__" = some (some (.ref f))) (hfn : PySem.W.isFn X.K (.ref f) = true) (ha : AX X W a aa) (hi : AX X W b ab) (hj : j ≤ k) (hm : behindInMarks .Eq b = false := by first | exact nobehind _ (by decide) (by decide) | rfl) :
    AX X W (.Compare a [.Eq] [b] pos) (aOwn2 c mf PD aa ab) := by
  obtain ⟨ta, pa, ra⟩ := ha
  obtain ⟨tb, pb, rb⟩ := hi
  obtain ⟨ds, hv', hb⟩ := hb
  cases hv'
  exact ⟨_, pe_cmp (pe_eqK (E := fun σ c d H => W c d σ H) hP F (C.room.mono hj) hn hs hfn hb (fun σ => L2N.passAt C.takes σ) pa pb) hm, refE_own2 hv ra rb⟩
theorem axt_eqK (hP : LookT X P t) (hv : ∀ {G : Gh} {H : Hp} {d : D} {v : V}, Rv X.K G H d v → PD d → P v H) (C : CxE X W k) (F : FnOk X.prog X.w X.K X.mg X.base (L2N.CX X.prog X.w) j f fd ps (SpA X.K mf)) (hb : BindsD X.K fd ps []) (hn : PySem.W.notFirst X.K (He.ga X.K c) t = true) (hs : PySem.W.findIn X.K (.ref (He.ga X.K c)) "__eq__" = some (some (.ref f))) (hfn : PySem.W.isFn X.K (.ref f) = true) (ha : AX X W a aa) (hi : AX X W b ab) (hj : j ≤ k) (hm : behindInMarks .Eq b = false := by first | exact nobehind _ (by decide) (by decide) | rfl) :
    AXT X W (.Compare a [.Eq] [b] pos) (aTest (aOwn2 c mf PD aa ab)) := by
  obtain ⟨ta, pa, ra⟩ := ha
  obtain ⟨tb, pb, rb⟩ := hi
  obtain ⟨ds, hv', hb⟩ := hb
  cases hv'
  exact ⟨_, pt_cmp (pe_eqK (E := fun σ c d H => W c d σ H) hP F (C.room.mono hj) hn hs hfn hb (fun σ => L2N.passAt C.takes σ) pa pb) hm, refT_test (refE_own2 hv ra rb)⟩
end
end AM
set_option Elab.async false
set_option linter.all false
set_option maxRecDepth 100000
set_option maxHeartbeats 4000000
namespace AM
open PySem PySem.Spec L2 Evl
/-! ### the lists in a list's cell are frozen, ahead of a piece -/
inductive FrzS (n : Nat) : S → S → Prop
  | nil {s : S} : FrzS n s s
  | step {s s' : S} {L l : List D} {j m : Nat} : s[n]? = some (.lst L) → L[j]? = some (.ref m) → m ≠ n → s[m]? = some (.lst l) → FrzS n ((s.set m .dead).set n (.lst (L.set j (.lst l)))) s' → FrzS n s s'
def sFrzIn (i : Nat) (a : AS) : AS := fun env st k => ∃ n st2, env[i]? = some (.d (.ref n)) ∧ FrzS n st st2 ∧ a env st2 k
theorem frz_ok {K : PySem.W.Frag} {n : Nat} {st st2 : S} (f : FrzS n st st2) : ∀ {G : Gh} {H : Hp} {p : Addr}, SS K G st H → G.as[n]? = some p → ∃ G2, Post G H G2 H ∧ SS K G2 st2 H := by
  induction f with
  | nil => exact fun {G H p} s hp => ⟨G, ⟨Gh.le.refl G, fun _ _ e _ => e, fun _ e _ _ => e, fun _ z => .inl z, fun _ k => k⟩, s⟩
  | step h1 h2 hm h3 f ih =>
    intro G H p s hp
    rename_i s0 s' L l j m
    obtain ⟨vs, gp, hh, rs⟩ := s.cell n _ p h1 hp
    obtain ⟨v, ev, rv⟩ := rs.get h2
    cases rv with
    | ref ep =>
      rename_i pm
      obtain ⟨vm, gpm, hhm, rm⟩ := s.cell m _ pm h3 ep
      obtain ⟨s2, p2⟩ := s.freezeCell ep gpm hhm
      have hne : p ≠ pm := fun z => by
        subst z
        exact hm ((List.getElem?_inj (List.getElem?_eq_some_iff.mp ep).1 s.nd).mp (ep.trans hp.symm))
      have gp2 : (upd G.g pm (.lst vm)) p = none := by rw [upd_ne hne]; exact gp
      have e : vs.set j (.ref pm) = vs := by
        apply List.ext_getElem?
        intro i
        by_cases hi : i = j
        · subst hi
          rw [List.getElem?_set_self (List.getElem?_eq_some_iff.mp ev).1, ev]
        · rw [List.getElem?_set_ne (Ne.symm hi)]
      have hu : upd H p (.lst vs) = H := by
        funext x
        by_cases hx : x = p
        · subst hx; rw [upd_same, hh]
        · rw [upd_ne hx]
      obtain ⟨s3, p3⟩ := s2.setCell (n := n) (c' := .lst (L.set j (.lst l))) (o := .lst vs) hp gp2 ⟨vs, gp2, upd_same, by
        have := (rs.mono p2.le).set (Rep.lst (K := K) upd_same (rm.mono p2.le)) j
        rw [e] at this
        exact this⟩
      rw [hu] at s3 p3
      obtain ⟨G3, p4, s4⟩ := ih s3 hp
      exact ⟨G3, (p2.trans p3).trans p4, s4⟩
theorem axs_frzIn {X : Cx} {W : WX} {st : Stmt} {as : AS} (i : Nat) (h : AXS X W st as) : AXS X W st (sFrzIn i as) := by
  obtain ⟨t, p, r⟩ := h
  refine ⟨_, p, fun G env st σ H D k s l a t => ?_⟩
  obtain ⟨n, st2, ei, f, a⟩ := a
  obtain ⟨u, eu, ru⟩ := l.slot i _ ei
  cases ru with
  | ref ep =>
    obtain ⟨G2, p2, s2⟩ := frz_ok f s ep
    exact r G2 env st2 σ H D k s2 (l.mono p2.le) a (t.on p2)
end AM
set_option Elab.async false
set_option linter.all false
set_option maxRecDepth 100000
set_option maxHeartbeats 4000000
namespace AM
open PySem PySem.Spec PyProof.Rows L2 Evl
/-! ### l.count(x) -/
def rCountD (K : PySem.W.Frag) : V → List V → Hp → VK → Prop := fun x xs H Q => ∃ (a : Addr) (y : V) (d : PyData) (ds : List PyData), x = V.ref a ∧ xs = [y] ∧ Dp K H (V.ref a) (.list ds) ∧ Dp K H y d ∧
  SeqAt.shaped (.list ds) = true ∧ SeqAt.shaped d = true ∧ Q (.int ((ds.countP fun z => PyData.eqv z d : Nat) : Int)) H
theorem mt_countD {X : Cx} (hu : X.A.units + 65 < cLine) : MtR X "list.count" (rCountD X.K) := by
  intro pins s σ H x xs v us Q I rx rxs h
  obtain ⟨a, y, d, ds, rfl, rfl, hl, hy, sl, sd, q⟩ := h
  cases rx
  cases rxs with
  | cons ry rt =>
    rename_i uy ut
    cases rt
    obtain ⟨bs, r1⟩ := Dp.reads I d y uy hy ry
    have hxs : PyData.canLayAll0 ds = true := SeqAt.canLay_of_shaped sl
    have hroom : X.A.units + 1 + min (PyData.depthAll ds) d.depth < cLine := room_in_shaped sd hu
    cases hl with
    | lst hs ha =>
      obtain ⟨its, rv, ⟨⟨cls, dd, data, sls⟩, n, ho, hc, hdn, hdt⟩, hlen⟩ := I.list hs
      simp only at hc hdt
      subst hc hdt
      obtain ⟨as, h4⟩ := Dp.readsAll I ds _ its ha rv
      have hmap : its.map (SeqAt.readOf s.heap) = ds := SeqAt.readsAll_map ds its as hxs h4
      refine call_meets PySem.F.slot_list_count ⟨_, ho, rfl⟩ PySem.F.entry_list_count (PySem.F.args_list_count_2 _ _)
        (SeqAt.list_countAt a its.toArray n dd sls uy (fun u => PyData.eqv (SeqAt.readOf s.heap u) d)) ⟨ho, SeqAt.items_eqAt (vs := its.toArray) (show ReadsAll s.heap its.toArray.toList ds as from h4) r1 hxs (SeqAt.canLay_of_shaped sd) hroom, ?_⟩
      rw [show its.toArray.toList = its from rfl, show (its.countP fun u => PyData.eqv (SeqAt.readOf s.heap u) d) = ds.countP fun z => PyData.eqv z d from by rw [← hmap, List.countP_map]; rfl]
      exact ⟨.int _, H, I.tok _, ⟨_, rfl⟩, q⟩
def aCnt (o a : AE) : AE := fun env st q er => o env st (fun x s1 => (∃ l, vw s1 x = .lst l) ∧ a env s1 (fun y s2 => ∃ l, vw s2 x = .lst l ∧ (D.lst l).shp ∧ (vw s2 y).shp ∧ q (.int ((l.countP fun z => D.eqv z (vw s2 y) : Nat) : Int)) s2) er) er
section
variable {X : Cx} {W : WX} {k : Nat} {o e : Expr} {ae ao : AE} {pos apos : Pos}
theorem refE_cnt {K : PySem.W.Frag} {to te : TE} (ho : RefE K W to ao) (he : RefE K W te ae) : RefE K W (tBM K "list" (rCountD K) to (tCons te tNil)) (aCnt ao ae) := fun G env st σ H Q q er s l h tE tX => by
  refine ho G env st σ H _ _ er s l h (fun v d st1 G1 H1 p1 s1 r1 h1 => ?_) tX
  obtain ⟨⟨l0, hl0⟩, h1⟩ := h1
  have rv := r1.vw s1
  rw [hl0] at rv
  cases rv with
  | lst hp rs =>
    rename_i pp vs
    refine ⟨Or.inl ⟨rfl, _, Or.inl (Or.inl hp)⟩, he G1 env st1 σ H1 _ _ er s1 (l.mono p1.le) h1 (fun w d2 st2 G2 H2 p2 s2 r2 h2 => ?_) (tX.on p1)⟩
    obtain ⟨l2, hl2, hsl, hsy, h2⟩ := h2
    have rv2 := (r1.mono p2.le).vw s2
    have ry := r2.vw s2
    rw [hl2] at rv2
    have dl := rv2.dp s2.ex hsl.1
    have dy := ry.dp s2.ex hsy.1
    rw [D.py] at dl
    have pl : ∀ x ∈ l2, x.plain = true := plains_mem (by have := hsl.1; rw [D.plain] at this; exact this)
    have sl := D.shaped hsl
    rw [D.py] at sl
    have e : ((D.pys l2).countP fun z => PyData.eqv z (vw st2 d2).py) = l2.countP fun z => D.eqv z (vw st2 d2) := by
      rw [pys_map, List.countP_map]
      exact List.countP_congr fun z hz => by
        show PyData.eqv z.py (vw st2 d2).py = true ↔ _
        rw [D.py_eqv (pl z hz) hsy.1]
    refine ⟨pp, w, _, _, rfl, rfl, dl, dy, sl, D.shaped hsy, ?_⟩
    rw [e]
    exact tE _ _ st2 G2 H2 (p1.trans p2) s2 (.int _) h2
theorem ax_cnt (C : CxE X W k) (ho : AX X W o ao) (he : AX X W e ae) (hbase : attributeBase o "count" X.env (eval o X.env) = eval o X.env := by rfl)
    (hfew : ((backTo pos (starEach [e] X.env)).all (fun x => !x.1) && (backToKw pos (keywordEach [] X.env)).all (fun x => x.1.isSome) && decide (([e] : List Expr).length + ([] : List Keyword).length + (if ([] : List Keyword).isEmpty then 0 else 1) < 30)) = true := by rfl)
    (hline : (apos.endLine == pos.line) = true := by rfl) (hs : starEach [e] X.env = (false, eval e X.env) :: starEach [] X.env := by rfl) : AX X W (.Call (.Attribute o "count" apos) [e] [] pos) (aCnt ao ae) := by
  obtain ⟨to, po, ro⟩ := ho
  obtain ⟨te, pe, re⟩ := he
  exact ⟨_, pe_bm PySem.F.plainAttrs_list PySem.F.slot_list_count PySem.F.type_list_count (mt_countD (by have := u64 C.room; omega)) po (pa_cons pe pa_nil hs) hbase hfew hline hs rfl, refE_cnt ro re⟩
end
end AM
set_option Elab.async false
set_option linter.all false
set_option maxRecDepth 100000
set_option maxHeartbeats 4000000
namespace AM
open PySem PySem.Spec PyProof.Rows L2 Evl
/-! ### len(x) of an own class -/
def tLenO (C : Addr) (sp : Sp) (E : L2.St → XK) (ta : TA) : TE := fun σ H Q => ta σ H fun vs H1 => ∃ p dx fs, vs = [.ref p] ∧ H1 p = some (.ins C dx fs) ∧ sp [.ref p] H1 (fun v H3 => ∃ n : Nat, v = .int (n : Int) ∧ n < 2 ^ 62 ∧ Q (.int (n : Int)) H3) (E σ)
theorem boot_len : bootBuiltins "len" = some (.builtin "len") := by rfl
section
variable {X : Cx} {CX : CXT} {k : Nat} {f C : Addr} {fd : FuncData} {ps : List Str} {sp : Sp} {E : L2.St → XK} {e : Expr} {ta : TA} {p pos : Pos}
theorem pe_lenO (F : FnOk X.prog X.w X.K X.mg X.base CX k f fd ps sp) (hr : Room (k + 1) X.A) (hs : PySem.W.findIn X.K (.ref C) "__len__" = some (some (.ref f))) (hfn : PySem.W.isFn X.K (.ref f) = true) (hb : Binds X.K fd ps []) (hx : ∀ σ, PassesAt CX X σ (E σ)) (hg : Gl X "len") (hm : X.mg "len" = none) (ha : PA X [e] ta)
    (he : starEach [e] X.env = (false, eval e X.env) :: starEach [] X.env := by rfl) (hpl : (backTo pos (starEach [] X.env)).any (·.1) = false := by rfl) : PE X (.Call (.Name "len" p) [e] [] pos) (tLenO C sp E ta) := by
  refine ⟨fun pins s σ H Q I h => ?_⟩
  refine wpAny_Call_Name_kw (ld_blt I hg hm boot_len ?_ (by decide) (by decide))
  refine PyProof.Rows.callWith_builtin1 (thn (ha.run pos pins s σ H _ I h) fun us s1 ⟨vs, H1, I1, r1, q1⟩ => ?_) he hpl
  obtain ⟨a, dx, fs, rfl, hp, q⟩ := q1
  obtain ⟨u, rfl, ru⟩ := vals1 r1
  obtain rfl : u = Value.ref a := ru
  obtain ⟨mA, J, _⟩ := ins_get I1.hok hp
  obtain ⟨od, J, _⟩ := J.look
  obtain ⟨m, hF⟩ := I1.fr
  refine Calls.call_function_entry PySem.kind_len PySem.plain_len PySem.entry_len (PySem.args_len1 _) ?_
  unfold Builtin.«len»
  refine wpAny_bind (m := oneArg "len" _) (wpAny_pure ?_)
  have run := run_fnAt F hr.in1 rfl hb (hx σ) I1 (vs := [V.ref a]) (us := [Value.ref a]) (.cons (show RelV (.ref a) (.ref a) from rfl) .nil) q
  refine wpAny_bind (m := callSpecial? (.ref a) (PySem.Str.ofString "__len__")) (PySem.W.special_fn (I1.ok.mod.kin.keeps hF.keep) J hs (beq_iff_eq.mp hfn) (wpAny_mono run (fun w s2 z => ?_) fun _ _ z => z))
  obtain ⟨v, H3, I3, r3, n, rfl, hn, q3⟩ := z
  obtain ⟨t, rfl⟩ := r3
  refine wpAny_bind (wpAny_holding (wpAny_pure ?_))
  refine wpAny_bind (wpAny_letGo ?_)
  show wpAny _ _ (if ((n : Nat) : Int) < 0 then _ else _) _ _ _
  rw [if_neg (by omega)]
  show wpAny _ _ (if ((n : Nat) : Int) ≥ 2 ^ 63 then _ else _) _ _ _
  rw [if_neg (by omega)]
  exact wpAny_bind (wpAny_mkInt (wpAny_pure ⟨_, rfl, .int n, H3, I3.tok _, ⟨_, rfl⟩, q3⟩))
end
def aOwnLen (c : Str) (mf : AF) (a : AE) : AE := fun env st q er => a env st (fun x s1 => isCls c (vw s1 x) ∧ mf [x] s1 (fun r s3 => ∃ n : Nat, r = .d (.int (n : Int)) ∧ n < 2 ^ 62 ∧ q (.int (n : Int)) s3) er) er
section
variable {K : PySem.W.Frag} {W : WX} {c : Str} {mf : AF} {te : TE} {aa : AE}
theorem refE_ownLen (ha : RefE K W te aa) : RefE K W (tLenO (He.ga K c) (SpA K mf) (fun σ c d H => W c d σ H) (tCons te tNil)) (aOwnLen c mf aa) := fun G env st σ H Q q er s l h tE tX => by
  refine ha G env st σ H _ _ er s l h (fun v d st1 G1 H1 p1 s1 r1 h1 => ?_) tX
  obtain ⟨h2, h4⟩ := h1
  obtain ⟨a, dx, fs, rfl, hp⟩ := isCls_at (r1.vw s1) h2
  refine ⟨a, dx, fs, rfl, hp, G1, st1, _, _, er, s1, .cons r1 .nil, h4, fun v r st3 G3 H3 p3 s3 r3 h5 => ?_, fun e c dx st3 G3 H3 p3 s3 ea h3 => tX e c dx st3 G3 H3 (p1.trans p3) s3 ea h3⟩
  obtain ⟨n, rfl, hn, h5⟩ := h5
  cases r3
  exact ⟨n, rfl, hn, tE _ _ st3 G3 H3 (p1.trans p3) s3 (.int _) h5⟩
end
section
variable {X : Cx} {W : WX} {k j : Nat} {f : Addr} {fd : FuncData} {ps : List Str} {mf : AF} {c : Str} {e : Expr} {ae : AE} {p pos : Pos}
theorem ax_ownLen (C : CxE X W k) (F : FnOk X.prog X.w X.K X.mg X.base (L2N.CX X.prog X.w) j f fd ps (SpA X.K mf)) (hb : BindsD X.K fd ps []) (hs : PySem.W.findIn X.K (.ref (He.ga X.K c)) "__len__" = some (some (.ref f))) (hfn : PySem.W.isFn X.K (.ref f) = true) (hm : X.mg "len" = none) (ha : AX X W e ae) (hj : j + 1 ≤ k) (hg : Gl X "len" := by rfl)
    (he : starEach [e] X.env = (false, eval e X.env) :: starEach [] X.env := by rfl) (hpl : (backTo pos (starEach [] X.env)).any (·.1) = false := by rfl) : AX X W (.Call (.Name "len" p) [e] [] pos) (aOwnLen c mf ae) := by
  obtain ⟨te, pe, re⟩ := ha
  obtain ⟨ds, hv, hb⟩ := hb
  cases hv
  exact ⟨_, pe_lenO (E := fun σ c d H => W c d σ H) F (C.room.mono hj) hs hfn hb (fun σ => L2N.passAt C.takes σ) hg hm (pa_cons pe pa_nil he) he hpl, refE_ownLen re⟩
end
end AM
set_option Elab.async false
set_option linter.all false
set_option maxRecDepth 100000
set_option maxHeartbeats 4000000
namespace AM
open PySem L2
/-! ### the readings, as they run (each applied in full, from the outside) -/
section
variable {env : List A} {st : S} {q : D → S → Prop} {qt : Bool → S → Prop} {ql : List D → S → Prop} {er : QX} {k : AK} {a b c : AE} {as : AEs} {s u : AS} {t v : AT} {g : AG} {gs : AGs} {f f2 : O2} {i j : Nat} {d : D} {x y : D} {xs : List D} {it it1 : AI} {qi : List D → Gd → S → Prop} {af bf : AFr} {z : List A → Prop} {o : O1} {fn : ON} {vs vs1 : List Nat} {gd : Gd} {g1 : AG} {t1 : AT} {m : AF} {dd : List D} {ix : List Nat}
end
def bq (x : D) (p : Bool → Prop) : Prop := ∃ c, x = .bl c ∧ p c
def tsQ (q : Bool → S → Prop) (x : D) (s : S) : Prop := ∃ b, x = .bl b ∧ q b s
def trQ (q : Bool → S → Prop) (x : D) (s : S) : Prop := ∃ b, truthD (vw s x) = some b ∧ q b s
def rsQ (q : D → S → Prop) (r : Rs) (s : S) : Prop := match r with
  | .d d => q d s
  | .own l => q (.lst l) s
  | .ownD l => q (.dic l) s
def rsG (q : List (D × D) → S → Prop) (r : Rs) (s : S) : Prop := match r with
  | .ownD l => q l s
  | _ => False
def rsF (q : List D → S → Prop) (r : Rs) (s : S) : Prop := match r with
  | .own l => q l s
  | _ => False
def parQ (i j : Nat) (env : List A) (k : AK) (ds : List D) (s1 : S) : Prop := match ds with
  | [x, y] => k.nx ((env.set i (.d x)).set j (.d y)) s1
  | _ => False
def rngQ (q : List D → Gd → S → Prop) (d : D) (s1 : S) : Prop := match d with
  | .int j => (-(2 ^ 62) ≤ j ∧ j < 2 ^ 62) ∧ q ((List.range j.toNat).map fun (i : Nat) => D.int (i : Int)) [] s1
  | _ => False
def rngQ2 (q : List D → Gd → S → Prop) (d d2 : D) (s2 : S) : Prop := match d, d2 with
  | .int i, .int j => (-(2 ^ 62) ≤ i ∧ i < 2 ^ 62 ∧ -(2 ^ 62) ≤ j ∧ j < 2 ^ 62) ∧ q ((List.range (j - i).toNat).map fun (n : Nat) => D.int (i + (n : Int))) [] s2
  | _, _ => False
def setQ (env : List A) (k : AK) (d x j : D) (s3 : S) : Prop := match x, j with
  | .ref n, .int i => ∃ l j, s3[n]? = some (.lst l) ∧ ixN l.length i = some j ∧ k.nx env (s3.set n (.lst (l.set j d)))
  | _, _ => False
section
variable {env : List A} {st : S} {q : D → S → Prop} {qt : Bool → S → Prop} {ql : List D → S → Prop} {er : QX} {k : AK} {a b c : AE} {as : AEs} {s u : AS} {t v : AT} {g : AG} {gs : AGs} {f f2 : O2} {i j : Nat} {d : D} {x y : D} {xs : List D} {it it1 : AI} {qi : List D → Gd → S → Prop} {af bf : AFr} {z : List A → Prop} {o : O1} {fn : ON} {vs vs1 : List Nat} {gd : Gd} {g1 : AG} {t1 : AT} {m : AF} {dd : List D} {ix : List Nat}
@[simp] theorem bq_bl {h : Bool} {p : Bool → Prop} : bq (.bl h) p = p h := propext ⟨fun ⟨_, e, w⟩ => by cases e; exact w, fun w => ⟨_, rfl, w⟩⟩
@[simp] theorem tsQ_bl {h : Bool} : tsQ qt (.bl h) st = qt h st := propext ⟨fun ⟨_, e, w⟩ => by cases e; exact w, fun w => ⟨_, rfl, w⟩⟩
theorem trQ_of {h : Bool} (e : truthD (vw st x) = some h) : trQ qt x st = qt h st := propext ⟨fun ⟨_, e2, w⟩ => by rw [e] at e2; cases e2; exact w, fun w => ⟨_, e, w⟩⟩
@[simp] theorem trQ_bl {h : Bool} : trQ qt (.bl h) st = qt h st := trQ_of rfl
@[simp] theorem trQ_int {h : Int} : trQ qt (.int h) st = qt (h != 0) st := trQ_of rfl
@[simp] theorem trQ_non : trQ qt .non st = qt false st := trQ_of rfl
@[simp] theorem trQ_lst {l : List D} : trQ qt (.lst l) st = qt (!l.isEmpty) st := trQ_of rfl
@[simp] theorem trQ_tup {l : List D} : trQ qt (.tup l) st = qt (!l.isEmpty) st := trQ_of rfl
theorem trQ_ref {n : Nat} {l : List D} (e : st[n]? = some (.lst l)) : trQ qt (.ref n) st = qt (!l.isEmpty) st := trQ_of (by unfold vw; simp only [e]; rfl)
@[simp] theorem rsQ_d : rsQ q (.d x) st = q x st := propext Iff.rfl
@[simp] theorem rsQ_own : rsQ q (.own xs) st = q (.lst xs) st := propext Iff.rfl
@[simp] theorem rsF_own : rsF ql (.own xs) st = ql xs st := propext Iff.rfl
@[simp] theorem rsQ_ownD {xs : List (D × D)} : rsQ q (.ownD xs) st = q (.dic xs) st := propext Iff.rfl
@[simp] theorem rsG_ownD {xs : List (D × D)} {qd : List (D × D) → S → Prop} : rsG qd (.ownD xs) st = qd xs st := propext Iff.rfl
@[simp ↓] theorem ev_fdCall {qd : List (D × D) → S → Prop} : fdCall m as dd env st qd er = as env st (fun ds s1 => m (ds ++ dd) s1 (rsG qd) er) er := propext Iff.rfl
@[simp] theorem parQ_2 : parQ i j env k [x, y] st = k.nx ((env.set i (.d x)).set j (.d y)) st := propext Iff.rfl
@[simp] theorem rngQ_int {n : Int} : rngQ qi (.int n) st = ((-(2 ^ 62) ≤ n ∧ n < 2 ^ 62) ∧ qi ((List.range n.toNat).map fun (i : Nat) => D.int (i : Int)) [] st) := propext Iff.rfl
@[simp] theorem rngQ2_int {n h : Int} : rngQ2 qi (.int n) (.int h) st = ((-(2 ^ 62) ≤ n ∧ n < 2 ^ 62 ∧ -(2 ^ 62) ≤ h ∧ h < 2 ^ 62) ∧ qi ((List.range (h - n).toNat).map fun (i : Nat) => D.int (n + (i : Int))) [] st) := propext Iff.rfl
@[simp] theorem setQ_int {n : Nat} {h : Int} : setQ env k d (.ref n) (.int h) st = ∃ l j, st[n]? = some (.lst l) ∧ ixN l.length h = some j ∧ k.nx env (st.set n (.lst (l.set j d))) := propext Iff.rfl
@[simp ↓] theorem ev_aC  : aC d env st q er = q d st := propext Iff.rfl
@[simp ↓] theorem ev_aVar  : env[i]? = some (.d x) → aVar i env st q er = q x st := by intro h; unfold aVar; rw [h]
@[simp ↓] theorem ev_aOp  : aOp f a b env st q er = a env st (fun x s1 => b env s1 (fun y s2 => f (vw s2 x) (vw s2 y) fun z => q z s2) er) er := propext Iff.rfl
@[simp ↓] theorem ev_aChain  : aChain f f2 a b c env st q er = a env st (fun x s1 => b env s1 (fun y s2 => f (vw s2 x) (vw s2 y) fun z => bq z fun k => if k = true then c env s2 (fun w s3 => f2 (vw s3 y) (vw s3 w) fun z => q z s3) er else q (.bl false) s2) er) er := propext Iff.rfl
@[simp ↓] theorem ev_aUn  : aUn o a env st q er = a env st (fun x s1 => o (vw s1 x) fun z => q z s1) er := propext Iff.rfl
@[simp ↓] theorem ev_aIf  : aIf t a b env st q er = t env st (fun c s1 => if c = true then a env s1 q er else b env s1 q er) er := propext Iff.rfl
@[simp ↓] theorem ev_aTest  : aTest a env st qt er = a env st (tsQ qt) er := propext Iff.rfl
@[simp ↓] theorem ev_aTruth  : aTruth a env st qt er = a env st (trQ qt) er := propext Iff.rfl
@[simp ↓] theorem ev_aAnd  : aAnd t v env st qt er = t env st (fun c s1 => if c = true then v env s1 qt er else qt false s1) er := propext Iff.rfl
@[simp ↓] theorem ev_aOr  : aOr t v env st qt er = t env st (fun c s1 => if c = true then qt true s1 else v env s1 qt er) er := propext Iff.rfl
@[simp ↓] theorem ev_aNot  : aNot t env st qt er = t env st (fun c s1 => qt (!c) s1) er := propext Iff.rfl
@[simp ↓] theorem ev_aYes  : aYes env st qt er = qt true st := propext Iff.rfl
@[simp ↓] theorem ev_aAndV  : aAndV a b env st q er = a env st (fun x s1 => bq x fun c => if c = true then b env s1 q er else q (.bl false) s1) er := propext Iff.rfl
@[simp ↓] theorem ev_aOrV  : aOrV a b env st q er = a env st (fun x s1 => bq x fun c => if c = true then q (.bl true) s1 else b env s1 q er) er := propext Iff.rfl
@[simp ↓] theorem ev_aNotV  : aNotV a env st q er = a env st (fun x s1 => bq x fun c => q (.bl (!c)) s1) er := propext Iff.rfl
@[simp ↓] theorem ev_aNil  : aNil env st ql er = ql [] st := propext Iff.rfl
@[simp ↓] theorem ev_aCons  : aCons a as env st ql er = a env st (fun x s1 => as env s1 (fun xs s2 => ql (x :: xs) s2) er) er := propext Iff.rfl
@[simp ↓] theorem ev_aLst  : aLst as env st q er = as env st (fun xs s1 => xs.length ≤ 100000 ∧ q (.lst xs) s1) er := propext Iff.rfl
@[simp ↓] theorem ev_aTup  : aTup as env st q er = as env st (fun xs s1 => xs.length ≤ 100000 ∧ q (.tup xs) s1) er := propext Iff.rfl
@[simp ↓] theorem ev_aB  : aB fn as env st q er = as env st (fun xs s1 => fn (xs.map (vw s1)) fun z => q z s1) er := propext Iff.rfl
@[simp ↓] theorem ev_aFr  : aFr af env st q er = af env st (fun l s1 => q (.lst l) s1) er := propext Iff.rfl
@[simp ↓] theorem ev_aCall  : aCall m as dd env st q er = as env st (fun ds s1 => m (ds ++ dd) s1 (rsQ q) er) er := propext Iff.rfl
@[simp ↓] theorem ev_fCall  : fCall m as dd env st ql er = as env st (fun ds s1 => m (ds ++ dd) s1 (rsF ql) er) er := propext Iff.rfl
@[simp ↓] theorem ev_aCallK  : aCallK i m ix as env st q er = as env st (fun ds s1 => ds.length = i ∧ m (pick ix ds) s1 (rsQ q) er) er := propext Iff.rfl
@[simp ↓] theorem ev_fLc  : fLc it g t a vs env st ql er = it env st (fun ds gd s1 => aLcL gd g t a (wA vs env) ql ds [] s1) er := propext Iff.rfl
@[simp ↓] theorem ev_fLc2  : fLc2 it g t it1 g1 t1 a vs vs1 env st ql er = it env st (fun ds gd s1 => aLc2L gd g t it1 g1 t1 a vs1 (wA vs env) ql ds [] s1) er := propext Iff.rfl
@[simp ↓] theorem ev_fLst  : fLst as env st ql er = as env st (fun xs s1 => xs.length ≤ 100000 ∧ ql xs s1) er := propext Iff.rfl
@[simp ↓] theorem ev_fList  : fList a env st ql er = a env st (fun d s1 => ∃ l, itemsD (vw s1 d) = some l ∧ ql l s1) er := propext Iff.rfl
@[simp ↓] theorem ev_fIf  : fIf t af bf env st ql er = t env st (fun c s1 => if c = true then af env s1 ql er else bf env s1 ql er) er := propext Iff.rfl
@[simp ↓] theorem ev_agName  : agName i d env st z = z (env.set i (.d d)) := propext Iff.rfl
@[simp ↓] theorem ev_agNil  : agNil xs env st z = (xs = [] ∧ z env) := propext Iff.rfl
@[simp ↓] theorem ev_agCons  : agCons g gs (d :: xs) env st z = g d env st fun env2 => gs xs env2 st z := propext Iff.rfl
@[simp ↓] theorem ev_agTup  : agTup i gs (.tup xs) env st z = (xs.length = i ∧ gs xs env st z) := propext Iff.rfl
@[simp ↓] theorem ev_sNext  : sNext env st k = k.nx env st := propext Iff.rfl
@[simp ↓] theorem ev_sSeq  : sSeq s u env st k = s env st { k with nx := fun env2 st2 => u env2 st2 k } := propext Iff.rfl
@[simp ↓] theorem ev_sBreak  : sBreak env st k = k.bk env st := propext Iff.rfl
@[simp ↓] theorem ev_sCont  : sCont env st k = k.ct env st := propext Iff.rfl
@[simp ↓] theorem ev_sDrop  : sDrop a env st k = a env st (fun _ s1 => k.nx env s1) (fun e s1 => k.er e env s1) := propext Iff.rfl
@[simp ↓] theorem ev_sRet  : sRet a env st k = a env st (fun d s1 => k.rt (.d d) s1) (fun e s1 => k.er e env s1) := propext Iff.rfl
@[simp ↓] theorem ev_sRetN  : sRetN env st k = k.rt (.d .non) st := propext Iff.rfl
@[simp ↓] theorem ev_sRetF  : sRetF af env st k = af env st (fun l s1 => k.rt (.own l) s1) (fun e s1 => k.er e env s1) := propext Iff.rfl
@[simp ↓] theorem ev_sIf  : sIf t s u env st k = t env st (fun c s1 => if c = true then s env s1 k else u env s1 k) (fun e s1 => k.er e env s1) := propext Iff.rfl
@[simp ↓] theorem ev_sAsg  : sAsg a g env st k = a env st (fun d s1 => g d env s1 fun env2 => k.nx env2 s1) (fun e s1 => k.er e env s1) := propext Iff.rfl
@[simp ↓] theorem ev_sCell  : sCell af i env st k = af env st (fun l s1 => k.nx (env.set i (.d (.ref s1.length))) (s1 ++ [.lst l])) (fun e s1 => k.er e env s1) := propext Iff.rfl
@[simp ↓] theorem ev_sPar  : sPar i j as env st k = as env st (parQ i j env k) (fun e s1 => k.er e env s1) := propext Iff.rfl
@[simp ↓] theorem ev_sAug  : sAug i f a env st k = ∃ x, env[i]? = some (.d x) ∧ a env st (fun y s1 => f (vw s1 x) (vw s1 y) fun z => k.nx (env.set i (.d z)) s1) (fun e s1 => k.er e env s1) := propext Iff.rfl
@[simp ↓] theorem ev_sFor  : sFor it g s env st k = it env st (fun ds gd s1 => sForL gd g s ds env s1 k) (fun e s1 => k.er e env s1) := propext Iff.rfl
@[simp ↓] theorem ev_aIter  : aIter a env st qi er = a env st (fun d s1 => ∃ l, itemsD (vw s1 d) = some l ∧ qi l (gdOf s1 d) s1) er := propext Iff.rfl
@[simp ↓] theorem ev_aRng1  : aRng1 a env st qi er = a env st (rngQ qi) er := propext Iff.rfl
@[simp ↓] theorem ev_aRng2  : aRng2 a b env st qi er = a env st (fun d s1 => b env s1 (rngQ2 qi d) er) er := propext Iff.rfl
@[simp ↓] theorem ev_aApp  : aApp a b env st q er = a env st (fun x s1 => ∃ n l, x = .ref n ∧ s1[n]? = some (.lst l) ∧ b env s1 (fun y s2 => ∃ l, s2[n]? = some (.lst l) ∧ l.length < 100000 ∧ q .non (s2.set n (.lst (l ++ [y])))) er) er := propext Iff.rfl
@[simp ↓] theorem ev_sSetIx  : sSetIx b c a env st k = a env st (fun d s1 => b env s1 (fun x s2 => c env s2 (setQ env k d x) (fun e s => k.er e env s)) (fun e s => k.er e env s)) (fun e s => k.er e env s) := propext Iff.rfl
@[simp ↓] theorem ev_sFrz  : sFrz i s env st k = ∃ n l, env[i]? = some (.d (.ref n)) ∧ st[n]? = some (.lst l) ∧ s (env.set i (.d (.lst l))) (st.set n .dead) k := propext Iff.rfl
@[simp ↓] theorem ev_sForget  : sForget i s env st k = s (env.set i .no) st k := propext Iff.rfl
@[simp ↓] theorem ev_sRaise0 {c : Str} : sRaise0 c env st k = k.er ⟨c, none⟩ env st := propext Iff.rfl
@[simp ↓] theorem ev_sRaise1 {c h : Str} : sRaise1 c h a env st k = a env st (fun d s1 => k.er ⟨c, some (h, d)⟩ env s1) (fun e s1 => k.er e env s1) := propext Iff.rfl
@[simp ↓] theorem ev_oI {i j : Int} {q : D → Prop} {gg : Int → Int → D} : oI gg (.int i) (.int j) q = q (gg i j) := propext Iff.rfl
@[simp ↓] theorem ev_oIC {i j : Int} {q : D → Prop} {cc : Int → Int → Prop} {gg : Int → Int → D} : oIC cc gg (.int i) (.int j) q = (cc i j ∧ q (gg i j)) := propext Iff.rfl
@[simp ↓] theorem ev_oNeg {i : Int} {q : D → Prop}  : oNeg (.int i) q = q (.int (-i)) := propext Iff.rfl
@[simp ↓] theorem ev_oAddI {i j : Int} {q : D → Prop}  : oAdd (.int i) (.int j) q = q (.int (i + j)) := propext Iff.rfl
@[simp ↓] theorem ev_oAddL {l r : List D} {q : D → Prop}  : oAdd (.lst l) (.lst r) q = (l.length + r.length ≤ 100000 ∧ q (.lst (l ++ r))) := propext Iff.rfl
@[simp ↓] theorem ev_oAddT {l r : List D} {q : D → Prop}  : oAdd (.tup l) (.tup r) q = (l.length + r.length ≤ 100000 ∧ q (.tup (l ++ r))) := propext Iff.rfl
@[simp ↓] theorem ev_oIxL {l : List D} {i : Int} {q : D → Prop}  : oIx (.lst l) (.int i) q = ∃ d, atI l i = some d ∧ q d := propext Iff.rfl
@[simp ↓] theorem ev_oIxT {l : List D} {i : Int} {q : D → Prop}  : oIx (.tup l) (.int i) q = ∃ d, atI l i = some d ∧ q d := propext Iff.rfl
@[simp ↓] theorem ev_bInt {i : Int} {q : D → Prop}  : bInt [.int i] q = q (.int i) := propext Iff.rfl
@[simp ↓] theorem ev_bIntB {i : Bool} {q : D → Prop}  : bInt [.bl i] q = q (.int (if i then 1 else 0)) := propext Iff.rfl
@[simp ↓] theorem ev_bAbs {i : Int} {q : D → Prop}  : bAbs [.int i] q = q (.int (if i < 0 then -i else i)) := propext Iff.rfl
@[simp ↓] theorem ev_bMax2 {i j : Int} {q : D → Prop}  : bMax2 [.int i, .int j] q = q (.int (if j > i then j else i)) := propext Iff.rfl
@[simp ↓] theorem ev_bMin2 {i j : Int} {q : D → Prop}  : bMin2 [.int i, .int j] q = q (.int (if j < i then j else i)) := propext Iff.rfl
@[simp ↓] theorem ev_bLen {q : D → Prop}  : bLen [x] q = ∃ n, lenD x = some n ∧ q (.int n) := propext Iff.rfl
@[simp ↓] theorem ev_bList {q : D → Prop}  : bList [x] q = ∃ l, itemsD x = some l ∧ q (.lst l) := propext Iff.rfl
@[simp ↓] theorem ev_bTuple {q : D → Prop}  : bTuple [x] q = ∃ l, itemsD x = some l ∧ q (.tup l) := propext Iff.rfl
@[simp ↓] theorem ev_oEqI {i j : Int} {q : D → Prop} : oEq (.int i) (.int j) q = q (.bl (i == j)) := by
  unfold oEq D.shp
  simp [D.plain, D.dep, D.eqv]
@[simp ↓] theorem ev_oNeI {i j : Int} {q : D → Prop} : oNe (.int i) (.int j) q = q (.bl (!(i == j))) := by
  unfold oNe D.shp
  simp [D.plain, D.dep, D.eqv]
@[simp ↓] theorem isi_non_int  {q : D → Prop} : bIsi [.non, .ty "int"] q = q (.bl false) := propext ⟨fun ⟨_, _, e1, e2, w⟩ => by cases e1; rw [show kitB "NoneType" "int" = some false from by decide +kernel] at e2; cases e2; exact w, fun w => ⟨_, _, rfl, by decide +kernel, w⟩⟩
@[simp ↓] theorem isi_non_bool  {q : D → Prop} : bIsi [.non, .ty "bool"] q = q (.bl false) := propext ⟨fun ⟨_, _, e1, e2, w⟩ => by cases e1; rw [show kitB "NoneType" "bool" = some false from by decide +kernel] at e2; cases e2; exact w, fun w => ⟨_, _, rfl, by decide +kernel, w⟩⟩
@[simp ↓] theorem isi_non_list  {q : D → Prop} : bIsi [.non, .ty "list"] q = q (.bl false) := propext ⟨fun ⟨_, _, e1, e2, w⟩ => by cases e1; rw [show kitB "NoneType" "list" = some false from by decide +kernel] at e2; cases e2; exact w, fun w => ⟨_, _, rfl, by decide +kernel, w⟩⟩
@[simp ↓] theorem isi_non_tuple  {q : D → Prop} : bIsi [.non, .ty "tuple"] q = q (.bl false) := propext ⟨fun ⟨_, _, e1, e2, w⟩ => by cases e1; rw [show kitB "NoneType" "tuple" = some false from by decide +kernel] at e2; cases e2; exact w, fun w => ⟨_, _, rfl, by decide +kernel, w⟩⟩
@[simp ↓] theorem isi_non_dict  {q : D → Prop} : bIsi [.non, .ty "dict"] q = q (.bl false) := propext ⟨fun ⟨_, _, e1, e2, w⟩ => by cases e1; rw [show kitB "NoneType" "dict" = some false from by decide +kernel] at e2; cases e2; exact w, fun w => ⟨_, _, rfl, by decide +kernel, w⟩⟩
@[simp ↓] theorem isi_non_str  {q : D → Prop} : bIsi [.non, .ty "str"] q = q (.bl false) := propext ⟨fun ⟨_, _, e1, e2, w⟩ => by cases e1; rw [show kitB "NoneType" "str" = some false from by decide +kernel] at e2; cases e2; exact w, fun w => ⟨_, _, rfl, by decide +kernel, w⟩⟩
@[simp ↓] theorem isi_non_lt  {q : D → Prop} : bIsi [.non, .tup [.ty "list", .ty "tuple"]] q = q (.bl false) := propext ⟨fun ⟨_, cs, _, e1, e2, e3, w⟩ => by
  cases e1
  match cs, e2 with
  | [_, _], e2 =>
    cases e2
    rw [show kitS "NoneType" ["list", "tuple"] = some false from by decide +kernel] at e3; cases e3; exact w, fun w => ⟨_, ["list", "tuple"], _, rfl, rfl, by decide +kernel, w⟩⟩
@[simp ↓] theorem isi_bl_int {h : Bool} {q : D → Prop} : bIsi [.bl h, .ty "int"] q = q (.bl true) := propext ⟨fun ⟨_, _, e1, e2, w⟩ => by cases e1; rw [show kitB "bool" "int" = some true from by decide +kernel] at e2; cases e2; exact w, fun w => ⟨_, _, rfl, by decide +kernel, w⟩⟩
@[simp ↓] theorem isi_bl_bool {h : Bool} {q : D → Prop} : bIsi [.bl h, .ty "bool"] q = q (.bl true) := propext ⟨fun ⟨_, _, e1, e2, w⟩ => by cases e1; rw [show kitB "bool" "bool" = some true from by decide +kernel] at e2; cases e2; exact w, fun w => ⟨_, _, rfl, by decide +kernel, w⟩⟩
@[simp ↓] theorem isi_bl_list {h : Bool} {q : D → Prop} : bIsi [.bl h, .ty "list"] q = q (.bl false) := propext ⟨fun ⟨_, _, e1, e2, w⟩ => by cases e1; rw [show kitB "bool" "list" = some false from by decide +kernel] at e2; cases e2; exact w, fun w => ⟨_, _, rfl, by decide +kernel, w⟩⟩
@[simp ↓] theorem isi_bl_tuple {h : Bool} {q : D → Prop} : bIsi [.bl h, .ty "tuple"] q = q (.bl false) := propext ⟨fun ⟨_, _, e1, e2, w⟩ => by cases e1; rw [show kitB "bool" "tuple" = some false from by decide +kernel] at e2; cases e2; exact w, fun w => ⟨_, _, rfl, by decide +kernel, w⟩⟩
@[simp ↓] theorem isi_bl_dict {h : Bool} {q : D → Prop} : bIsi [.bl h, .ty "dict"] q = q (.bl false) := propext ⟨fun ⟨_, _, e1, e2, w⟩ => by cases e1; rw [show kitB "bool" "dict" = some false from by decide +kernel] at e2; cases e2; exact w, fun w => ⟨_, _, rfl, by decide +kernel, w⟩⟩
@[simp ↓] theorem isi_bl_str {h : Bool} {q : D → Prop} : bIsi [.bl h, .ty "str"] q = q (.bl false) := propext ⟨fun ⟨_, _, e1, e2, w⟩ => by cases e1; rw [show kitB "bool" "str" = some false from by decide +kernel] at e2; cases e2; exact w, fun w => ⟨_, _, rfl, by decide +kernel, w⟩⟩
@[simp ↓] theorem isi_bl_lt {h : Bool} {q : D → Prop} : bIsi [.bl h, .tup [.ty "list", .ty "tuple"]] q = q (.bl false) := propext ⟨fun ⟨_, cs, _, e1, e2, e3, w⟩ => by
  cases e1
  match cs, e2 with
  | [_, _], e2 =>
    cases e2
    rw [show kitS "bool" ["list", "tuple"] = some false from by decide +kernel] at e3; cases e3; exact w, fun w => ⟨_, ["list", "tuple"], _, rfl, rfl, by decide +kernel, w⟩⟩
@[simp ↓] theorem isi_int_int {h : Int} {q : D → Prop} : bIsi [.int h, .ty "int"] q = q (.bl true) := propext ⟨fun ⟨_, _, e1, e2, w⟩ => by cases e1; rw [show kitB "int" "int" = some true from by decide +kernel] at e2; cases e2; exact w, fun w => ⟨_, _, rfl, by decide +kernel, w⟩⟩
@[simp ↓] theorem isi_int_bool {h : Int} {q : D → Prop} : bIsi [.int h, .ty "bool"] q = q (.bl false) := propext ⟨fun ⟨_, _, e1, e2, w⟩ => by cases e1; rw [show kitB "int" "bool" = some false from by decide +kernel] at e2; cases e2; exact w, fun w => ⟨_, _, rfl, by decide +kernel, w⟩⟩
@[simp ↓] theorem isi_int_list {h : Int} {q : D → Prop} : bIsi [.int h, .ty "list"] q = q (.bl false) := propext ⟨fun ⟨_, _, e1, e2, w⟩ => by cases e1; rw [show kitB "int" "list" = some false from by decide +kernel] at e2; cases e2; exact w, fun w => ⟨_, _, rfl, by decide +kernel, w⟩⟩
@[simp ↓] theorem isi_int_tuple {h : Int} {q : D → Prop} : bIsi [.int h, .ty "tuple"] q = q (.bl false) := propext ⟨fun ⟨_, _, e1, e2, w⟩ => by cases e1; rw [show kitB "int" "tuple" = some false from by decide +kernel] at e2; cases e2; exact w, fun w => ⟨_, _, rfl, by decide +kernel, w⟩⟩
@[simp ↓] theorem isi_int_dict {h : Int} {q : D → Prop} : bIsi [.int h, .ty "dict"] q = q (.bl false) := propext ⟨fun ⟨_, _, e1, e2, w⟩ => by cases e1; rw [show kitB "int" "dict" = some false from by decide +kernel] at e2; cases e2; exact w, fun w => ⟨_, _, rfl, by decide +kernel, w⟩⟩
@[simp ↓] theorem isi_int_str {h : Int} {q : D → Prop} : bIsi [.int h, .ty "str"] q = q (.bl false) := propext ⟨fun ⟨_, _, e1, e2, w⟩ => by cases e1; rw [show kitB "int" "str" = some false from by decide +kernel] at e2; cases e2; exact w, fun w => ⟨_, _, rfl, by decide +kernel, w⟩⟩
@[simp ↓] theorem isi_int_lt {h : Int} {q : D → Prop} : bIsi [.int h, .tup [.ty "list", .ty "tuple"]] q = q (.bl false) := propext ⟨fun ⟨_, cs, _, e1, e2, e3, w⟩ => by
  cases e1
  match cs, e2 with
  | [_, _], e2 =>
    cases e2
    rw [show kitS "int" ["list", "tuple"] = some false from by decide +kernel] at e3; cases e3; exact w, fun w => ⟨_, ["list", "tuple"], _, rfl, rfl, by decide +kernel, w⟩⟩
@[simp ↓] theorem isi_str_int {h : Str} {q : D → Prop} : bIsi [.str h, .ty "int"] q = q (.bl false) := propext ⟨fun ⟨_, _, e1, e2, w⟩ => by cases e1; rw [show kitB "str" "int" = some false from by decide +kernel] at e2; cases e2; exact w, fun w => ⟨_, _, rfl, by decide +kernel, w⟩⟩
@[simp ↓] theorem isi_str_bool {h : Str} {q : D → Prop} : bIsi [.str h, .ty "bool"] q = q (.bl false) := propext ⟨fun ⟨_, _, e1, e2, w⟩ => by cases e1; rw [show kitB "str" "bool" = some false from by decide +kernel] at e2; cases e2; exact w, fun w => ⟨_, _, rfl, by decide +kernel, w⟩⟩
@[simp ↓] theorem isi_str_list {h : Str} {q : D → Prop} : bIsi [.str h, .ty "list"] q = q (.bl false) := propext ⟨fun ⟨_, _, e1, e2, w⟩ => by cases e1; rw [show kitB "str" "list" = some false from by decide +kernel] at e2; cases e2; exact w, fun w => ⟨_, _, rfl, by decide +kernel, w⟩⟩
@[simp ↓] theorem isi_str_tuple {h : Str} {q : D → Prop} : bIsi [.str h, .ty "tuple"] q = q (.bl false) := propext ⟨fun ⟨_, _, e1, e2, w⟩ => by cases e1; rw [show kitB "str" "tuple" = some false from by decide +kernel] at e2; cases e2; exact w, fun w => ⟨_, _, rfl, by decide +kernel, w⟩⟩
@[simp ↓] theorem isi_str_dict {h : Str} {q : D → Prop} : bIsi [.str h, .ty "dict"] q = q (.bl false) := propext ⟨fun ⟨_, _, e1, e2, w⟩ => by cases e1; rw [show kitB "str" "dict" = some false from by decide +kernel] at e2; cases e2; exact w, fun w => ⟨_, _, rfl, by decide +kernel, w⟩⟩
@[simp ↓] theorem isi_str_str {h : Str} {q : D → Prop} : bIsi [.str h, .ty "str"] q = q (.bl true) := propext ⟨fun ⟨_, _, e1, e2, w⟩ => by cases e1; rw [show kitB "str" "str" = some true from by decide +kernel] at e2; cases e2; exact w, fun w => ⟨_, _, rfl, by decide +kernel, w⟩⟩
@[simp ↓] theorem isi_str_lt {h : Str} {q : D → Prop} : bIsi [.str h, .tup [.ty "list", .ty "tuple"]] q = q (.bl false) := propext ⟨fun ⟨_, cs, _, e1, e2, e3, w⟩ => by
  cases e1
  match cs, e2 with
  | [_, _], e2 =>
    cases e2
    rw [show kitS "str" ["list", "tuple"] = some false from by decide +kernel] at e3; cases e3; exact w, fun w => ⟨_, ["list", "tuple"], _, rfl, rfl, by decide +kernel, w⟩⟩
@[simp ↓] theorem isi_lst_int {h : List D} {q : D → Prop} : bIsi [.lst h, .ty "int"] q = q (.bl false) := propext ⟨fun ⟨_, _, e1, e2, w⟩ => by cases e1; rw [show kitB "list" "int" = some false from by decide +kernel] at e2; cases e2; exact w, fun w => ⟨_, _, rfl, by decide +kernel, w⟩⟩
@[simp ↓] theorem isi_lst_bool {h : List D} {q : D → Prop} : bIsi [.lst h, .ty "bool"] q = q (.bl false) := propext ⟨fun ⟨_, _, e1, e2, w⟩ => by cases e1; rw [show kitB "list" "bool" = some false from by decide +kernel] at e2; cases e2; exact w, fun w => ⟨_, _, rfl, by decide +kernel, w⟩⟩
@[simp ↓] theorem isi_lst_list {h : List D} {q : D → Prop} : bIsi [.lst h, .ty "list"] q = q (.bl true) := propext ⟨fun ⟨_, _, e1, e2, w⟩ => by cases e1; rw [show kitB "list" "list" = some true from by decide +kernel] at e2; cases e2; exact w, fun w => ⟨_, _, rfl, by decide +kernel, w⟩⟩
@[simp ↓] theorem isi_lst_tuple {h : List D} {q : D → Prop} : bIsi [.lst h, .ty "tuple"] q = q (.bl false) := propext ⟨fun ⟨_, _, e1, e2, w⟩ => by cases e1; rw [show kitB "list" "tuple" = some false from by decide +kernel] at e2; cases e2; exact w, fun w => ⟨_, _, rfl, by decide +kernel, w⟩⟩
@[simp ↓] theorem isi_lst_dict {h : List D} {q : D → Prop} : bIsi [.lst h, .ty "dict"] q = q (.bl false) := propext ⟨fun ⟨_, _, e1, e2, w⟩ => by cases e1; rw [show kitB "list" "dict" = some false from by decide +kernel] at e2; cases e2; exact w, fun w => ⟨_, _, rfl, by decide +kernel, w⟩⟩
@[simp ↓] theorem isi_lst_str {h : List D} {q : D → Prop} : bIsi [.lst h, .ty "str"] q = q (.bl false) := propext ⟨fun ⟨_, _, e1, e2, w⟩ => by cases e1; rw [show kitB "list" "str" = some false from by decide +kernel] at e2; cases e2; exact w, fun w => ⟨_, _, rfl, by decide +kernel, w⟩⟩
@[simp ↓] theorem isi_lst_lt {h : List D} {q : D → Prop} : bIsi [.lst h, .tup [.ty "list", .ty "tuple"]] q = q (.bl true) := propext ⟨fun ⟨_, cs, _, e1, e2, e3, w⟩ => by
  cases e1
  match cs, e2 with
  | [_, _], e2 =>
    cases e2
    rw [show kitS "list" ["list", "tuple"] = some true from by decide +kernel] at e3; cases e3; exact w, fun w => ⟨_, ["list", "tuple"], _, rfl, rfl, by decide +kernel, w⟩⟩
@[simp ↓] theorem isi_tup_int {h : List D} {q : D → Prop} : bIsi [.tup h, .ty "int"] q = q (.bl false) := propext ⟨fun ⟨_, _, e1, e2, w⟩ => by cases e1; rw [show kitB "tuple" "int" = some false from by decide +kernel] at e2; cases e2; exact w, fun w => ⟨_, _, rfl, by decide +kernel, w⟩⟩
@[simp ↓] theorem isi_tup_bool {h : List D} {q : D → Prop} : bIsi [.tup h, .ty "bool"] q = q (.bl false) := propext ⟨fun ⟨_, _, e1, e2, w⟩ => by cases e1; rw [show kitB "tuple" "bool" = some false from by decide +kernel] at e2; cases e2; exact w, fun w => ⟨_, _, rfl, by decide +kernel, w⟩⟩
@[simp ↓] theorem isi_tup_list {h : List D} {q : D → Prop} : bIsi [.tup h, .ty "list"] q = q (.bl false) := propext ⟨fun ⟨_, _, e1, e2, w⟩ => by cases e1; rw [show kitB "tuple" "list" = some false from by decide +kernel] at e2; cases e2; exact w, fun w => ⟨_, _, rfl, by decide +kernel, w⟩⟩
@[simp ↓] theorem isi_tup_tuple {h : List D} {q : D → Prop} : bIsi [.tup h, .ty "tuple"] q = q (.bl true) := propext ⟨fun ⟨_, _, e1, e2, w⟩ => by cases e1; rw [show kitB "tuple" "tuple" = some true from by decide +kernel] at e2; cases e2; exact w, fun w => ⟨_, _, rfl, by decide +kernel, w⟩⟩
@[simp ↓] theorem isi_tup_dict {h : List D} {q : D → Prop} : bIsi [.tup h, .ty "dict"] q = q (.bl false) := propext ⟨fun ⟨_, _, e1, e2, w⟩ => by cases e1; rw [show kitB "tuple" "dict" = some false from by decide +kernel] at e2; cases e2; exact w, fun w => ⟨_, _, rfl, by decide +kernel, w⟩⟩
@[simp ↓] theorem isi_tup_str {h : List D} {q : D → Prop} : bIsi [.tup h, .ty "str"] q = q (.bl false) := propext ⟨fun ⟨_, _, e1, e2, w⟩ => by cases e1; rw [show kitB "tuple" "str" = some false from by decide +kernel] at e2; cases e2; exact w, fun w => ⟨_, _, rfl, by decide +kernel, w⟩⟩
@[simp ↓] theorem isi_tup_lt {h : List D} {q : D → Prop} : bIsi [.tup h, .tup [.ty "list", .ty "tuple"]] q = q (.bl true) := propext ⟨fun ⟨_, cs, _, e1, e2, e3, w⟩ => by
  cases e1
  match cs, e2 with
  | [_, _], e2 =>
    cases e2
    rw [show kitS "tuple" ["list", "tuple"] = some true from by decide +kernel] at e3; cases e3; exact w, fun w => ⟨_, ["list", "tuple"], _, rfl, rfl, by decide +kernel, w⟩⟩
@[simp ↓] theorem isi_dic_int {h : List (D × D)} {q : D → Prop} : bIsi [.dic h, .ty "int"] q = q (.bl false) := propext ⟨fun ⟨_, _, e1, e2, w⟩ => by cases e1; rw [show kitB "dict" "int" = some false from by decide +kernel] at e2; cases e2; exact w, fun w => ⟨_, _, rfl, by decide +kernel, w⟩⟩
@[simp ↓] theorem isi_dic_bool {h : List (D × D)} {q : D → Prop} : bIsi [.dic h, .ty "bool"] q = q (.bl false) := propext ⟨fun ⟨_, _, e1, e2, w⟩ => by cases e1; rw [show kitB "dict" "bool" = some false from by decide +kernel] at e2; cases e2; exact w, fun w => ⟨_, _, rfl, by decide +kernel, w⟩⟩
@[simp ↓] theorem isi_dic_list {h : List (D × D)} {q : D → Prop} : bIsi [.dic h, .ty "list"] q = q (.bl false) := propext ⟨fun ⟨_, _, e1, e2, w⟩ => by cases e1; rw [show kitB "dict" "list" = some false from by decide +kernel] at e2; cases e2; exact w, fun w => ⟨_, _, rfl, by decide +kernel, w⟩⟩
@[simp ↓] theorem isi_dic_tuple {h : List (D × D)} {q : D → Prop} : bIsi [.dic h, .ty "tuple"] q = q (.bl false) := propext ⟨fun ⟨_, _, e1, e2, w⟩ => by cases e1; rw [show kitB "dict" "tuple" = some false from by decide +kernel] at e2; cases e2; exact w, fun w => ⟨_, _, rfl, by decide +kernel, w⟩⟩
@[simp ↓] theorem isi_dic_dict {h : List (D × D)} {q : D → Prop} : bIsi [.dic h, .ty "dict"] q = q (.bl true) := propext ⟨fun ⟨_, _, e1, e2, w⟩ => by cases e1; rw [show kitB "dict" "dict" = some true from by decide +kernel] at e2; cases e2; exact w, fun w => ⟨_, _, rfl, by decide +kernel, w⟩⟩
@[simp ↓] theorem isi_dic_str {h : List (D × D)} {q : D → Prop} : bIsi [.dic h, .ty "str"] q = q (.bl false) := propext ⟨fun ⟨_, _, e1, e2, w⟩ => by cases e1; rw [show kitB "dict" "str" = some false from by decide +kernel] at e2; cases e2; exact w, fun w => ⟨_, _, rfl, by decide +kernel, w⟩⟩
@[simp ↓] theorem isi_dic_lt {h : List (D × D)} {q : D → Prop} : bIsi [.dic h, .tup [.ty "list", .ty "tuple"]] q = q (.bl false) := propext ⟨fun ⟨_, cs, _, e1, e2, e3, w⟩ => by
  cases e1
  match cs, e2 with
  | [_, _], e2 =>
    cases e2
    rw [show kitS "dict" ["list", "tuple"] = some false from by decide +kernel] at e3; cases e3; exact w, fun w => ⟨_, ["list", "tuple"], _, rfl, rfl, by decide +kernel, w⟩⟩
@[simp] theorem vw_non  : vw st (.non) = .non := rfl
@[simp] theorem gdOf_non  : gdOf st (.non) = [] := rfl
@[simp] theorem vw_bl {b : Bool} : vw st (.bl b) = .bl b := rfl
@[simp] theorem gdOf_bl {b : Bool} : gdOf st (.bl b) = [] := rfl
@[simp] theorem vw_int {i : Int} : vw st (.int i) = .int i := rfl
@[simp] theorem gdOf_int {i : Int} : gdOf st (.int i) = [] := rfl
@[simp] theorem vw_str {h : Str} : vw st (.str h) = .str h := rfl
@[simp] theorem gdOf_str {h : Str} : gdOf st (.str h) = [] := rfl
@[simp] theorem vw_lst {l : List D} : vw st (.lst l) = .lst l := rfl
@[simp] theorem gdOf_lst {l : List D} : gdOf st (.lst l) = [] := rfl
@[simp] theorem vw_tup {l : List D} : vw st (.tup l) = .tup l := rfl
@[simp] theorem gdOf_tup {l : List D} : gdOf st (.tup l) = [] := rfl
@[simp] theorem vw_dic {l : List (D × D)} : vw st (.dic l) = .dic l := rfl
@[simp] theorem gdOf_dic {l : List (D × D)} : gdOf st (.dic l) = [] := rfl
@[simp] theorem vw_obj {h : Str} {l : List (Str × D)} : vw st (.obj h l) = .obj h l := rfl
@[simp] theorem gdOf_obj {h : Str} {l : List (Str × D)} : gdOf st (.obj h l) = [] := rfl
@[simp] theorem vw_fn {h : Str} : vw st (.fn h) = .fn h := rfl
@[simp] theorem gdOf_fn {h : Str} : gdOf st (.fn h) = [] := rfl
@[simp] theorem vw_ty {h : String} : vw st (.ty h) = .ty h := rfl
@[simp] theorem gdOf_ty {h : String} : gdOf st (.ty h) = [] := rfl
@[simp] theorem vw_scr {l : List Int} : vw st (.scr l) = .scr l := rfl
@[simp] theorem gdOf_scr {l : List Int} : gdOf st (.scr l) = [] := rfl
theorem vw_ref {n : Nat} {l : List D} (h : st[n]? = some (.lst l)) : vw st (.ref n) = .lst l := by unfold vw; simp only [h]
theorem vw_refO {n : Nat} {c : Str} {l : List (Str × D)} (h : st[n]? = some (.obj c l)) : vw st (.ref n) = .obj c l := by unfold vw; simp only [h]
theorem vw_refD {n : Nat} {l : List (D × D)} (h : st[n]? = some (.dic l)) : vw st (.ref n) = .dic l := by unfold vw; simp only [h]
theorem gdOf_ref {n : Nat} {c : C} (h : st[n]? = some c) : gdOf st (.ref n) = [(n, c)] := by unfold gdOf; simp only [h]
@[simp] theorem gdOk_nil : gdOk [] st = True := by unfold gdOk; simp
@[simp] theorem gdOk_one {n : Nat} {c : C} : gdOk [(n, c)] st = (st[n]? = some c) := by unfold gdOk; simp
@[simp] theorem itemsD_lst {l : List D} : itemsD (.lst l) = some l := rfl
@[simp] theorem itemsD_tup {l : List D} : itemsD (.tup l) = some l := rfl
@[simp] theorem lenD_lst {l : List D} : lenD (.lst l) = some l.length := rfl
@[simp] theorem lenD_tup {l : List D} : lenD (.tup l) = some l.length := rfl
@[simp] theorem truthD_int {h : Int} : truthD (.int h) = some (h != 0) := rfl
@[simp] theorem truthD_bl {h : Bool} : truthD (.bl h) = some h := rfl
@[simp] theorem truthD_non : truthD .non = some false := rfl
@[simp] theorem truthD_lst {l : List D} : truthD (.lst l) = some (!l.isEmpty) := rfl
@[simp] theorem truthD_tup {l : List D} : truthD (.tup l) = some (!l.isEmpty) := rfl
@[simp] theorem wA_nil : wA [] env = env := rfl
@[simp] theorem wA_cons : wA (i :: vs) env = (wA vs env).set i .no := rfl
theorem for_nil : sForL gd g s [] env st k = (gdOk gd st ∧ k.nx env st) := propext Iff.rfl
theorem for_cons : sForL gd g s (x :: xs) env st k = (gdOk gd st ∧ g x env st fun e1 => s e1 st { k with nx := fun e2 s2 => sForL gd g s xs e2 s2 k, ct := fun e2 s2 => sForL gd g s xs e2 s2 k, bk := k.nx }) := propext Iff.rfl
theorem lc_nil : aLcL gd g t a env ql [] xs st = (gdOk gd st ∧ ql xs st) := propext Iff.rfl
theorem lc_cons {acc : List D} : aLcL gd g t a env ql (x :: xs) acc st = (gdOk gd st ∧ g x env st fun e1 => t e1 st (fun b s2 => if b = true then a e1 s2 (fun y s3 => acc.length < 100000 ∧ aLcL gd g t a env ql xs (acc ++ [y]) s3) (fun _ _ => False) else aLcL gd g t a env ql xs acc s2) (fun _ _ => False)) := propext Iff.rfl
theorem wh_succ {n : Nat} : sWhN t s (n + 1) env st k = t env st (fun c s1 => if c = true then s env s1 { k with nx := fun e2 s2 => sWhN t s n e2 s2 k, ct := fun e2 s2 => sWhN t s n e2 s2 k, bk := k.nx } else k.nx env s1) (fun e s1 => k.er e env s1) := propext Iff.rfl
/-- a comprehension whose items come without a change of the store -/
theorem lc_eq {G : D → D} {p : D → Bool} (hg : gdOk gd st) : ∀ (ds acc : List D), (∀ x ∈ ds, ∀ (P1 : D → S → Prop) (P2 : S → Prop), (g x env st fun e1 => t e1 st (fun b s2 => if b = true then a e1 s2 P1 (fun _ _ => False) else P2 s2) (fun _ _ => False)) = if p x = true then P1 (G x) st else P2 st) → acc.length + ds.length ≤ 100000 → aLcL gd g t a env ql ds acc st = ql (acc ++ (ds.filter p).map G) st
  | [], acc, _, _ => by rw [lc_nil]; simp [hg]
  | x :: xs, acc, h, hl => by
    rw [lc_cons, h x (by simp)]
    have hl' : acc.length < 100000 := by simp at hl; omega
    by_cases hp : p x = true
    · rw [if_pos hp, lc_eq hg xs _ (fun y hy => h y (by simp [hy])) (by simp at hl ⊢; omega)]
      simp [hg, hl', hp, List.filter_cons]
    · rw [if_neg hp, lc_eq hg xs _ (fun y hy => h y (by simp [hy])) (by simp at hl ⊢; omega)]
      simp [hg, hp, List.filter_cons]
theorem lc_map {G : D → D} (hg : gdOk gd st) (ds acc : List D) (h : ∀ x ∈ ds, ∀ (P1 : D → S → Prop) (P2 : S → Prop), (g x env st fun e1 => t e1 st (fun b s2 => if b = true then a e1 s2 P1 (fun _ _ => False) else P2 s2) (fun _ _ => False)) = P1 (G x) st) (hl : acc.length + ds.length ≤ 100000) : aLcL gd g t a env ql ds acc st = ql (acc ++ ds.map G) st := by
  rw [lc_eq (G := G) (p := fun _ => true) hg ds acc (fun x hx P1 P2 => by rw [h x hx, if_pos rfl]) hl, List.filter_eq_self.mpr (fun _ _ => rfl)]
/-- loops by what holds ahead of the items that are left -/
theorem for_ind {P : List D → List A → S → Prop} (h0 : ∀ env st, P [] env st → gdOk gd st ∧ k.nx env st) (h1 : ∀ x xs env st, P (x :: xs) env st → ∀ nx : List A → S → Prop, (∀ e s, P xs e s → nx e s) → gdOk gd st ∧ g x env st fun e1 => s e1 st { k with nx := nx, ct := nx, bk := k.nx }) : ∀ ds env st, P ds env st → sForL gd g s ds env st k
  | [], env, st, h => h0 env st h
  | x :: xs, env, st, h => h1 x xs env st h _ fun e s hp => for_ind h0 h1 xs e s hp
theorem wh_ind {P : Nat → List A → S → Prop} (h1 : ∀ n env st, P n env st → ∀ nx : List A → S → Prop, (∀ m e s, m < n → P m e s → nx e s) → t env st (fun c s1 => if c = true then s env s1 { k with nx := nx, ct := nx, bk := k.nx } else k.nx env s1) (fun e s1 => k.er e env s1))
    (mono : ∀ {n env st}, P n env st → ∀ {m}, n ≤ m → P m env st) : ∀ n env st, P n env st → sWhN t s (n + 1) env st k := by
  intro n
  induction n with
  | zero => exact fun env st h => h1 0 env st h _ fun m e s hm _ => absurd hm (by omega)
  | succ n ih => exact fun env st h => h1 (n + 1) env st h _ fun m e s hm hp => ih e s (mono hp (by omega))
end
end AM
set_option Elab.async false
set_option linter.all false
set_option maxRecDepth 100000
set_option maxHeartbeats 4000000
namespace AM
open L2
/-- _law_take -/
def aTake : AS := sSeq (sIf (aTest (aOp oEq (aPoolIx 0 1) (aC (.int 0)))) (sSeq (sAsg (aPoolIx 0 0) (agName 3))
  (sSeq (sPoolSet 0 0 (aOp oAdd (aVar 3) (aC (.int 1))))
  (sSeq (sAsg (aOp oIx (aOp oAdd (aPoolIx 0 2) (aLst (aCons (aC (.int 0)) (aNil)))) (aOp oMod (aB bInt (aCons (aVar 3) (aNil))) (aB bMax2 (aCons (aC (.int 1)) (aCons (aB bLen (aCons (aPoolIx 0 2) (aNil))) (aNil)))))) (agName 4))
  (sSeq (sAsg (aOp oMod (aOp oPow (aOp oAdd (aOp oAdd (aOp oMod (aB bInt (aCons (aVar 4) (aNil))) (aC (.int 2147483647))) (aOp oMul (aC (.int 7919)) (aVar 3))) (aC (.int 13))) (aC (.int 5))) (aC (.int 2147483647))) (agName 5))
  (sSeq (sAsg (aOp oMod (aOp oPow (aOp oAdd (aOp oAdd (aVar 5) (aOp oMul (aC (.int 104729)) (aVar 3))) (aC (.int 29))) (aC (.int 3))) (aC (.int 2147483629))) (agName 5))
  (sSeq (sIf (aTest (aOp oLt (aVar 4) (aOp oPow (aC (.int 10)) (aC (.int 18))))) (sRet (aOp oMod (aOp oFdiv (aVar 5) (aC (.int 11))) (aVar 1))) (sNext))
  (sPoolSet 0 1 (aVar 4)))))))) (sNext))
  (sSeq (sAsg (aOp oMod (aB bInt (aCons (aPoolIx 0 1) (aNil))) (aVar 1)) (agName 2))
  (sSeq (sPoolSet 0 1 (aOp oFdiv (aPoolIx 0 1) (aVar 1)))
  (sRet (aVar 2))))
theorem atI_lt {α : Type} {l : List α} {i : Int} (h0 : 0 ≤ i) (h1 : i < l.length) : ∃ d, atI l i = some d ∧ d ∈ l := by
  have e : ixN l.length i = some i.toNat := by unfold ixN; rw [if_pos h0, if_pos h1]
  have hl : i.toNat < l.length := by omega
  exact ⟨l[i.toNat], by unfold atI; rw [e]; show l[i.toNat]? = _; exact List.getElem?_eq_getElem hl, List.getElem_mem hl⟩
/-- a draw: a number below k; the pool's count may grow by one -/
def mTake : AF := fun args st q _ => ∃ n m ns k, args = [.ref n, .int k] ∧ st[n]? = some (.pool m ns) ∧ 0 < k ∧ k.natAbs.log2 < 9000 ∧ m < 10 ^ 12 ∧
  ∀ (x : Int) (m' : Nat), 0 ≤ x → x < k → m ≤ m' → m' ≤ m + 1 → q (.d (.int x)) (st.set n (.pool m' ns))
section
variable {env : List A} {st : S} {q : D → S → Prop} {er : QX} {n i : Nat} {m : Nat} {ns : List Int}
theorem pool0 (e : env[i]? = some (.d (.ref n))) (h : st[n]? = some (.pool m ns)) : aPoolIx i 0 env st q er = ∀ a : Int, 0 ≤ a → a ≤ m → q (.int a) st := propext ⟨fun ⟨n', m', ns', e', h', k⟩ => by
    rw [e] at e'; cases e'; rw [h] at h'; cases h'; exact k, fun k => ⟨n, m, ns, e, h, k⟩⟩
theorem pool1 (e : env[i]? = some (.d (.ref n))) (h : st[n]? = some (.pool m ns)) : aPoolIx i 1 env st q er = ∀ l : Int, 0 ≤ l → q (.int l) st := propext ⟨fun ⟨n', m', ns', e', h', k⟩ => by
    rw [e] at e'; cases e'; rw [h] at h'; cases h'; exact k, fun k => ⟨n, m, ns, e, h, k⟩⟩
theorem pool2 (e : env[i]? = some (.d (.ref n))) (h : st[n]? = some (.pool m ns)) : aPoolIx i 2 env st q er = (ns.length ≤ 63 → q (.lst (ns.map .int)) st) := propext ⟨fun ⟨n', m', ns', e', h', k⟩ => by
    rw [e] at e'; cases e'; rw [h] at h'; cases h'; exact k, fun k => ⟨n, m, ns, e, h, k⟩⟩
theorem poolS0 {a : AE} {k : AK} (e : env[i]? = some (.d (.ref n))) : sPoolSet i 0 a env st k = a env st (fun d s1 => ∃ m ns v, s1[n]? = some (.pool m ns) ∧ d = .int v ∧ 0 ≤ v ∧ k.nx env (s1.set n (.pool (max m v.toNat) ns))) (fun e s => k.er e env s) := by
  unfold sPoolSet
  congr 1
  funext d s1
  exact propext ⟨fun ⟨n', m', ns', v, e', h', k⟩ => by
    rw [e] at e'; cases e'; exact ⟨m', ns', v, h', k⟩, fun ⟨m, ns, v, h, k⟩ => ⟨n, m, ns, v, e, h, k⟩⟩
theorem poolS1 {a : AE} {k : AK} (e : env[i]? = some (.d (.ref n))) : sPoolSet i 1 a env st k = a env st (fun d s1 => ∃ m ns v, s1[n]? = some (.pool m ns) ∧ d = .int v ∧ 0 ≤ v ∧ k.nx env (s1.set n (.pool m ns))) (fun e s => k.er e env s) := by
  unfold sPoolSet
  congr 1
  funext d s1
  exact propext ⟨fun ⟨n', m', ns', v, e', h', k⟩ => by
    rw [e] at e'; cases e'; exact ⟨m', ns', v, h', k⟩, fun ⟨m, ns, v, h, k⟩ => ⟨n, m, ns, v, e, h, k⟩⟩
end
theorem take_ok : ∀ args st q er, mTake args st q er → fnP 2 6 aTake args st q er := by
  rintro args st q er ⟨n, m, ns, k, rfl, hn, hk, hl, hm, h⟩
  refine ⟨rfl, ?_⟩
  show aTake [.d (.ref n), .d (.int k), .no, .no, .no, .no] st _
  unfold aTake
  have hlt : n < st.length := (List.getElem?_eq_some_iff.mp hn).1
  have fm : ∀ x : Int, 0 ≤ x.fmod k ∧ x.fmod k < k := fun x => ⟨Int.fmod_nonneg_of_pos x hk, Int.fmod_lt_of_pos x hk⟩
  have k0 : k ≠ 0 := by omega
  have cfd : ∀ x, CFd x k := fun x => ⟨k0, hl⟩
  have fd0 : ∀ x : Int, 0 ≤ x → 0 ≤ x.fdiv k := fun x hx => Int.fdiv_nonneg hx (by omega)
  have lg : ∀ a : Int, 0 ≤ a → a ≤ m → a.natAbs.log2 < 100 := fun a h0 h1 => by
    by_cases hz : a.natAbs = 0
    · rw [hz]; decide
    · refine (Nat.log2_lt hz).mpr (Nat.lt_of_le_of_lt (m := 10 ^ 12) (by omega) (by decide))
  have p1 : ∀ {l : List A} {q : D → S → Prop} {er : QX}, aPoolIx 0 1 (A.d (.ref n) :: l) st q er = ∀ l : Int, 0 ≤ l → q (.int l) st := pool1 rfl hn
  have gs : ∀ c, (st.set n c)[n]? = some c := fun c => List.getElem?_set_self hlt
  have pS1 : ∀ {l : List A} {s : S} {a : AE} {k : AK}, sPoolSet 0 1 a (A.d (.ref n) :: l) s k = a (A.d (.ref n) :: l) s (fun d s1 => ∃ m ns v, s1[n]? = some (.pool m ns) ∧ d = .int v ∧ 0 ≤ v ∧ k.nx (A.d (.ref n) :: l) (s1.set n (.pool m ns))) (fun e s => k.er e (A.d (.ref n) :: l) s) := poolS1 rfl
  have pS0 : ∀ {l : List A} {s : S} {a : AE} {k : AK}, sPoolSet 0 0 a (A.d (.ref n) :: l) s k = a (A.d (.ref n) :: l) s (fun d s1 => ∃ m ns v, s1[n]? = some (.pool m ns) ∧ d = .int v ∧ 0 ≤ v ∧ k.nx (A.d (.ref n) :: l) (s1.set n (.pool (max m v.toNat) ns))) (fun e s => k.er e (A.d (.ref n) :: l) s) := poolS0 rfl
  simp only [ev_sSeq, ev_sIf, ev_aTest, ev_aOp, p1, ev_aC]
  intro l hl0
  simp only [vw_int, ev_oEqI, tsQ_bl, beq_iff_eq]
  have tail : ∀ (l3 : List A) (m' : Nat), m ≤ m' → m' ≤ m + 1 → sAsg (aOp oMod (aB bInt (aCons (aPoolIx 0 1) aNil)) (aVar 1)) (agName 2) (.d (.ref n) :: .d (.int k) :: .no :: l3) (st.set n (.pool m' ns)) { nx := fun env2 st2 => sSeq (sPoolSet 0 1 (aOp oFdiv (aPoolIx 0 1) (aVar 1))) (sRet (aVar 2)) env2 st2 ⟨fun _ s => q (.d .non) s, q, fun _ _ => False, fun _ _ => False, fun e _ s => er e s⟩, rt := q, bk := fun _ _ => False, ct := fun _ _ => False, er := fun e _ s => er e s } := fun l3 m' h1 h2 => by
    have p1' : ∀ {l : List A} {q : D → S → Prop} {er : QX}, aPoolIx 0 1 (A.d (.ref n) :: l) (st.set n (.pool m' ns)) q er = ∀ l : Int, 0 ≤ l → q (.int l) (st.set n (.pool m' ns)) := pool1 rfl (gs _)
    simp [p1', and_assoc, pS1, k0, gs, cfd, fd0]
    intro x hx y hy
    exact ⟨fd0 y hy, h _ _ (fm x).1 (fm x).2 h1 h2⟩
  split
  · have p0 : ∀ {l : List A} {q : D → S → Prop} {er : QX}, aPoolIx 0 0 (A.d (.ref n) :: l) st q er = ∀ a : Int, 0 ≤ a → a ≤ m → q (.int a) st := pool0 rfl hn
    simp only [ev_sAsg, p0, ev_agName]
    intro a ha0 ha1
    simp [pS0, hn, and_assoc]
    refine ⟨by omega, ?_⟩
    have mx : m ≤ max m (a + 1).toNat ∧ max m (a + 1).toNat ≤ m + 1 := by omega
    generalize max m (a + 1).toNat = m' at mx ⊢
    have p2 : ∀ {l : List A} {q : D → S → Prop} {er : QX}, aPoolIx 0 2 (A.d (.ref n) :: l) (st.set n (.pool m' ns)) q er = (ns.length ≤ 63 → q (.lst (ns.map .int)) (st.set n (.pool m' ns))) := pool2 rfl (gs _)
    simp [p2, and_assoc]
    intro h63
    refine ⟨by omega, ?_⟩
    have hmax : (0 : Int) < (if (1 : Int) < (ns.length : Int) then (ns.length : Int) else 1) := by split <;> omega
    refine fun _ => ⟨by split <;> omega, ?_⟩
    have b0 := Int.fmod_nonneg_of_pos a hmax
    have b1 := Int.fmod_lt_of_pos a hmax
    obtain ⟨d, hd, dm⟩ := atI_lt (l := ns.map D.int ++ [D.int 0]) b0 (by
      rw [List.length_append, List.length_map]
      show _ < ((ns.length + 1 : Nat) : Int)
      have : (if (1 : Int) < (ns.length : Int) then (ns.length : Int) else 1) ≤ (ns.length : Int) + 1 := by split <;> omega
      omega)
    obtain ⟨v, rfl⟩ : ∃ v, d = D.int v := by
      rcases List.mem_append.mp dm with h | h
      · obtain ⟨v, _, e⟩ := List.mem_map.mp h
        exact ⟨v, e.symm⟩
      · exact ⟨0, by simpa using h⟩
    refine ⟨_, hd, ?_⟩
    have hlg := lg a ha0 ha1
    have c1 : CMulW 7919 a := by show (7919 : Int).natAbs.log2 + a.natAbs.log2 < 1000000; have : (7919 : Int).natAbs.log2 = 12 := by decide
                                 omega
    have c2 : CMulW 104729 a := by show (104729 : Int).natAbs.log2 + a.natAbs.log2 < 1000000; have : (104729 : Int).natAbs.log2 = 16 := by decide
                                   omega
    have r1 : 0 ≤ v.fmod 2147483647 ∧ v.fmod 2147483647 < 2147483647 := ⟨Int.fmod_nonneg_of_pos v (by decide), Int.fmod_lt_of_pos v (by decide)⟩
    have p1 : CPow (v.fmod 2147483647 + 7919 * a + 13) 5 := ⟨by decide, by decide, by omega⟩
    have r2 := fun x : Int => (⟨Int.fmod_nonneg_of_pos x (by decide), Int.fmod_lt_of_pos x (by decide)⟩ : 0 ≤ x.fmod 2147483647 ∧ x.fmod 2147483647 < 2147483647)
    have p2 : ∀ x : Int, CPow (x.fmod 2147483647 + 104729 * a + 29) 3 := fun x => by have := r2 x; exact ⟨by decide, by decide, by omega⟩
    have p3 : CPow 10 18 := ⟨by decide, by decide, by decide⟩
    have c11 : ∀ x, CFd x 11 := fun x => ⟨by decide, by decide⟩
    simp [c1, c2, p1, p2, p3, c11, k0, cfd, pS1, gs, and_assoc]
    split
    · exact h _ _ (fm _).1 (fm _).2 mx.1 mx.2
    · refine ⟨by omega, ?_⟩
      have := tail [.d (.int a), .d (.int v), .d (.int ((((v.fmod 2147483647 + 7919 * a + 13) ^ 5).fmod 2147483647 + 104729 * a + 29) ^ 3 |>.fmod 2147483629))] m' mx.1 mx.2
      simpa [c1, c2, p1, p2, p3, c11, k0, cfd, pS1, gs, and_assoc] using this
  · have e : st.set n (.pool m ns) = st := by
      apply List.ext_getElem?
      intro j
      by_cases hj : n = j
      · subst hj; rw [List.getElem?_set_self hlt, hn]
      · rw [List.getElem?_set_ne hj]
    have := tail [.no, .no, .no] m (Nat.le_refl _) (by omega)
    rw [e] at this
    simp only [ev_sNext]
    exact this
end AM
set_option Elab.async false
set_option linter.all false
set_option maxRecDepth 100000
set_option maxHeartbeats 4000000
namespace AM
open PySem PySem.W L2
/-! ### an error class with its own __init__, read off the top -/
structure XD where
  cls : Str
  params : Arguments
  body : List Stmt
  scope : Scope
abbrev XW : Type := Option (Str × Arguments × FuncBody × Scope × Addr × List Str × Addr)
def xw (K : Frag) (x : Str) : XW := match K.lookup (He.ma K (He.ga K x) "__init__") with
  | some ⟨_, _, .func fd, _⟩ => some (fd.name, fd.params, fd.body, fd.scope, fd.globals, fd.closure.map (·.1), fd.builtins)
  | _ => none
def XD.val (d : XD) : XW := some ("__init__", d.params, .stmts d.body, d.scope, mainGlobals, ["__class__"], builtinsNs)
def oexB (K : Frag) (C : Addr) : Bool := (match K.lookup C with
  | some ⟨.type t, _, .cls cd, sl⟩ => (match cd.mro, sl.toList with
    | .ref C' :: bm, [_, _, _, _, some (.builtin n), _] => decide (t = "type") && (decide (C' = C) && (decide (n = "ValueError.__new__") && (!cd.hasDel && (cd.hasDict && HandSPX.refsVE bm))))
    | _, _ => false)
  | _ => false) && (decide (findIn K (.ref C) "__setattr__" = some (some (.builtin "object.__setattr__"))) && (decide (subIn K (.ref C) (.type "BaseException") = some true) && (decide (typeIn K (.ref C) = some (.type "type")) && keepIn K (.ref C))))
theorem oexB_ok {K : Frag} {C : Addr} (h : oexB K C = true) : OexC K C := by
  unfold oexB at h
  obtain ⟨h, h2⟩ := Bool.and_eq_true_iff.mp h
  obtain ⟨h2, h3⟩ := Bool.and_eq_true_iff.mp h2
  obtain ⟨h3, h4⟩ := Bool.and_eq_true_iff.mp h3
  obtain ⟨h4, h5⟩ := Bool.and_eq_true_iff.mp h4
  refine ⟨?_, of_decide_eq_true h2, of_decide_eq_true h3, of_decide_eq_true h4, h5⟩
  split at h
  · rename_i t dd cd sl ho
    split at h
    · rename_i C' bm k0 k1 k2 k3 n k5 hm hs
      simp only [Bool.and_eq_true, decide_eq_true_eq, Bool.not_eq_true'] at h
      obtain ⟨rfl, rfl, rfl, hdel, hdc, ht⟩ := h
      obtain ⟨nm, bs, mro, ns, qn, hd, sn, sub, ab, col, del⟩ := cd
      dsimp only at hm hdel hdc
      subst hm hdel hdc
      have hsl : sl = #[k0, k1, k2, k3, some (.builtin "ValueError.__new__"), k5] := by
        obtain ⟨l⟩ := sl
        simp only at hs
        rw [hs]
      subst hsl
      exact ⟨nm, qn, ns, bs, bm, sn, sub, ab, col, dd, k0, k1, k2, k3, k5, ho, ht⟩
    · cases h
  · cases h
/-- the def's own part -/
def xfnB (K : Frag) (file : Str) (C f : Addr) : Bool := match K.lookup f with
  | some ⟨_, _, .func fd, _⟩ => (match fd.defaults with
    | .none => true
    | _ => false) && (codeIn K fd.code fd.qualname && ((match fd.closure with
      | [(_, cc)] => (match K.lookup cc with
        | some ⟨_, _, .cell (some (.ref C')), _⟩ => decide (C' = C)
        | _ => false)
      | _ => false) && (match fd.code with
        | .ref cda => (match K.lookup cda with
          | some ⟨_, _, .fields vs, _⟩ => (match (vs[2]? : Option Value) with
            | some (Value.str z _) => decide (z = file)
            | _ => false)
          | _ => false)
        | _ => false)))
  | _ => false
def xcB (K : Frag) (file : Str) (x : Str) : Bool := oexB K (He.ga K x) && (xfnB K file (He.ga K x) (He.ma K (He.ga K x) "__init__") && (decide (ks_superIn K (He.ga K x) (He.ga K x) "__init__" = some (some (.builtin "ValueError.__init__"))) && (decide (subIn K (.ref (He.ga K x)) (.type "ValueError") = some true) && (decide (mroIn K (He.ga K x) (.ref (He.ga K x)) = some true) &&
  (decide (nsIn K cStatics "thirdparty.any" = some none) && (decide (findIn K (.ref (He.ga K x)) "__init__" = some (some (.ref (He.ma K (He.ga K x) "__init__")))) && decide (typeIn K (.ref (He.ma K (He.ga K x) "__init__")) = some (.type "function"))))))))
theorem xcB_ok {P : Program} {K : Frag} {mg : Str → Option Value} {d : XD} (h : xcB K P.main.file d.cls = true) (e : xw K d.cls = d.val) (mgs : mg "super" = none) (top : (P.main.scope.names.lookup ("super" : Str)).isSome = false) :
    XC P K mg (He.ga K d.cls) (He.ma K (He.ga K d.cls) "__init__") (fdAt K (He.ma K (He.ga K d.cls) "__init__")) d.params d.body d.scope := by
  unfold xcB at h
  obtain ⟨h1, h⟩ := Bool.and_eq_true_iff.mp h
  obtain ⟨h2, h⟩ := Bool.and_eq_true_iff.mp h
  obtain ⟨h3, h⟩ := Bool.and_eq_true_iff.mp h
  obtain ⟨h4, h⟩ := Bool.and_eq_true_iff.mp h
  obtain ⟨h5, h⟩ := Bool.and_eq_true_iff.mp h
  obtain ⟨h6, h⟩ := Bool.and_eq_true_iff.mp h
  obtain ⟨h7, h8⟩ := Bool.and_eq_true_iff.mp h
  refine ⟨oexB_ok h1, ?_, of_decide_eq_true h3, of_decide_eq_true h4, of_decide_eq_true h5, of_decide_eq_true h6, mgs, top, of_decide_eq_true h7, of_decide_eq_true h8⟩
  unfold xw at e
  unfold xfnB at h2
  generalize He.ma K (He.ga K d.cls) "__init__" = f at e h2 ⊢
  cases q : K.lookup f with
  | none => rw [q] at e; cases e
  | some o =>
    obtain ⟨oc, od, dt, osl⟩ := o
    rw [q] at e h2
    cases dt with
    | func fd =>
      have ef : fdAt K f = fd := by unfold fdAt; rw [q]
      obtain ⟨n1, n2, n3, n4, n5, n6, n7, n8, n9, n10, n11, n12, n13, n14, n15⟩ := fd
      have e2 : (some (n1, n3, n4, n5, n6, n7.map (·.1), n15) : XW) = (some ("__init__", d.params, .stmts d.body, d.scope, mainGlobals, ["__class__"], builtinsNs) : XW) := e
      simp only [Option.some.injEq, Prod.mk.injEq] at e2
      obtain ⟨g1, g3, g4, g5, g6, g7, g15⟩ := e2
      subst g1 g3 g4 g5 g6 g15
      obtain ⟨k1, h2⟩ := Bool.and_eq_true_iff.mp h2
      obtain ⟨k2, h2⟩ := Bool.and_eq_true_iff.mp h2
      obtain ⟨k3, k4⟩ := Bool.and_eq_true_iff.mp h2
      dsimp only at k1 k3 k4
      clear e h2 h1 h3 h4 h5 h6 h7 h8
      cases n8 with
      | none =>
        match n7, g7, k3, q, ef with
        | [(nm, cc)], g7, k3, q, ef =>
          have e7 : nm = ("__class__" : Str) := by simpa using g7
          subst e7
          dsimp only at k3
          cases hcc : K.lookup cc with
          | none => rw [hcc] at k3; cases k3
          | some oc1 =>
            obtain ⟨cl, cld, cdt, csl⟩ := oc1
            rw [hcc] at k3
            split at k3
            · rename_i C' hC'
              have e8 := of_decide_eq_true k3
              cases n13 with
              | ref cda =>
                dsimp only at k4
                cases hcd : K.lookup cda with
                | none => rw [hcd] at k4; cases k4
                | some oc2 =>
                  obtain ⟨ccl, cdd, cdt2, ccs⟩ := oc2
                  rw [hcd] at k4
                  cases cdt2 with
                  | fields vs =>
                    dsimp only at k4
                    cases hz : (vs[2]? : Option Value) with
                    | none => rw [hz] at k4; cases k4
                    | some z =>
                      rw [hz] at k4
                      cases z with
                      | str z tf =>
                        have e9 : z = P.main.file := of_decide_eq_true k4
                        subst e9
                        simp only [Option.some.injEq, Obj.mk.injEq] at hC'
                        obtain ⟨rfl, rfl, rfl, rfl⟩ := hC'
                        subst e8
                        exact ⟨n2, n9, n10, n11, n14, oc, n12, od, osl, cc, cda, _, _, _, ccl, cdd, vs, ccs, tf, ef, by rw [ef], k2, hcc, hcd, hz⟩
                      | _ => cases k4
                  | _ => cases k4
              | _ => cases k4
            · cases k3
      | _ => cases k1
    | _ => cases e
/-! ### the head's Hook with them -/
abbrev AlX : Type := He.AlD × Bool × List XW
def obsX (fa : List He.Fa) (fn : List He.DefD) (ex : List (Frag → Bool)) (xs : List XD) (K : Frag) : AlX := (He.obsD fa fn K, ex.all (fun c => c K), xs.map fun d => xw K d.cls)
def valX (fn : List He.DefD) (xs : List XD) : AlX := (He.valD fn, true, xs.map XD.val)
def SaysX (fa : List He.Fa) (fn : List He.DefD) (ex : List (Frag → Bool)) (xs : List XD) (K : Frag) : Prop := obsX fa fn ex xs K = valX fn xs
def obsXG (n : Nat) (fa : List He.Fa) (fn : List He.DefD) (ex : List (Frag → Bool)) (xs : List XD) (g : Addr → Option Obj) : AlX := obsX fa fn ex xs (He.frG g (cStatics :: He.asD g n))
def hookX (n : Nat) (fa : List He.Fa) (fn : List He.DefD) (ex : List (Frag → Bool)) (xs : List XD) : Hook where
  α := AlX
  obs := fun s => obsXG n fa fn ex xs s.heap.get?
  val := fun _ => valX fn xs
  says := fun _ h => ∃ K : Frag, K.In h ∧ SaysX fa fn ex xs K
  of := fun _ _ e => ⟨_, He.frG_in, e⟩
  keeps := fun _ _ _ ⟨K, hK, c⟩ k => ⟨K, Frag.In.keeps hK k, c⟩
theorem obsXG_eq {n : Nat} {fa : List He.Fa} {fn : List He.DefD} {ex : List (Frag → Bool)} {xs : List XD} {g : Addr → Option Obj} {s : Shared} (h : ∀ a, g a = s.heap.get? a) : obsXG n fa fn ex xs g = (hookX n fa fn ex xs).obs s := by
  have e : g = s.heap.get? := funext h
  rw [e] <;> rfl
section
variable {fa : List He.Fa} {fn : List He.DefD} {ex : List (Frag → Bool)} {xs : List XD} {K : Frag}
theorem SaysX.d (c : SaysX fa fn ex xs K) : He.SaysD fa fn K := congrArg (fun z : AlX => z.1) c
theorem SaysX.e (c : SaysX fa fn ex xs K) (i : Nat) {f : Frag → Bool} (h : ex[i]? = some f := by rfl) : f K = true := by
  have c1 : ex.all (fun c => c K) = true := congrArg (fun z : AlX => z.2.1) c
  exact List.all_eq_true.mp c1 f (List.mem_of_getElem? h)
theorem SaysX.x (c : SaysX fa fn ex xs K) (i : Nat) {d : XD} (h : xs[i]? = some d := by rfl) : xw K d.cls = d.val := by
  have e : xs.map (fun d => xw K d.cls) = xs.map XD.val := congrArg (fun z : AlX => z.2.2) c
  have e2 : (xs.map fun d => xw K d.cls)[i]? = (xs.map XD.val)[i]? := by rw [e]
  rw [List.getElem?_map, List.getElem?_map, h] at e2
  exact Option.some.inj e2
end
/-- a law lets nothing out -/
theorem law_CX0 {P : Program} {w : World} {K : Frag} {mg : Str → Option Value} {base : Heap} {k : Nat} {f : Addr} {fd : FuncData} {ps : List Str} (F : FnOk P w K mg base (L2N.CX P w) k f fd ps (spLaw K)) : FnOk P w K mg base L2.CX0 k f fd ps (spLaw K) :=
  ⟨F.len, fun A outer s H args us vs Q E a b c d h => PySem.codeAny_mono (F.run A outer s H args us vs Q (fun _ _ _ => False) a b c d h) fun r s' hq => by
    cases r with
    | error e =>
      obtain ⟨_, _, _, _, _, _, _, _, _, _, _, _, z⟩ := hq
      exact z.elim
    | ok fl => cases fl <;> exact hq⟩
end AM
set_option Elab.async false
set_option linter.all false
set_option maxRecDepth 100000
set_option maxHeartbeats 4000000
namespace AM
open PySem L2
/-! ### the readings of AMobj and behind, as they run -/
def fldQ (cs : List Str) (f : Str) (q : D → S → Prop) (d : D) (s : S) : Prop := ∃ v, fldAt cs f (vw s d) = some v ∧ q v s
def zipQ (q : List D → Gd → S → Prop) (x y : D) (s : S) : Prop := ∃ l m, itemsD (vw s x) = some l ∧ itemsD (vw s y) = some m ∧ q (zipD l m) (gdOf s x ++ gdOf s y) s
def itQ (q : List D → S → Prop) (x : D) (s : S) : Prop := ∃ l, itemsD (vw s x) = some l ∧ q l s
def ownInQ (neg : Bool) (q : D → S → Prop) (r : Rs) (s : S) : Prop := ∃ k, r = .d (.bl k) ∧ q (.bl (k != neg)) s
def newQ (cn : Str) (k : Nat) (q : D → S → Prop) (r : Rs) (s2 : S) : Prop := r = .d .non ∧ ∃ fs, s2[k]? = some (.obj cn fs) ∧ ltF k fs ∧ ltS k (s2.take k) ∧ q (.obj cn fs) (s2.take k)
def newX (k : Nat) (er : QX) : QX := fun e s2 => e.lt k ∧ ltS k (s2.take k) ∧ er e (s2.take k)
def oAtQ (q : Option Int → S → Prop) (d : D) (s : S) : Prop := ∃ i, d = .int i ∧ q (some i) s
section
variable {env : List A} {st : S} {q : D → S → Prop} {qt : Bool → S → Prop} {ql : List D → S → Prop} {er : QX} {k : AK} {a b c : AE} {as : AEs} {s u : AS} {t v : AT} {g : AG} {gs : AGs} {f f2 : O2} {i j : Nat} {d : D} {x y w : D} {xs : List D} {it it1 : AI} {qi : List D → Gd → S → Prop} {af bf : AFr} {z : List A → Prop} {o : O1} {fn : ON} {vs vs1 : List Nat} {gd : Gd} {g1 : AG} {t1 : AT} {m : AF} {dd : List D} {ix : List Nat} {cs : List Str} {cn fd mn : Str} {P : D → Prop} {neg : Bool} {lo hi : AO} {fdc : AFd} {qd : List (D × D) → S → Prop} {qo : Option Int → S → Prop} {xd : List (D × D)}
theorem fldQ_of (e : fldAt cs fd (vw st d) = some x) : fldQ cs fd q d st = q x st := propext ⟨fun ⟨_, e2, w⟩ => by rw [e] at e2; cases e2; exact w, fun w => ⟨_, e, w⟩⟩
theorem itQ_of (e : itemsD (vw st d) = some xs) : itQ ql d st = ql xs st := propext ⟨fun ⟨_, e2, w⟩ => by rw [e] at e2; cases e2; exact w, fun w => ⟨_, e, w⟩⟩
theorem zipQ_of {ys : List D} (e : itemsD (vw st x) = some xs) (e2 : itemsD (vw st y) = some ys) : zipQ qi x y st = qi (zipD xs ys) (gdOf st x ++ gdOf st y) st := propext ⟨fun ⟨_, _, e3, e4, w⟩ => by rw [e] at e3; cases e3; rw [e2] at e4; cases e4; exact w, fun w => ⟨_, _, e, e2, w⟩⟩
@[simp] theorem zipQ_ll {l r : List D} : zipQ qi (.lst l) (.lst r) st = qi (zipD l r) [] st := zipQ_of rfl rfl
@[simp] theorem zipQ_lt {l r : List D} : zipQ qi (.lst l) (.tup r) st = qi (zipD l r) [] st := zipQ_of rfl rfl
@[simp] theorem zipQ_tl {l r : List D} : zipQ qi (.tup l) (.lst r) st = qi (zipD l r) [] st := zipQ_of rfl rfl
@[simp] theorem zipQ_tt {l r : List D} : zipQ qi (.tup l) (.tup r) st = qi (zipD l r) [] st := zipQ_of rfl rfl
@[simp] theorem itQ_lst {l : List D} : itQ ql (.lst l) st = ql l st := itQ_of rfl
@[simp] theorem itQ_tup {l : List D} : itQ ql (.tup l) st = ql l st := itQ_of rfl
@[simp] theorem ownInQ_bl {h : Bool} : ownInQ neg q (.d (.bl h)) st = q (.bl (h != neg)) st := propext ⟨fun ⟨_, e, w⟩ => by cases e; exact w, fun w => ⟨_, rfl, w⟩⟩
@[simp] theorem oAtQ_int {h : Int} : oAtQ qo (.int h) st = qo (some h) st := propext ⟨fun ⟨_, e, w⟩ => by cases e; exact w, fun w => ⟨_, rfl, w⟩⟩
@[simp ↓] theorem ev_aFld : aFld cs fd a env st q er = a env st (fldQ cs fd q) er := propext Iff.rfl
@[simp ↓] theorem ev_aMeth : aMeth cn mn m a as dd env st q er = a env st (fun d s1 => isObj cn mn (vw s1 d) ∧ as env s1 (fun ds s2 => m (d :: (ds ++ dd)) s2 (rsQ q) er) er) er := propext Iff.rfl
@[simp ↓] theorem ev_fMeth : fMeth cn mn m a as dd env st ql er = a env st (fun d s1 => isObj cn mn (vw s1 d) ∧ as env s1 (fun ds s2 => m (d :: (ds ++ dd)) s2 (rsF ql) er) er) er := propext Iff.rfl
@[simp ↓] theorem ev_aNew : aNew cn m as dd env st q er = as env st (fun ds s1 => ltL s1.length ds → ltS s1.length s1 → m (.ref s1.length :: (ds ++ dd)) (s1 ++ [.obj cn []]) (newQ cn s1.length q) (newX s1.length er)) er := propext Iff.rfl
@[simp ↓] theorem ev_aNewM : aNewM cn m as dd env st q er = as env st (fun ds s1 => m (.ref s1.length :: (ds ++ dd)) (s1 ++ [.obj cn []]) (fun r s2 => r = .d .non ∧ q (.ref s1.length) s2) er) er := propext Iff.rfl
@[simp ↓] theorem ev_sFldSet : sFldSet cn fd a b env st k = b env st (fun d s1 => a env s1 (fun x s2 => ∃ n fs, x = .ref n ∧ s2[n]? = some (.obj cn fs) ∧ fs.length < 1000 ∧ k.nx env (s2.set n (.obj cn (putD fd d fs)))) (fun e s => k.er e env s)) (fun e s => k.er e env s) := propext Iff.rfl
@[simp ↓] theorem ev_aOwn2 : aOwn2 cn m P a b env st q er = a env st (fun x s1 => b env s1 (fun y s2 => isCls cn (vw s2 x) ∧ P (vw s2 y) ∧ m [x, y] s2 (rsQ q) er) er) er := propext Iff.rfl
@[simp ↓] theorem ev_aOwn1 : aOwn1 cn m a env st q er = a env st (fun x s1 => isCls cn (vw s1 x) ∧ m [x] s1 (rsQ q) er) er := propext Iff.rfl
@[simp ↓] theorem ev_aOwnIn : aOwnIn cn neg m a b env st q er = a env st (fun x s1 => b env s1 (fun y s2 => isCls cn (vw s2 y) ∧ m [y, x] s2 (ownInQ neg q) er) er) er := propext Iff.rfl
@[simp ↓] theorem ev_aZip : aZip a b env st qi er = a env st (fun x s1 => b env s1 (zipQ qi x) er) er := propext Iff.rfl
@[simp ↓] theorem ev_aEnum : aEnum a env st qi er = a env st (fun x s1 => ∃ l, itemsD (vw s1 x) = some l ∧ qi (enumD l) (gdOf s1 x) s1) er := propext Iff.rfl
@[simp ↓] theorem ev_aStar : aStar a as env st ql er = a env st (itQ fun l s1 => as env s1 (fun xs s2 => ql (l ++ xs) s2) er) er := propext Iff.rfl
@[simp ↓] theorem ev_oNo : oNo env st qo er = qo none st := propext Iff.rfl
@[simp ↓] theorem ev_oAt : oAt a env st qo er = a env st (oAtQ qo) er := propext Iff.rfl
@[simp ↓] theorem ev_aSl : aSl a lo hi env st q er = a env st (fun x s1 => lo env s1 (fun l s2 => hi env s2 (fun h s3 => slD (vw s3 x) l h fun d => q d s3) er) er) er := propext Iff.rfl
@[simp ↓] theorem ev_aFd : aFd fdc env st q er = fdc env st (fun l s1 => q (.dic l) s1) er := propext Iff.rfl
@[simp ↓] theorem ev_fDc : fDc it g t a b vs env st qd er = it env st (fun ds gd s1 => aDcL gd g t a b (wA vs env) qd ds [] s1) er := propext Iff.rfl
@[simp ↓] theorem ev_fDNew : fDNew env st qd er = qd [] st := propext Iff.rfl
@[simp] theorem ev_oIxA_lst {l : List D} {q : D → Prop} {h : Int} : oIxA (.lst l) (.int h) q = ∃ d, atI l h = some d ∧ q d := propext Iff.rfl
@[simp] theorem ev_oIxA_tup {l : List D} {q : D → Prop} {h : Int} : oIxA (.tup l) (.int h) q = ∃ d, atI l h = some d ∧ q d := propext Iff.rfl
@[simp] theorem ev_oIxA_dic {q : D → Prop} : oIxA (.dic xd) x q = ∃ d, DLook xd x d ∧ q d := propext Iff.rfl
theorem oIxA_at {l : List D} {q : D → Prop} {h : Int} (e : atI l h = some d) (hq : q d) : oIxA (.lst l) (.int h) q := ⟨_, e, hq⟩
@[simp] theorem isCls_obj {fs : List (Str × D)} : isCls cn (.obj cn fs) = True := propext ⟨fun _ => trivial, fun _ => rfl⟩
@[simp] theorem isInt_int {h : Int} : isInt (.int h) = True := propext Iff.rfl
@[simp] theorem anyD_t : anyD x = True := propext Iff.rfl
@[simp] theorem ev_oIs {q : D → Prop} : oIs x .non q = ∃ b, nonD x = some b ∧ q (.bl b) := propext ⟨fun h => h.2, fun h => ⟨rfl, h⟩⟩
@[simp] theorem ev_oIsNot {q : D → Prop} : oIsNot x .non q = ∃ b, nonD x = some b ∧ q (.bl (!b)) := propext ⟨fun h => h.2, fun h => ⟨rfl, h⟩⟩
theorem dc_nil : aDcL gd g t a b env qd [] xd st = (gdOk gd st ∧ qd xd st) := propext Iff.rfl
theorem dc_cons {acc : List (D × D)} : aDcL gd g t a b env qd (x :: xs) acc st = (gdOk gd st ∧ g x env st fun e1 => t e1 st (fun c s2 => if c = true then a e1 s2 (fun kk s3 => b e1 s3 (fun y s4 => isKeyT kk ∧ acc.length < 100000 ∧ ∃ acc', DPutD acc kk y acc' ∧ aDcL gd g t a b env qd xs acc' s4) (fun _ _ => False)) (fun _ _ => False) else aDcL gd g t a b env qd xs acc s2) (fun _ _ => False)) := propext Iff.rfl
theorem lc2_nil : aLc2L gd g t it1 g1 t1 a vs1 env ql [] xs st = (gdOk gd st ∧ ql xs st) := propext Iff.rfl
theorem lc2_cons {acc : List D} : aLc2L gd g t it1 g1 t1 a vs1 env ql (x :: xs) acc st = (gdOk gd st ∧ g x env st fun e1 => t e1 st (fun b s2 => if b = true then it1 e1 s2 (fun ds1 gd1 s3 => aLcL gd1 g1 t1 a (wA vs1 e1) (fun acc' s4 => aLc2L gd g t it1 g1 t1 a vs1 env ql xs acc' s4) ds1 acc s3) (fun _ _ => False) else aLc2L gd g t it1 g1 t1 a vs1 env ql xs acc s2) (fun _ _ => False)) := propext Iff.rfl
/-- a comprehension whose items come without a change of the store -/
theorem lc_imp {G : D → D} {p : D → Bool} (hg : gdOk gd st) : ∀ (ds acc : List D), (∀ x ∈ ds, ∀ (P1 : D → S → Prop) (P2 : S → Prop), (if p x = true then P1 (G x) st else P2 st) → g x env st fun e1 => t e1 st (fun b s2 => if b = true then a e1 s2 P1 (fun _ _ => False) else P2 s2) (fun _ _ => False)) → acc.length + ds.length ≤ 100000 → ql (acc ++ (ds.filter p).map G) st → aLcL gd g t a env ql ds acc st
  | [], acc, _, _, hq => by rw [lc_nil]; simpa [hg] using hq
  | x :: xs, acc, h, hl, hq => by
    rw [lc_cons]
    refine ⟨hg, h x (by simp) _ _ ?_⟩
    have hl' : acc.length < 100000 := by simp at hl; omega
    by_cases hp : p x = true
    · rw [if_pos hp]
      exact ⟨hl', lc_imp hg xs _ (fun y hy => h y (by simp [hy])) (by simp at hl ⊢; omega) (by simpa [List.filter_cons, hp] using hq)⟩
    · rw [if_neg hp]
      exact lc_imp hg xs _ (fun y hy => h y (by simp [hy])) (by simp at hl ⊢; omega) (by simpa [List.filter_cons, hp] using hq)
theorem lc_all {G : D → D} (hg : gdOk gd st) {ds acc : List D} (h : ∀ x ∈ ds, ∀ (P1 : D → S → Prop) (P2 : S → Prop), P1 (G x) st → g x env st fun e1 => t e1 st (fun b s2 => if b = true then a e1 s2 P1 (fun _ _ => False) else P2 s2) (fun _ _ => False)) (hl : acc.length + ds.length ≤ 100000) (hq : ql (acc ++ ds.map G) st) : aLcL gd g t a env ql ds acc st :=
  lc_imp (G := G) (p := fun _ => true) hg ds acc (fun x hx P1 P2 hh => h x hx P1 P2 (by simpa using hh)) hl (by rw [List.filter_eq_self.mpr (fun _ _ => rfl)]; exact hq)
/-- the items are tellings of a list -/
theorem lc_of {α : Type} {T : α → D} {G : α → D} (hg : gdOk gd st) : ∀ (l : List α) {acc : List D}, (∀ x ∈ l, ∀ (P1 : D → S → Prop) (P2 : S → Prop), P1 (G x) st → g (T x) env st fun e1 => t e1 st (fun b s2 => if b = true then a e1 s2 P1 (fun _ _ => False) else P2 s2) (fun _ _ => False)) → acc.length + l.length ≤ 100000 → ql (acc ++ l.map G) st → aLcL gd g t a env ql (l.map T) acc st
  | [], acc, _, _, hq => by rw [List.map_nil, lc_nil]; simpa [hg] using hq
  | x :: xs, acc, h, hl, hq => by
    rw [List.map_cons, lc_cons]
    refine ⟨hg, h x (by simp) _ _ ⟨by simp at hl; omega, lc_of hg xs (fun y hy => h y (by simp [hy])) (by simp at hl ⊢; omega) (by simpa using hq)⟩⟩
theorem lc_ofP {α : Type} {T : α → D} {G : α → D} {p : α → Bool} (hg : gdOk gd st) : ∀ (l : List α) {acc : List D}, (∀ x ∈ l, ∀ (P1 : D → S → Prop) (P2 : S → Prop), (if p x = true then P1 (G x) st else P2 st) → g (T x) env st fun e1 => t e1 st (fun b s2 => if b = true then a e1 s2 P1 (fun _ _ => False) else P2 s2) (fun _ _ => False)) → acc.length + l.length ≤ 100000 → ql (acc ++ (l.filter p).map G) st → aLcL gd g t a env ql (l.map T) acc st
  | [], acc, _, _, hq => by rw [List.map_nil, lc_nil]; simpa [hg] using hq
  | x :: xs, acc, h, hl, hq => by
    rw [List.map_cons, lc_cons]
    refine ⟨hg, h x (by simp) _ _ ?_⟩
    by_cases hp : p x = true
    · rw [if_pos hp]
      exact ⟨by simp at hl; omega, lc_ofP hg xs (fun y hy => h y (by simp [hy])) (by simp at hl ⊢; omega) (by simpa [List.filter_cons, hp] using hq)⟩
    · rw [if_neg hp]
      exact lc_ofP hg xs (fun y hy => h y (by simp [hy])) (by simp at hl ⊢; omega) (by simpa [List.filter_cons, hp] using hq)
/-- with a change of the store: by what holds ahead of the items that are left -/
theorem lc_ind {P : List D → List D → S → Prop} (h0 : ∀ acc st, P [] acc st → gdOk gd st ∧ ql acc st) (h1 : ∀ x xs acc st, P (x :: xs) acc st → ∀ (P1 : D → S → Prop) (P2 : S → Prop), (∀ y s, P xs (acc ++ [y]) s → P1 y s) → (∀ s, P xs acc s → P2 s) → gdOk gd st ∧ acc.length < 100000 ∧ g x env st fun e1 => t e1 st (fun b s2 => if b = true then a e1 s2 P1 (fun _ _ => False) else P2 s2) (fun _ _ => False)) : ∀ ds acc st, P ds acc st → aLcL gd g t a env ql ds acc st
  | [], acc, st, h => by rw [lc_nil]; exact h0 acc st h
  | x :: xs, acc, st, h => by
    rw [lc_cons]
    have hl : acc.length < 100000 := (h1 x xs acc st h (fun _ _ => True) (fun _ => True) (fun _ _ _ => trivial) (fun _ _ => trivial)).2.1
    obtain ⟨h2, _, h3⟩ := h1 x xs acc st h (fun y s3 => acc.length < 100000 ∧ aLcL gd g t a env ql xs (acc ++ [y]) s3) (fun s2 => aLcL gd g t a env ql xs acc s2) (fun y s hp => ⟨hl, lc_ind h0 h1 xs _ s hp⟩) (fun s hp => lc_ind h0 h1 xs _ s hp)
    exact ⟨h2, h3⟩
/-- two rows of for -/
theorem lc2_of {α : Type} {T : α → D} {F : α → List D} (hg : gdOk gd st) : ∀ (l : List α) {acc : List D}, (∀ x ∈ l, ∀ (acc : List D) (q2 : List D → S → Prop) (P2 : S → Prop), acc.length + (F x).length ≤ 100000 → q2 (acc ++ F x) st → g (T x) env st fun e1 => t e1 st (fun b s2 => if b = true then it1 e1 s2 (fun ds1 gd1 s3 => aLcL gd1 g1 t1 a (wA vs1 e1) q2 ds1 acc s3) (fun _ _ => False) else P2 s2) (fun _ _ => False)) → acc.length + (l.flatMap F).length ≤ 100000 → ql (acc ++ l.flatMap F) st → aLc2L gd g t it1 g1 t1 a vs1 env ql (l.map T) acc st
  | [], acc, _, _, hq => by rw [List.map_nil, lc2_nil]; simpa [hg] using hq
  | x :: xs, acc, h, hl, hq => by
    rw [List.map_cons, lc2_cons]
    simp only [List.flatMap_cons, List.length_append] at hl
    exact ⟨hg, h x (by simp) acc _ _ (by omega) (lc2_of hg xs (fun y hy => h y (by simp [hy])) (by rw [List.length_append]; omega) (by simpa using hq))⟩
theorem dput_new : ∀ {acc : List (D × D)}, (∀ p ∈ acc, p.1 ≠ x) → DPutD acc x y (acc ++ [(x, y)])
  | [], _ => .nil
  | (k', w) :: r, h => .there (h (k', w) (by simp)) (dput_new fun p hp => h p (by simp [hp]))
theorem dc_of {α : Type} {T KK V : α → D} (hg : gdOk gd st) : ∀ (l : List α) {acc : List (D × D)}, (∀ x ∈ l, ∀ (P1 : D → D → S → Prop) (P2 : S → Prop), P1 (KK x) (V x) st → g (T x) env st fun e1 => t e1 st (fun c s2 => if c = true then a e1 s2 (fun kk s3 => b e1 s3 (fun y s4 => P1 kk y s4) (fun _ _ => False)) (fun _ _ => False) else P2 s2) (fun _ _ => False)) → (∀ x ∈ l, isKeyT (KK x)) → (∀ x ∈ l, ∀ p ∈ acc, p.1 ≠ KK x) → (l.map KK).Nodup → acc.length + l.length ≤ 100000 → qd (acc ++ l.map fun x => (KK x, V x)) st → aDcL gd g t a b env qd (l.map T) acc st
  | [], acc, _, _, _, _, _, hq => by rw [List.map_nil, dc_nil]; simpa [hg] using hq
  | x :: xs, acc, h, hk, hn, hd, hl, hq => by
    rw [List.map_cons, dc_cons]
    rw [List.map_cons, List.nodup_cons] at hd
    refine ⟨hg, h x (by simp) _ _ ⟨hk x (by simp), by simp at hl; omega, _, dput_new (hn x (by simp)), ?_⟩⟩
    refine dc_of hg xs (fun y hy => h y (by simp [hy])) (fun y hy => hk y (by simp [hy])) (fun y hy p hp => ?_) hd.2 (by simp at hl ⊢; omega) (by simpa using hq)
    rcases List.mem_append.mp hp with hp | hp
    · exact hn y (by simp [hy]) p hp
    · have : p = (KK x, V x) := by simpa using hp
      subst this
      exact fun e => hd.1 (show KK x ∈ _ from (show KK x = KK y from e) ▸ List.mem_map_of_mem hy)
theorem dlook_zip {α : Type} {KK V : α → D} : ∀ (l : List α) {x : α}, (l.map KK).Nodup → x ∈ l → DLook (l.map fun x => (KK x, V x)) (KK x) (V x)
  | [], _, _, h => by cases h
  | y :: ys, x, hd, h => by
    rw [List.map_cons, List.nodup_cons] at hd
    rw [List.map_cons]
    rcases List.mem_cons.mp h with rfl | h
    · exact .here
    · exact .there (fun e => hd.1 (show KK y ∈ _ from (show KK y = KK x from e) ▸ List.mem_map_of_mem h)) (dlook_zip ys hd.2 h)
theorem dlook_one {l : List (D × D)} {k v v' : D} (a : DLook l k v) (b : DLook l k v') : v = v' := by
  induction a with
  | here => cases b with
    | here => rfl
    | there h _ => exact (h rfl).elim
  | there h _ ih => cases b with
    | here => exact (h rfl).elim
    | there _ b => exact ih b
end
end AM
set_option Elab.async false
set_option linter.all false
set_option maxRecDepth 100000
set_option maxHeartbeats 4000000
namespace AM
open PySem L2
section
variable {env : List A} {st : S} {k : AK} {s : AS} {cs : List AClause} {xm : Str → Option Bool} {o : Option Nat} {su : Addr → Value → Option Addr → AS} {e : Er} {i : Nat} {c : Str} {a : Addr} {v : Value} {dx : Option Addr} {f : Str} {x : D} {q : D → S → Prop} {er : QX}
@[simp ↓] theorem ev_sTryMix : sTryMix s cs env st k = s env st { k with er := erMix cs k } := propext Iff.rfl
theorem erMix_nil : erMix [] k e env st = k.er e env st := propext Iff.rfl
theorem erMix_yes (h : xm e.cls = some true) : erMix ((xm, o, su) :: cs) k e env st = ∀ a c dx, su a c dx (eAt env (.exc a c dx e) o) st (kAt k o) := propext ⟨fun ⟨b, h1, h2, _⟩ => by rw [h] at h1; cases h1; exact h2 rfl, fun h2 => ⟨true, h, fun _ => h2, fun z => by cases z⟩⟩
theorem erMix_no (h : xm e.cls = some false) : erMix ((xm, o, su) :: cs) k e env st = erMix cs k e env st := propext ⟨fun ⟨b, h1, _, h2⟩ => by rw [h] at h1; cases h1; exact h2 rfl, fun h2 => ⟨false, h, fun z => (by cases z), fun _ => h2⟩⟩
@[simp] theorem kAt_none : kAt k none = { k with er := fun _ _ _ => False } := rfl
@[simp] theorem kAt_some : kAt k (some i) = { nx := fun env' s => k.nx (env'.set i .no) s, rt := k.rt, bk := fun env' s => k.bk (env'.set i .no) s, ct := fun env' s => k.ct (env'.set i .no) s, er := fun _ _ _ => False } := rfl
@[simp] theorem eAt_none {y : A} : eAt env y none = env := rfl
@[simp] theorem eAt_some {y : A} : eAt env y (some i) = env.set i y := rfl
theorem ev_aXf (h : env[i]? = some (.exc a v dx ⟨c, some (f, x)⟩)) : aXf a v dx c i f env st q er = q x st := by
  unfold aXf
  rw [h]
  exact propext ⟨fun ⟨_, _, _, _, x', e, w⟩ => by cases e; exact w, fun w => ⟨rfl, rfl, rfl, rfl, _, rfl, w⟩⟩
end
end AM
set_option Elab.async false
set_option linter.all false
set_option maxRecDepth 100000
set_option maxHeartbeats 4000000
namespace AM
open PySem L2
def dzQ (q : List (D × D) → S → Prop) (x y : D) (s : S) : Prop := ∃ l m, vw s x = .lst l ∧ vw s y = .lst m ∧ l.length = m.length ∧ (∀ k ∈ l, isKeyT k) ∧ l.Nodup ∧ q (l.zip m) s
def lzQ (q : List D → S → Prop) (x y : D) (s : S) : Prop := ∃ l m, vw s x = .lst l ∧ vw s y = .lst m ∧ l.length = m.length ∧ q (zipD l m) s
section
variable {env : List A} {st : S} {q : D → S → Prop} {ql : List D → S → Prop} {er : QX} {k : AK} {a b c : AE} {qd : List (D × D) → S → Prop}
@[simp ↓] theorem ev_fDZip : fDZip a b env st qd er = a env st (fun x s1 => b env s1 (dzQ qd x) er) er := propext Iff.rfl
@[simp ↓] theorem ev_fLZip : fLZip a b env st ql er = a env st (fun x s1 => b env s1 (lzQ ql x) er) er := propext Iff.rfl
@[simp] theorem lzQ_ll {l r : List D} : lzQ ql (.lst l) (.lst r) st = (l.length = r.length ∧ ql (zipD l r) st) := propext ⟨fun ⟨_, _, e1, e2, h1, h2⟩ => by cases e1; cases e2; exact ⟨h1, h2⟩, fun ⟨h1, h2⟩ => ⟨_, _, rfl, rfl, h1, h2⟩⟩
@[simp] theorem dzQ_ll {l r : List D} : dzQ qd (.lst l) (.lst r) st = (l.length = r.length ∧ (∀ k ∈ l, isKeyT k) ∧ l.Nodup ∧ qd (l.zip r) st) := propext ⟨fun ⟨_, _, e1, e2, h1, h2, h3, h4⟩ => by cases e1; cases e2; exact ⟨h1, h2, h3, h4⟩, fun ⟨h1, h2, h3, h4⟩ => ⟨_, _, rfl, rfl, h1, h2, h3, h4⟩⟩
@[simp ↓] theorem ev_sAugIx : sAugIx a b c env st k = a env st (fun x s1 => b env s1 (fun j s2 => ∃ n i l v, x = .ref n ∧ j = .int i ∧ s2[n]? = some (.lst l) ∧ atI l i = some (.int v) ∧ c env s2 (fun y s3 => ∃ w l' j', y = .int w ∧ s3[n]? = some (.lst l') ∧ ixN l'.length i = some j' ∧ k.nx env (s3.set n (.lst (l'.set j' (.int (v + w)))))) (fun e s => k.er e env s)) (fun e s => k.er e env s)) (fun e s => k.er e env s) := propext Iff.rfl
@[simp ↓] theorem ev_sAugDx : sAugDx a b c env st k = a env st (fun x s1 => b env s1 (fun j s2 => ∃ n l v, x = .ref n ∧ isKeyT (vw s2 j) ∧ s2[n]? = some (.dic l) ∧ DLook l (vw s2 j) (.int v) ∧ c env s2 (fun y s3 => ∃ w l' l2, y = .int w ∧ s3[n]? = some (.dic l') ∧ keysT l' ∧ l'.length < 100000 ∧ vw s3 j = vw s2 j ∧ DPutD l' (vw s3 j) (.int (v + w)) l2 ∧ k.nx env (s3.set n (.dic l2))) (fun e s => k.er e env s)) (fun e s => k.er e env s)) (fun e s => k.er e env s) := propext Iff.rfl
end
end AM
set_option Elab.async false
set_option linter.all false
set_option maxRecDepth 100000
set_option maxHeartbeats 4000000
namespace AM
open PySem L2
def revQ (q : D → S → Prop) (x : D) (s : S) : Prop := ∃ l, vw s x = .lst l ∧ q (.lst l.reverse) s
def dpQ (q : List (D × D) → S → Prop) (x : D) (s : S) : Prop := ∃ ps : List (D × D), vw s x = .lst (ps.map fun p => D.tup [p.1, p.2]) ∧ (∀ p ∈ ps, isKeyT p.1) ∧ (ps.map (·.1)).Nodup ∧ q ps s
def idxQ (q : D → S → Prop) (x y : D) (s : S) : Prop := ∃ l j z, vw s x = .lst l ∧ (D.lst l).shp ∧ (vw s y).shp ∧ l[j]? = some z ∧ D.eqv z (vw s y) = true ∧ (∀ (m : Nat) (z' : D), m < j → l[m]? = some z' → D.eqv z' (vw s y) = false) ∧ q (.int (j : Nat)) s
section
variable {env : List A} {st : S} {q : D → S → Prop} {er : QX} {k : AK} {a b c : AE} {qd : List (D × D) → S → Prop}
@[simp ↓] theorem ev_aRev : aRev a env st q er = a env st (revQ q) er := propext Iff.rfl
@[simp] theorem revQ_l {l : List D} : revQ q (.lst l) st = q (.lst l.reverse) st := propext ⟨fun ⟨_, e1, h⟩ => by cases e1; exact h, fun h => ⟨_, rfl, h⟩⟩
@[simp ↓] theorem ev_oRep {l : List D} {i : Int} {q : D → Prop} : oRep (.lst l) (.int i) q = (0 ≤ i ∧ i ≤ 100000 ∧ l.length * i.toNat ≤ 100000 ∧ q (.lst (List.replicate i.toNat l).flatten)) := propext ⟨fun ⟨_, _, e1, e2, h⟩ => by cases e1; cases e2; exact h, fun h => ⟨_, _, rfl, rfl, h⟩⟩
@[simp ↓] theorem ev_fDPairs : fDPairs a env st qd er = a env st (dpQ qd) er := propext Iff.rfl
@[simp ↓] theorem ev_aIdx : aIdx a b env st q er = a env st (fun x s1 => (∃ l, vw s1 x = .lst l) ∧ b env s1 (idxQ q x) er) er := propext Iff.rfl
theorem dpQ_of {ps : List (D × D)} (h1 : ∀ p ∈ ps, isKeyT p.1) (h2 : (ps.map (·.1)).Nodup) (h : qd ps st) : dpQ qd (.lst (ps.map fun p => D.tup [p.1, p.2])) st := ⟨ps, rfl, h1, h2, h⟩
end
end AM
set_option Elab.async false
set_option linter.all false
set_option maxRecDepth 100000
set_option maxHeartbeats 4000000
namespace AM
open PySem L2
section
variable {env : List A} {st : S} {k : AK} {a : AE}
@[simp ↓] theorem ev_sExt {i : Nat} : sExt i a env st k = ∃ n, env[i]? = some (.d (.ref n)) ∧ a env st (fun y s1 => ∃ l l2, s1[n]? = some (.lst l) ∧ vw s1 y = .lst l2 ∧ l.length + l2.length ≤ 100000 ∧ k.nx (env.set i (.d (.ref n))) (s1.set n (.lst (l ++ l2)))) (fun e s1 => k.er e env s1) := propext Iff.rfl
end
section
variable {env : List A} {st : S} {q : D → S → Prop} {qt : Bool → S → Prop} {ql : List D → S → Prop} {er : QX} {k : AK} {a b c : AE} {as : AEs} {s u : AS} {t v : AT} {g : AG} {gs : AGs} {f f2 : O2} {i j : Nat} {d : D} {x y w : D} {xs : List D} {it it1 : AI} {qi : List D → Gd → S → Prop} {af bf : AFr} {z : List A → Prop} {o : O1} {fn : ON} {vs vs1 : List Nat} {gd : Gd} {g1 : AG} {t1 : AT} {m : AF} {dd : List D} {ix : List Nat} {cs : List Str} {cn fd mn : Str} {P : D → Prop} {neg : Bool} {lo hi : AO} {fdc : AFd} {qd : List (D × D) → S → Prop} {qo : Option Int → S → Prop} {xd : List (D × D)}
theorem lc_ofQ {α : Type} {T : α → D} {G : α → D} {p : α → Bool} (hg : gdOk gd st) : ∀ (l : List α) {acc : List D}, (∀ x ∈ l, ∀ (P1 : D → S → Prop) (P2 : S → Prop), (if p x = true then P1 (G x) st else P2 st) → g (T x) env st fun e1 => t e1 st (fun b s2 => if b = true then a e1 s2 P1 (fun _ _ => False) else P2 s2) (fun _ _ => False)) → acc.length + (l.filter p).length ≤ 100000 → ql (acc ++ (l.filter p).map G) st → aLcL gd g t a env ql (l.map T) acc st
  | [], acc, _, _, hq => by rw [List.map_nil, lc_nil]; simpa [hg] using hq
  | x :: xs, acc, h, hl, hq => by
    rw [List.map_cons, lc_cons]
    refine ⟨hg, h x (by simp) _ _ ?_⟩
    by_cases hp : p x = true
    · rw [if_pos hp]
      rw [List.filter_cons_of_pos hp, List.length_cons] at hl
      exact ⟨by omega, lc_ofQ hg xs (fun y hy => h y (by simp [hy])) (by rw [List.length_append, List.length_singleton]; omega) (by simpa [List.filter_cons, hp] using hq)⟩
    · rw [if_neg hp]
      rw [List.filter_cons_of_neg hp] at hl
      exact lc_ofQ hg xs (fun y hy => h y (by simp [hy])) hl (by simpa [List.filter_cons, hp] using hq)
end
end AM
set_option Elab.async false
set_option linter.all false
set_option maxRecDepth 100000
set_option maxHeartbeats 2000000
namespace AM
open PySem L2 Evl
section
variable {c f : Str} {a : AE} {env : List A} {st : S} {qi : List D → Gd → S → Prop} {er : QX}
@[simp ↓] theorem ev_aIterO : aIterO c f a env st qi er = a env st (fun d s1 => ∃ l, itemsO c f d = some l ∧ qi l [] s1) er := propext Iff.rfl
theorem itemsO_obj {c f : Str} {fs : List (Str × D)} {l : List D} (h : fs.lookup f = some (.lst l)) : itemsO c f (.obj c fs) = some l := by
  show (if c = c then (match fs.lookup f with
    | some (.lst l) => some l
    | _ => none) else none) = some l
  rw [if_pos rfl, h]
end
end AM
set_option Elab.async false
set_option linter.all false
set_option maxRecDepth 100000
set_option maxHeartbeats 2000000
namespace AM
open PySem L2 Evl
section
variable {env : List A} {st : S} {q : D → S → Prop} {er : QX} {k : AK} {a b c : AE} {af : AFr} {fd : AFd} {qd : List (D × D) → S → Prop} {i : Nat}
@[simp ↓] theorem ev_sRetD : sRetD fd env st k = fd env st (fun l s1 => k.rt (.ownD l) s1) (fun e s1 => k.er e env s1) := propext Iff.rfl
@[simp ↓] theorem ev_aCellL : aCellL af env st q er = af env st (fun l s1 => q (.ref s1.length) (s1 ++ [.lst l])) er := propext Iff.rfl
@[simp ↓] theorem ev_aCellD : aCellD fd env st q er = fd env st (fun l s1 => q (.ref s1.length) (s1 ++ [.dic l])) er := propext Iff.rfl
@[simp ↓] theorem ev_aClrD : aClrD a env st q er = a env st (fun x s1 => ∃ n l, x = .ref n ∧ s1[n]? = some (.dic l) ∧ q .non (s1.set n (.dic []))) er := propext Iff.rfl
@[simp ↓] theorem ev_aClrL : aClrL a env st q er = a env st (fun x s1 => ∃ n l, x = .ref n ∧ s1[n]? = some (.lst l) ∧ q .non (s1.set n (.lst []))) er := propext Iff.rfl
@[simp ↓] theorem ev_aPopL : aPopL a env st q er = a env st (fun x s1 => ∃ n l y, x = .ref n ∧ s1[n]? = some (.lst l) ∧ l[l.length - 1]? = some y ∧ q y (s1.set n (.lst l.dropLast))) er := propext Iff.rfl
@[simp ↓] theorem ev_aPopI : aPopI a b env st q er = a env st (fun x s1 => ∃ n l0, x = .ref n ∧ s1[n]? = some (.lst l0) ∧ b env s1 (fun j s2 => ∃ (i : Nat) (l : List D) (y : D), j = .int (i : Int) ∧ i < 2 ^ 63 ∧ s2[n]? = some (.lst l) ∧ l[i]? = some y ∧ q y (s2.set n (.lst (l.eraseIdx i)))) er) er := propext Iff.rfl
@[simp ↓] theorem ev_aGetD : aGetD a b c env st q er = a env st (fun x s1 => (∃ l0, vw s1 x = .dic l0) ∧ b env s1 (fun y s2 => c env s2 (fun z s3 => ∃ l r, vw s3 x = .dic l ∧ isKeyT (vw s3 y) ∧ DGetD l (vw s3 y) r ∧ q (r.getD z) s3) er) er) er := propext Iff.rfl
@[simp ↓] theorem ev_sSetDx : sSetDx a b c env st k = c env st (fun d s1 => a env s1 (fun x s2 => b env s2 (fun j s3 => ∃ n l l2, x = .ref n ∧ s3[n]? = some (.dic l) ∧ isKeyT (vw s3 j) ∧ l.length < 100000 ∧ DPutD l (vw s3 j) d l2 ∧ k.nx env (s3.set n (.dic l2))) (fun e s => k.er e env s)) (fun e s => k.er e env s)) (fun e s => k.er e env s) := propext Iff.rfl
@[simp ↓] theorem ev_sCellD : sCellD fd i env st k = fd env st (fun l s1 => k.nx (env.set i (.d (.ref s1.length))) (s1 ++ [.dic l])) (fun e s1 => k.er e env s1) := propext Iff.rfl
end
/-- a dict is as it is -/
theorem hits_self {α : Type} {KK V : α → D} {m : List (D × D)} : ∀ {L : List α}, (∀ t ∈ L, DLook m (KK t) (V t)) → (∀ t ∈ L, (V t).shp ∧ D.eqv (V t) (V t) = true) → DHits m (L.map fun t => (KK t, V t)) true
  | [], _, _ => .nil
  | t :: L, h, hs => by
    have h1 := hs t (by simp)
    have := DHits.hit (h t (by simp)) h1.1 h1.1 (hits_self (L := L) (fun x hx => h x (by simp [hx])) fun x hx => hs x (by simp [hx]))
    rw [h1.2, Bool.true_and] at this
    exact this
theorem neD_self {α : Type} {KK V : α → D} {L : List α} (hn : (L.map KK).Nodup) (hs : ∀ t ∈ L, (V t).shp ∧ D.eqv (V t) (V t) = true) {q : D → Prop} (h : q (.bl false)) : oNeD (.dic (L.map fun t => (KK t, V t))) (.dic (L.map fun t => (KK t, V t))) q :=
  ⟨_, _, true, rfl, rfl, fun _ => hits_self (fun t ht => dlook_zip L hn ht) hs, by simpa using h⟩
theorem eqD_self {α : Type} {KK V : α → D} {L : List α} (hn : (L.map KK).Nodup) (hs : ∀ t ∈ L, (V t).shp ∧ D.eqv (V t) (V t) = true) {q : D → Prop} (h : q (.bl true)) : oEqD (.dic (L.map fun t => (KK t, V t))) (.dic (L.map fun t => (KK t, V t))) q :=
  ⟨_, _, true, rfl, rfl, fun _ => hits_self (fun t ht => dlook_zip L hn ht) hs, by simpa using h⟩
end AM
set_option Elab.async false
set_option linter.all false
set_option maxRecDepth 100000
set_option maxHeartbeats 2000000
namespace AM
open PySem L2 Evl
section
variable {env : List A} {st : S} {q : D → S → Prop} {er : QX} {k : AK} {a b c : AE} {af : AFr} {i : Nat}
/-- what x[:] = e asks behind its operands -/
def setWQ (env : List A) (k : AK) (d x : D) (s2 : S) : Prop := match x, d with
  | .ref n, .lst ys => ∃ l, s2[n]? = some (.lst l) ∧ l.length + ys.length < 100000 ∧ k.nx env (s2.set n (.lst ys))
  | _, _ => False
@[simp ↓] theorem ev_sSetW : sSetW b a env st k = a env st (fun d s1 => b env s1 (setWQ env k d) (fun e s => k.er e env s)) (fun e s => k.er e env s) := propext Iff.rfl
@[simp ↓] theorem setWQ_ref {n : Nat} {ys : List D} {s2 : S} : setWQ env k (.lst ys) (.ref n) s2 = ∃ l, s2[n]? = some (.lst l) ∧ l.length + ys.length < 100000 ∧ k.nx env (s2.set n (.lst ys)) := propext Iff.rfl
@[simp ↓] theorem ev_oRepT {l : List D} {n : Int} {q : D → Prop} : oRepT (.tup l) (.int n) q = (l ≠ [] ∧ 1 ≤ n ∧ n ≤ 1000 ∧ l.length ≤ 1000 ∧ q (.tup (List.replicate n.toNat l).flatten)) :=
  propext ⟨fun ⟨l', n', e1, e2, h⟩ => by cases e1; cases e2; exact h, fun h => ⟨l, n, rfl, rfl, h⟩⟩
@[simp] theorem isLst_lst {l : List D} : isLst (.lst l) = True := propext Iff.rfl
@[simp] theorem isNon_non : isNon .non = True := propext Iff.rfl
end
end AM
set_option Elab.async false
set_option linter.all false
set_option maxRecDepth 100000
set_option maxHeartbeats 2000000
namespace AM
open PySem L2 Evl
section
variable {env : List A} {st : S} {k : AK} {s : AS} {i : Nat}
@[simp ↓] theorem ev_sFrzIn : sFrzIn i s env st k = ∃ n st2, env[i]? = some (.d (.ref n)) ∧ FrzS n st st2 ∧ s env st2 k := propext Iff.rfl
end
end AM
set_option Elab.async false
set_option linter.all false
set_option maxRecDepth 100000
set_option maxHeartbeats 2000000
namespace AM
open PySem L2 Evl
section
variable {env : List A} {st : S} {q : D → S → Prop} {er : QX} {a b : AE} {c : Str} {m : AF}
def lenQ (q : D → S → Prop) (r : Rs) (s : S) : Prop := ∃ n : Nat, r = .d (.int (n : Int)) ∧ n < 2 ^ 62 ∧ q (.int (n : Int)) s
@[simp] theorem lenQ_int {n : Nat} : lenQ q (.d (.int (n : Int))) st = (n < 2 ^ 62 ∧ q (.int (n : Int)) st) := propext ⟨fun ⟨k, e, h1, h2⟩ => by
  have : (n : Int) = k := by injection e with e; injection e
  have : n = k := by omega
  subst this; exact ⟨h1, h2⟩, fun h => ⟨n, rfl, h⟩⟩
def cntQ (q : D → S → Prop) (x y : D) (s2 : S) : Prop := ∃ l, vw s2 x = .lst l ∧ (D.lst l).shp ∧ (vw s2 y).shp ∧ q (.int ((l.countP fun z => D.eqv z (vw s2 y) : Nat) : Int)) s2
@[simp ↓] theorem ev_aOwnLen : aOwnLen c m a env st q er = a env st (fun x s1 => isCls c (vw s1 x) ∧ m [x] s1 (lenQ q) er) er := propext Iff.rfl
@[simp ↓] theorem ev_aCnt : aCnt a b env st q er = a env st (fun x s1 => (∃ l, vw s1 x = .lst l) ∧ b env s1 (cntQ q x) er) er := propext Iff.rfl
end
end AM
set_option Elab.async false
set_option linter.all false
set_option maxRecDepth 100000
set_option maxHeartbeats 0
namespace LW
open PySem L2 AM
def xm_NoCell (c : Str) : Option Bool := if c = "BadShape" then some false else if c = "NoCell" then some true else if c = "BadShares" then some false else if c = "BadWeights" then some false else none
def xm_BadShares (c : Str) : Option Bool := if c = "BadShape" then some false else if c = "NoCell" then some false else if c = "BadShares" then some true else if c = "BadWeights" then some false else none
def xm_BadShape (c : Str) : Option Bool := if c = "BadShape" then some true else if c = "NoCell" then some false else if c = "BadShares" then some false else if c = "BadWeights" then some false else none
def ioT (a b : Str) : Option Bool := if a = "Hint" ∧ b = "Hint" then some true else if a = "Hint" ∧ b = "Log" then some false else if a = "Log" ∧ b = "Hint" then some false else if a = "Log" ∧ b = "Log" then some true else none
def itT (a : String) (b : Str) : Option Bool := if a = "NoneType" ∧ b = "Hint" then some false else if a = "NoneType" ∧ b = "Log" then some false else if a = "bool" ∧ b = "Hint" then some false else if a = "bool" ∧ b = "Log" then some false else if a = "int" ∧ b = "Hint" then some false else if a = "int" ∧ b = "Log" then some false else if a = "str" ∧ b = "Hint" then some false else if a = "str" ∧ b = "Log" then some false else if a = "list" ∧ b = "Hint" then some false else if a = "list" ∧ b = "Log" then some false else if a = "tuple" ∧ b = "Hint" then some false else if a = "tuple" ∧ b = "Log" then some false else if a = "dict" ∧ b = "Hint" then some false else if a = "dict" ∧ b = "Log" then some false else none
def a__law_pool : AS := AM.aPoolNew
def m__law_pool : AF := fnP 1 1 a__law_pool
def a__law_size : AS := sSeq (sAsg (aC (.int 1)) (agName 1))
  (sSeq (sFor (aIter (aVar 0)) (agName 2) (sAsg (aOp oMul (aVar 1) (aVar 2)) (agName 1)))
  (sRet (aVar 1)))
def m__law_size : AF := fnP 1 3 a__law_size
def a__law_shapes : AS := sSeq (sAsg (aFr (fLc (aRng2 (aC (.int 1)) (aC (.int 5))) (agName 2) (aYes) (aLst (aCons (aVar 2) (aNil))) [2])) (agName 1))
  (sSeq (sFor (aRng2 (aC (.int 1)) (aC (.int 5))) (agName 2) (sAsg (aOp oAdd (aVar 1) (aFr (fLc (aRng2 (aC (.int 1)) (aC (.int 5))) (agName 3) (aYes) (aLst (aCons (aVar 2) (aCons (aVar 3) (aNil)))) [3]))) (agName 1)))
  (sSeq (sFor (aRng2 (aC (.int 1)) (aC (.int 5))) (agName 2) (sFor (aRng2 (aC (.int 1)) (aC (.int 5))) (agName 3) (sAsg (aOp oAdd (aVar 1) (aFr (fLc (aRng2 (aC (.int 1)) (aC (.int 5))) (agName 5) (aYes) (aLst (aCons (aVar 2) (aCons (aVar 3) (aCons (aVar 5) (aNil))))) [5]))) (agName 1))))
  (sRetF (fLc (aIter (aVar 1)) (agName 4) (aTest (aOp oLe (aCall m__law_size (aCons (aVar 4) (aNil)) []) (aVar 0))) (aVar 4) [4]))))
def m__law_shapes : AF := fnP 1 6 a__law_shapes
def a__law_take : AS := AM.aTake
abbrev m__law_take : AF := mTake
def a__law_shape : AS := sSeq (sAsg (aCall m__law_shapes (aCons (aVar 1) (aNil)) []) (agName 2))
  (sRet (aOp oIxA (aVar 2) (aCall m__law_take (aCons (aVar 0) (aCons (aB bLen (aCons (aVar 2) (aNil))) (aNil))) [])))
def m__law_shape : AF := fnP 2 3 a__law_shape
def a__law_cells : AS := sSeq (sAsg (aLst (aCons (aLst (aNil)) (aNil))) (agName 1))
  (sSeq (sFor (aIter (aVar 0)) (agName 2) (sSeq (sAsg (aLst (aNil)) (agName 3))
  (sSeq (sFor (aIter (aVar 1)) (agName 4) (sAsg (aOp oAdd (aVar 3) (aFr (fLc (aRng1 (aVar 2)) (agName 5) (aYes) (aOp oAdd (aVar 4) (aLst (aCons (aVar 5) (aNil)))) [5]))) (agName 3)))
  (sAsg (aVar 3) (agName 1)))))
  (sRetF (fLc (aIter (aVar 1)) (agName 4) (aYes) (aB bTuple (aCons (aVar 4) (aNil))) [4])))
def m__law_cells : AF := fnP 1 6 a__law_cells
def a_is_integer : AS := sRet (aAndV (aB bIsi (aCons (aVar 0) (aCons (aC (.ty "int")) (aNil)))) (aNotV (aB bIsi (aCons (aVar 0) (aCons (aC (.ty "bool")) (aNil))))))
def m_is_integer : AF := fnP 1 1 a_is_integer
def a_are_integers : AS := sRet (aAndV (aB bIsi (aCons (aVar 0) (aCons (aTup (aCons (aC (.ty "list")) (aCons (aC (.ty "tuple")) (aNil)))) (aNil)))) (aB bAll (aCons (aFr (fLc (aIter (aVar 0)) (agName 1) (aYes) (aCall m_is_integer (aCons (aVar 1) (aNil)) []) [1])) (aNil))))
def m_are_integers : AF := fnP 1 2 a_are_integers
def a_checked_shape : AS := sSeq (sIf (aOr (aNot (aTruth (aCall m_are_integers (aCons (aVar 0) (aNil)) []))) (aNot (aTest (aChain oLe oLe (aC (.int 1)) (aB bLen (aCons (aVar 0) (aNil))) (aC (.int 3)))))) (sRaise0 "BadShape") (sNext))
  (sSeq (sAsg (aC (.int 1)) (agName 1))
  (sSeq (sFor (aIter (aVar 0)) (agName 2) (sSeq (sIf (aNot (aTest (aChain oLe oLe (aC (.int 1)) (aVar 2) (aC (.int 4))))) (sRaise0 "BadShape") (sNext))
  (sAsg (aOp oMul (aVar 1) (aVar 2)) (agName 1))))
  (sSeq (sIf (aTest (aOp oGt (aVar 1) (aC (.int 16)))) (sRaise0 "BadShape") (sNext))
  (sRet (aB bTuple (aCons (aVar 0) (aNil)))))))
def m_checked_shape : AF := fnP 1 3 a_checked_shape
def a_Log___init__ : AS := sSeq (sFldSet "Log" "shape" (aVar 0) (aCall m_checked_shape (aCons (aVar 1) (aNil)) []))
  (sFldSet "Log" "made" (aVar 0) (aCellL (fLst (aNil))))
def m_Log___init__ : AF := fnP 2 2 a_Log___init__
def a__law_odd_cells : AS := sSeq (sAsg (aLst (aCons (aOp oAdd (aOp oIxA (aVar 1) (aUn oNeg (aC (.int 1)))) (aTup (aCons (aC (.int 0)) (aNil)))) (aCons (aSl (aOp oIxA (aVar 1) (aUn oNeg (aC (.int 1)))) (oAt (aC (.int 1))) (oNo)) (aCons (aB bList (aCons (aOp oIxA (aVar 1) (aC (.int 0))) (aNil))) (aCons (aOp oRepT (aTup (aCons (aUn oNeg (aC (.int 1))) (aNil))) (aB bLen (aCons (aVar 0) (aNil)))) (aCons (aC .non) (aCons (aC (.int 0)) (aNil)))))))) (agName 2))
  (sRet (aOp oAdd (aVar 2) (aLst (aCons (aOp oRepT (aTup (aCons (aC (.bl true)) (aNil))) (aB bLen (aCons (aVar 0) (aNil)))) (aCons (aOp oRepT (aTup (aCons (aC (.bl false)) (aNil))) (aB bLen (aCons (aVar 0) (aNil)))) (aNil))))))
def m__law_odd_cells : AF := fnP 2 3 a__law_odd_cells
def a_is_cell : AS := sSeq (sIf (aOr (aNot (aTruth (aB bIsi (aCons (aVar 1) (aCons (aC (.ty "tuple")) (aNil)))))) (aOr (aTest (aOp oNe (aB bLen (aCons (aVar 1) (aNil))) (aB bLen (aCons (aVar 0) (aNil))))) (aNot (aTruth (aCall m_are_integers (aCons (aVar 1) (aNil)) []))))) (sRet (aC (.bl false))) (sNext))
  (sRet (aB bAll (aCons (aFr (fLc (aZip (aVar 1) (aVar 0)) (agTup 2 (agCons (agName 2) (agCons (agName 3) (agNil)))) (aYes) (aChain oLe oLt (aC (.int 0)) (aVar 2) (aVar 3)) [2, 3])) (aNil))))
def m_is_cell : AF := fnP 2 4 a_is_cell
def a_Log_play : AS := sSeq (sIf (aNot (aTruth (aCall m_is_cell (aCons (aFld ["Log"] "shape" (aVar 0)) (aCons (aVar 1) (aNil))) []))) (sRaise1 "NoCell" "cell" (aVar 1)) (sNext))
  (sDrop (aApp (aFld ["Log"] "made" (aVar 0)) (aVar 1)))
def m_Log_play : AF := fnP 2 2 a_Log_play
def a_Log_behind : AS := sSeq (sIf (aOr (aNot (aTruth (aCall m_is_integer (aCons (aVar 1) (aNil)) []))) (aNot (aTest (aChain oLe oLe (aC (.int 0)) (aVar 1) (aB bLen (aCons (aFld ["Log"] "made" (aVar 0)) (aNil))))))) (sRaise0 "BadShares") (sNext))
  (sSeq (sAsg (aNewM "Log" m_Log___init__ (aCons (aFld ["Log"] "shape" (aVar 0)) (aNil)) []) (agName 2))
  (sSeq (sFor (aIter (aSl (aFld ["Log"] "made" (aVar 0)) (oNo) (oAt (aVar 1)))) (agName 3) (sDrop (aMeth "Log" "play" m_Log_play (aVar 2) (aCons (aVar 3) (aNil)) [])))
  (sRet (aVar 2))))
def m_Log_behind : AF := fnP 2 4 a_Log_behind
def a__law_refused : AS := sSeq (sTryMix (sSeq (sIf (aTest (aOp oEq (aVar 0) (aC (.int 0)))) (sDrop (aMeth "Log" "play" m_Log_play (aVar 1) (aCons (aVar 2) (aNil)) [])) (sNext))
  (sSeq (sIf (aTest (aOp oEq (aVar 0) (aC (.int 1)))) (sDrop (aMeth "Log" "behind" m_Log_behind (aVar 1) (aCons (aVar 2) (aNil)) [])) (sNext))
  (sIf (aTest (aOp oEq (aVar 0) (aC (.int 2)))) (sDrop (aNewM "Log" m_Log___init__ (aCons (aVar 2) (aNil)) [])) (sNext)))) [(xm_NoCell, some 3, fun a c d => sRet (aLst (aCons (aC (.str "cell")) (aCons (aXf a c d "NoCell" 3 "cell") (aNil))))), (xm_BadShares, none, fun a c d => sRet (aLst (aCons (aC (.str "shares")) (aNil)))), (xm_BadShape, none, fun a c d => sRet (aLst (aCons (aC (.str "shape")) (aNil))))])
  (sRetF (fLst (aNil)))
def m__law_refused : AF := fnP 3 4 a__law_refused
def a_cells_of : AS := sSeq (sAsg (aLst (aCons (aTup (aNil)) (aNil))) (agName 1))
  (sSeq (sFor (aIter (aVar 0)) (agName 2) (sAsg (aFr (fLc2 (aIter (aVar 1)) (agName 3) (aYes) (aRng1 (aVar 2)) (agName 4) (aYes) (aTup (aStar (aVar 3) (aCons (aVar 4) (aNil)))) [3, 4] [4])) (agName 1)))
  (sRet (aVar 1)))
def m_cells_of : AF := fnP 1 5 a_cells_of
def a_is_mix : AS := sRet (aAndV (aCall m_are_integers (aCons (aVar 0) (aNil)) []) (aAndV (aOp oEq (aB bLen (aCons (aVar 0) (aNil))) (aVar 1)) (aAndV (aB bAll (aCons (aFr (fLc (aIter (aVar 0)) (agName 2) (aYes) (aOp oGe (aVar 2) (aC (.int 0))) [2])) (aNil))) (aOp oGt (aB bSumA (aCons (aVar 0) (aNil))) (aC (.int 0))))))
def m_is_mix : AF := fnP 2 3 a_is_mix
def a_divisor : AS := sSeq (sAsg (aC (.int 0)) (agName 1))
  (sSeq (sFor (aIter (aVar 0)) (agName 2) (sSeq (sPar 3 4 (aCons (aB bAbs (aCons (aVar 2) (aNil))) (aCons (aVar 1) (aNil))))
  (sSeq (sWhile (aTruth (aVar 4)) (sPar 3 4 (aCons (aVar 4) (aCons (aOp oMod (aVar 3) (aVar 4)) (aNil)))))
  (sAsg (aVar 3) (agName 1)))))
  (sRet (aVar 1)))
def m_divisor : AF := fnP 1 5 a_divisor
def a_lowest : AS := sSeq (sAsg (aCall m_divisor (aCons (aVar 0) (aNil)) []) (agName 1))
  (sRetF (fIf (aTruth (aVar 1)) (fLc (aIter (aVar 0)) (agName 2) (aYes) (aOp oFdiv (aVar 2) (aVar 1)) [2]) (fList (aVar 0))))
def m_lowest : AF := fnP 1 3 a_lowest
def a_Hint___init__ : AS := sSeq (sFldSet "Hint" "shape" (aVar 0) (aCall m_checked_shape (aCons (aVar 1) (aNil)) []))
  (sSeq (sFldSet "Hint" "places" (aVar 0) (aCall m_cells_of (aCons (aFld ["Hint"] "shape" (aVar 0)) (aNil)) []))
  (sSeq (sIf (aNot (aTruth (aCall m_is_mix (aCons (aVar 2) (aCons (aB bLen (aCons (aFld ["Hint"] "places" (aVar 0)) (aNil))) (aNil))) []))) (sRaise0 "BadWeights") (sNext))
  (sSeq (sFldSet "Hint" "parts" (aVar 0) (aCall m_lowest (aCons (aVar 2) (aNil)) []))
  (sSeq (sFldSet "Hint" "unit" (aVar 0) (aB bSum (aCons (aFld ["Hint"] "parts" (aVar 0)) (aNil))))
  (sFldSet "Hint" "part_of" (aVar 0) (aFd (fDZip (aFld ["Hint"] "places" (aVar 0)) (aFld ["Hint"] "parts" (aVar 0)))))))))
def m_Hint___init__ : AF := fnP 3 3 a_Hint___init__
def a__law_divisor : AS := sSeq (sAsg (aC (.int 0)) (agName 1))
  (sSeq (sFor (aIter (aVar 0)) (agName 2) (sSeq (sAsg (aB bAbs (aCons (aVar 2) (aNil))) (agName 3))
  (sSeq (sAsg (aVar 1) (agName 4))
  (sSeq (sWhile (aTest (aOp oNe (aVar 4) (aC (.int 0)))) (sPar 3 4 (aCons (aVar 4) (aCons (aOp oMod (aB bInt (aCons (aVar 3) (aNil))) (aVar 4)) (aNil)))))
  (sAsg (aVar 3) (agName 1))))))
  (sRet (aVar 1)))
def m__law_divisor : AF := fnP 1 5 a__law_divisor
def a__law_least_terms : AS := sSeq (sAsg (aCall m__law_divisor (aCons (aVar 0) (aNil)) []) (agName 1))
  (sSeq (sIf (aTest (aOp oEq (aVar 1) (aC (.int 0)))) (sRetF (fList (aVar 0))) (sNext))
  (sRetF (fLc (aIter (aVar 0)) (agName 2) (aYes) (aOp oFdiv (aVar 2) (aVar 1)) [2])))
def m__law_least_terms : AF := fnP 1 3 a__law_least_terms
def a_Log___len__ : AS := sRet (aB bLen (aCons (aFld ["Log"] "made" (aVar 0)) (aNil)))
def m_Log___len__ : AF := fnP 1 1 a_Log___len__
def a_Log_plays : AS := sRetF (fList (aFld ["Log"] "made" (aVar 0)))
def m_Log_plays : AF := fnP 1 1 a_Log_plays
def a_Log_hint : AS := sSeq (sIf (aNot (aTruth (aFld ["Log"] "made" (aVar 0)))) (sRet (aC .non)) (sNext))
  (sRet (aNew "Hint" m_Hint___init__ (aCons (aFld ["Log"] "shape" (aVar 0)) (aCons (aFr (fLc (aIter (aCall m_cells_of (aCons (aFld ["Log"] "shape" (aVar 0)) (aNil)) [])) (agName 1) (aYes) (aCnt (aFld ["Log"] "made" (aVar 0)) (aVar 1)) [1])) (aNil))) []))
def m_Log_hint : AF := fnP 1 2 a_Log_hint
def a_Hint___eq__ : AS := sRet (aAndV (aB (bIsiO ioT itT) (aCons (aVar 1) (aCons (aC (.fn "Hint")) (aNil)))) (aAndV (aOp oEq (aFld ["Hint"] "shape" (aVar 0)) (aFld ["Hint"] "shape" (aVar 1))) (aOp oEq (aFld ["Hint"] "parts" (aVar 0)) (aFld ["Hint"] "parts" (aVar 1)))))
def m_Hint___eq__ : AF := fnP 2 2 a_Hint___eq__
def a_Hint_weights : AS := sRetF (fList (aFld ["Hint"] "parts" (aVar 0)))
def m_Hint_weights : AF := fnP 1 1 a_Hint_weights
def a__law_same : AS := sSeq (sIf (aOr (aTest (aOp oNe (aFld ["Log"] "shape" (aVar 0)) (aB bTuple (aCons (aVar 1) (aNil))))) (aOr (aTest (aOp oNe (aOwnLen "Log" m_Log___len__ (aVar 0)) (aB bLen (aCons (aVar 2) (aNil))))) (aTest (aOp oNe (aMeth "Log" "plays" m_Log_plays (aVar 0) aNil []) (aVar 2))))) (sRet (aC (.bl false))) (sNext))
  (sSeq (sDrop (aApp (aCellL (fMeth "Log" "plays" m_Log_plays (aVar 0) aNil [])) (aTup (aCons (aC (.int 0)) (aCons (aC (.int 0)) (aNil))))))
  (sSeq (sAsg (aMeth "Log" "hint" m_Log_hint (aVar 0) aNil []) (agName 3))
  (sSeq (sIf (aTest (aOp oEq (aVar 2) (aLst (aNil)))) (sRet (aOp oIs (aVar 3) (aC .non))) (sNext))
  (sSeq (sAsg (aFr (fLc (aIter (aCall m__law_cells (aCons (aVar 1) (aNil)) [])) (agName 5) (aYes) (aB bLen (aCons (aFr (fLc (aIter (aVar 2)) (agName 6) (aTest (aOp oEq (aVar 6) (aVar 5))) (aVar 6) [6])) (aNil))) [5])) (agName 4))
  (sRet (aAndV (aOwn2 "Hint" m_Hint___eq__ (isCls "Hint") (aVar 3) (aNew "Hint" m_Hint___init__ (aCons (aB bTuple (aCons (aVar 1) (aNil))) (aCons (aVar 4) (aNil))) [])) (aOp oEq (aMeth "Hint" "weights" m_Hint_weights (aVar 3) aNil []) (aCall m__law_least_terms (aCons (aVar 4) (aNil)) []))))))))
def m__law_same : AF := fnP 3 7 a__law_same
def a__law_hints : AS := sSeq (sCell (fLst (aNil)) 1)
  (sSeq (sFor (aIter (aVar 0)) (agName 2) (sIf (aAnd (aTest (aOp oIsNot (aVar 2) (aC .non))) (aTest (aOp oIsNot (aMeth "Log" "hint" m_Log_hint (aVar 2) aNil []) (aC .non)))) (sSeq (sAsg (aMeth "Log" "hint" m_Log_hint (aVar 2) aNil []) (agName 3))
  (sDrop (aApp (aVar 1) (aTup (aCons (aVar 3) (aCons (aMeth "Hint" "weights" m_Hint_weights (aVar 3) aNil []) (aNil))))))) (sNext)))
  (sRet (aVar 1)))
def m__law_hints : AF := fnC 1 4 a__law_hints
def a__law_kept : AS := sSeq (sIf (aTest (aOp oNe (aFr (fLc (aIter (aVar 2)) (agTup 2 (agCons (agName 3) (agCons (agName 4) (agNil)))) (aTest (aOp oNe (aMeth "Hint" "weights" m_Hint_weights (aVar 3) aNil []) (aVar 4))) (aVar 3) [3, 4])) (aLst (aNil)))) (sRet (aC (.bl false))) (sNext))
  (sSeq (sIf (aNot (aTruth (aB bAll (aCons (aFr (fLc (aIter (aLst (aCons (aLst (aNil)) (aCons (aTup (aCons (aC (.int 5)) (aNil))) (aCons (aTup (aCons (aC (.int 0)) (aCons (aC (.int 1)) (aNil)))) (aCons (aTup (aCons (aC (.int 4)) (aCons (aC (.int 4)) (aCons (aC (.int 2)) (aNil))))) (aCons (aTup (aCons (aC (.bl true)) (aNil))) (aCons (aC .non) (aCons (aC (.int 3)) (aNil)))))))))) (agName 5) (aYes) (aOp oEq (aCall m__law_refused (aCons (aC (.int 2)) (aCons (aVar 0) (aCons (aVar 5) (aNil)))) []) (aLst (aCons (aC (.str "shape")) (aNil)))) [5])) (aNil))))) (sRet (aC (.bl false))) (sNext))
  (sRet (aAndV (aOp oEq (aMeth "Log" "plays" m_Log_plays (aMeth "Log" "behind" m_Log_behind (aVar 0) (aCons (aB bLen (aCons (aVar 1) (aNil))) (aNil)) []) aNil []) (aVar 1)) (aOp oIs (aMeth "Log" "hint" m_Log_hint (aMeth "Log" "behind" m_Log_behind (aVar 0) (aCons (aC (.int 0)) (aNil)) []) aNil []) (aC .non)))))
def m__law_kept : AF := fnP 3 6 a__law_kept
def a_law : AS := sSeq (sAsg (aCall m__law_shape (aCons (aVar 1) (aCons (aC (.int 16)) (aNil))) []) (agName 2))
  (sSeq (sAsg (aCall m__law_cells (aCons (aVar 2) (aNil)) []) (agName 3))
  (sSeq (sAsg (aNewM "Log" m_Log___init__ (aCons (aOp oIxA (aLst (aCons (aB bTuple (aCons (aVar 2) (aNil))) (aCons (aVar 2) (aNil)))) (aCall m__law_take (aCons (aVar 1) (aCons (aC (.int 2)) (aNil))) [])) (aNil)) []) (agName 4))
  (sSeq (sAsg (aLst (aNil)) (agName 5))
  (sSeq (sAsg (aC .non) (agName 6))
  (sSeq (sAsg (aLst (aNil)) (agName 7))
  (sSeq (sAsg (aLst (aNil)) (agName 8))
  (sSeq (sFor (aRng1 (aCall m__law_take (aCons (aVar 1) (aCons (aC (.int 13)) (aNil))) [])) (agName 9) (sSeq (sAsg (aCall m__law_take (aCons (aVar 1) (aCons (aC (.int 6)) (aNil))) []) (agName 10))
  (sSeq (sIf (aTest (aOp oEq (aVar 10) (aC (.int 0)))) (sSeq (sAsg (aOp oIxA (aCall m__law_odd_cells (aCons (aVar 2) (aCons (aVar 3) (aNil))) []) (aCall m__law_take (aCons (aVar 1) (aCons (aC (.int 8)) (aNil))) [])) (agName 11))
  (sIf (aTest (aOp oNe (aCall m__law_refused (aCons (aC (.int 0)) (aCons (aVar 4) (aCons (aVar 11) (aNil)))) []) (aLst (aCons (aC (.str "cell")) (aCons (aVar 11) (aNil)))))) (sRet (aC (.bl false))) (sNext))) (sIf (aTest (aOp oEq (aVar 10) (aC (.int 1)))) (sSeq (sAsg (aOp oIxA (aLst (aCons (aUn oNeg (aC (.int 1))) (aCons (aOp oAdd (aB bLen (aCons (aVar 5) (aNil))) (aC (.int 1))) (aCons (aC (.bl true)) (aCons (aC .non) (aCons (aC (.str "1")) (aNil))))))) (aCall m__law_take (aCons (aVar 1) (aCons (aC (.int 5)) (aNil))) [])) (agName 11))
  (sIf (aTest (aOp oNe (aCall m__law_refused (aCons (aC (.int 1)) (aCons (aVar 4) (aCons (aVar 11) (aNil)))) []) (aLst (aCons (aC (.str "shares")) (aNil))))) (sRet (aC (.bl false))) (sNext))) (sIf (aTest (aOp oEq (aVar 10) (aC (.int 2)))) (sSeq (sAsg (aCall m__law_take (aCons (aVar 1) (aCons (aOp oAdd (aB bLen (aCons (aVar 5) (aNil))) (aC (.int 1))) (aNil))) []) (agName 12))
  (sSeq (sAsg (aMeth "Log" "behind" m_Log_behind (aVar 4) (aCons (aVar 12) (aNil)) []) (agName 6))
  (sAsg (aSl (aVar 5) (oNo) (oAt (aVar 12))) (agName 7)))) (sIf (aAnd (aTest (aOp oEq (aVar 10) (aC (.int 3)))) (aTest (aOp oIsNot (aVar 6) (aC .non)))) (sSeq (sAsg (aOp oIxA (aVar 3) (aCall m__law_take (aCons (aVar 1) (aCons (aB bLen (aCons (aVar 3) (aNil))) (aNil))) [])) (agName 13))
  (sSeq (sIf (aTest (aOp oIsNot (aMeth "Log" "play" m_Log_play (aVar 6) (aCons (aVar 13) (aNil)) []) (aC .non))) (sRet (aC (.bl false))) (sNext))
  (sAsg (aOp oAdd (aVar 7) (aLst (aCons (aVar 13) (aNil)))) (agName 7)))) (sSeq (sAsg (aOp oIxA (aVar 3) (aCall m__law_take (aCons (aVar 1) (aCons (aB bLen (aCons (aVar 3) (aNil))) (aNil))) [])) (agName 13))
  (sSeq (sIf (aTest (aOp oIsNot (aMeth "Log" "play" m_Log_play (aVar 4) (aCons (aVar 13) (aNil)) []) (aC .non))) (sRet (aC (.bl false))) (sNext))
  (sAsg (aOp oAdd (aVar 5) (aLst (aCons (aVar 13) (aNil)))) (agName 5))))))))
  (sSeq (sIf (aOr (aNot (aTruth (aCall m__law_same (aCons (aVar 4) (aCons (aVar 2) (aCons (aVar 5) (aNil)))) []))) (aAnd (aTest (aOp oIsNot (aVar 6) (aC .non))) (aNot (aTruth (aCall m__law_same (aCons (aVar 6) (aCons (aVar 2) (aCons (aVar 7) (aNil)))) []))))) (sRet (aC (.bl false))) (sNext))
  (sAsg (aOp oAdd (aVar 8) (aCall m__law_hints (aCons (aLst (aCons (aVar 4) (aCons (aVar 6) (aNil)))) (aNil)) [])) (agName 8))))))
  (sRet (aCall m__law_kept (aCons (aVar 4) (aCons (aVar 5) (aCons (aVar 8) (aNil)))) [])))))))))
end LW
set_option Elab.async false
set_option linter.all false
set_option maxRecDepth 100000
set_option maxHeartbeats 1000000
namespace LW
open PySem L2 AM
theorem gdOk_of {st : S} {d : D} : gdOk (gdOf st d) st := by
  cases d with
  | ref n =>
    cases h : st[n]? with
    | none => unfold gdOf; simp [h]
    | some c => rw [gdOf_ref h]; simp [h]
  | _ => simp
theorem gdOk_app {a b : Gd} {st : S} (h : gdOk a st) (h2 : gdOk b st) : gdOk (a ++ b) st := by
  unfold gdOk at *
  intro p hp
  rcases List.mem_append.mp hp with hp | hp
  · exact h p hp
  · exact h2 p hp
theorem for_of {α : Type} {T : α → D} {gd : Gd} {g : AG} {s : AS} {k : AK} {P : List α → List A → S → Prop} (h0 : ∀ env st, P [] env st → gdOk gd st ∧ k.nx env st) (h1 : ∀ x xs env st, P (x :: xs) env st → ∀ nx : List A → S → Prop, (∀ e s, P xs e s → nx e s) → gdOk gd st ∧ g (T x) env st fun e1 => s e1 st { k with nx := nx, ct := nx, bk := k.nx }) : ∀ l env st, P l env st → sForL gd g s (l.map T) env st k
  | [], env, st, h => h0 env st h
  | x :: xs, env, st, h => h1 x xs env st h _ fun e s hp => for_of h0 h1 xs e s hp
theorem for_rng {gd : Gd} {g : AG} {s : AS} {k : AK} {N : Nat} {P : Nat → List A → S → Prop} (h0 : ∀ env st, P N env st → gdOk gd st ∧ k.nx env st) (h1 : ∀ i env st, i < N → P i env st → ∀ nx : List A → S → Prop, (∀ e s, P (i + 1) e s → nx e s) → gdOk gd st ∧ g (.int (i : Int)) env st fun e1 => s e1 st { k with nx := nx, ct := nx, bk := k.nx }) (env : List A) (st : S) (h : P 0 env st) : sForL gd g s ((List.range N).map fun (i : Nat) => D.int (i : Int)) env st k := by
  refine for_of (T := fun (i : Nat) => D.int (i : Int)) (P := fun l env st => ∃ i, i ≤ N ∧ l = List.range' i (N - i) ∧ P i env st) ?_ ?_ _ _ _ ⟨0, by omega, by rw [List.range_eq_range']; rfl, h⟩
  · rintro env st ⟨i, hi, hl, hp⟩
    have : N - i = 0 := by have := congrArg List.length hl; simpa using this.symm
    have : i = N := by omega
    subst this
    exact h0 env st hp
  · rintro x xs env st ⟨i, hi, hl, hp⟩ nx hnx
    have hlt : i < N := by
      have := congrArg List.length hl
      simp at this; omega
    rw [show N - i = (N - (i + 1)) + 1 by omega, List.range'_succ] at hl
    injection hl with h2 h3
    subst h2
    exact h1 x env st hlt hp nx fun e s hp => hnx e s ⟨x + 1, by omega, h3, hp⟩
/-! ### kinds -/
def isIntB : D → Bool
  | .int _ => true
  | _ => false
def okK : D → Prop
  | .non => True | .bl _ => True | .int _ => True | .str _ => True | .lst _ => True | .tup _ => True | .dic _ => True
  | _ => False
theorem vw_okK {st : S} {x : D} (h : okK x) : vw st x = x := by
  cases x <;> first | rfl | exact h.elim
def intsB (st : S) (d : D) : Bool := match vw st d with
  | .lst l => l.all fun x => isIntB (vw st x)
  | .tup l => l.all fun x => isIntB (vw st x)
  | _ => false
section
variable {st : S} {q : Rs → S → Prop} {er : QX} {d : D}
theorem is_integer_spec (hk : okK (vw st d)) (h : q (.d (.bl (isIntB (vw st d)))) st) : m_is_integer [d] st q er := by
  refine ⟨rfl, ?_⟩
  show a_is_integer [.d d] st _
  unfold a_is_integer
  simp
  cases hv : vw st d <;> rw [hv] at hk h <;> first | exact hk.elim | simpa [isIntB] using h
theorem are_integers_spec (hk : okK (vw st d)) (hi : ∀ l, itemsD (vw st d) = some l → l.length ≤ 100000 ∧ ∀ x ∈ l, okK (vw st x)) (h : q (.d (.bl (intsB st d))) st) : m_are_integers [d] st q er := by
  refine ⟨rfl, ?_⟩
  show a_are_integers [.d d, .no] st _
  unfold a_are_integers
  simp
  have sq : ∀ l, itemsD (vw st d) = some l → (∀ x ∈ l, okK (vw st x)) → intsB st d = l.all (fun x => isIntB (vw st x)) → l.length ≤ 100000 → aLcL (gdOf st d) (agName 1) aYes (aCall m_is_integer (aCons (aVar 1) aNil) []) [.d d, .no] (fun l s1 => bAll [vw s1 (.lst l)] fun z => q (.d z) s1) l [] st := fun l hl hx hb hlen => by
    refine lc_all (G := fun x => .bl (isIntB (vw st x))) gdOk_of (fun x hx' P1 P2 hp => ?_) (by simpa using hlen) ?_
    · simp
      exact is_integer_spec (hx x hx') (by simpa using hp)
    · refine ⟨l.map fun x => isIntB (vw st x), by simp, ?_⟩
      rw [hb] at h
      simpa [List.all_map, Function.comp_def] using h
  cases hv : vw st d with
  | lst l =>
    have := hi l (by rw [hv]; rfl)
    simp
    exact sq l (by rw [hv]; rfl) this.2 (by unfold intsB; rw [hv]) this.1
  | tup l =>
    have := hi l (by rw [hv]; rfl)
    simp
    exact sq l (by rw [hv]; rfl) this.2 (by unfold intsB; rw [hv]) this.1
  | _ => first | (simp; simpa [intsB, hv] using h) | (rw [hv] at hk; exact hk.elim)
end
/-! ### rows of integers as they are seen -/
def isInts (st : S) (d : D) (ns : List Int) : Prop := itemsD (vw st d) = some (ns.map .int)
theorem isInts_lst {st : S} {ns : List Int} : isInts st (.lst (ns.map .int)) ns := rfl
theorem isInts_tup {st : S} {ns : List Int} : isInts st (.tup (ns.map .int)) ns := rfl
theorem isInts_k {st : S} {d : D} {ns : List Int} (h : isInts st d ns) : okK (vw st d) ∧ intsB st d = true ∧ lenD (vw st d) = some ns.length := by
  unfold isInts at h
  unfold intsB
  cases hv : vw st d <;> rw [hv] at h <;> simp [itemsD] at h
  · subst h; simp [okK, isIntB, lenD]
  · subst h; simp [okK, isIntB, lenD]
theorem ints_spec {st : S} {q : Rs → S → Prop} {er : QX} {d : D} {ns : List Int} (hd : isInts st d ns) (hl : ns.length ≤ 1000) (h : q (.d (.bl true)) st) : m_are_integers [d] st q er := by
  refine are_integers_spec (isInts_k hd).1 (fun l e => ?_) (by rw [(isInts_k hd).2.1]; exact h)
  have : some l = some (ns.map D.int) := by rw [← e]; exact hd
  injection this with this
  subst this
  refine ⟨by simp; omega, fun x hx => ?_⟩
  obtain ⟨i, _, rfl⟩ := List.mem_map.mp hx
  trivial
/-! ### shapes -/
def prodN (sh : List Nat) : Nat := sh.foldl (· * ·) 1
structure ShapeOk (sh : List Nat) : Prop where
  l1 : 1 ≤ sh.length
  l3 : sh.length ≤ 3
  each : ∀ n ∈ sh, 1 ≤ n ∧ n ≤ 4
  all : prodN sh ≤ 16
abbrev iN (l : List Nat) : List Int := l.map fun (i : Nat) => (i : Int)
abbrev iD (l : List Int) : List D := l.map D.int
theorem prod_le {sh : List Nat} : ∀ {p : Nat}, (∀ n ∈ sh, n ≤ 4) → sh.foldl (· * ·) p ≤ p * 4 ^ sh.length := by
  induction sh with
  | nil => intro p _; simp
  | cons n ns ih =>
    intro p h
    have h1 := h n (by simp)
    have := ih (p := p * n) (fun m hm => h m (by simp [hm]))
    simp only [List.foldl_cons, List.length_cons]
    refine Nat.le_trans this ?_
    rw [Nat.pow_succ, Nat.mul_comm (4 ^ _) 4, ← Nat.mul_assoc]
    exact Nat.mul_le_mul_right _ (Nat.mul_le_mul_left _ h1)
theorem cmul_small {a b : Int} (ha : a.natAbs < 2 ^ 8000) (hb : b.natAbs < 2 ^ 8000) : CMulW a b := by
  have l : ∀ x : Int, x.natAbs < 2 ^ 8000 → x.natAbs.log2 < 8001 := fun x hx => by
    by_cases hz : x.natAbs = 0
    · rw [hz]; decide
    · exact (Nat.log2_lt hz).mpr (Nat.lt_of_lt_of_le hx (Nat.pow_le_pow_right (by decide) (by decide)))
  have := l a ha
  have := l b hb
  show a.natAbs.log2 + b.natAbs.log2 < 1000000
  omega
theorem small_lt {n : Nat} (h : n < 2 ^ 100) : n < 2 ^ 8000 := Nat.lt_of_lt_of_le h (Nat.pow_le_pow_right (by decide) (by decide))
theorem cmul_nat {a b : Nat} (ha : a < 2 ^ 100) (hb : b < 2 ^ 100) : CMulW (a : Int) (b : Int) := cmul_small (small_lt (by simpa using ha)) (small_lt (by simpa using hb))
section
variable {st : S} {q : Rs → S → Prop} {er : QX} {d : D} {sh : List Nat}
theorem checked_shape_spec (hd : isInts st d (iN sh)) (ok : ShapeOk sh) (h : q (.d (.tup (iD (iN sh)))) st) : m_checked_shape [d] st q er := by
  refine ⟨rfl, ?_⟩
  show a_checked_shape [.d d, .no, .no] st _
  unfold a_checked_shape
  have hl := ok.l1; have hl3 := ok.l3
  have hlen : lenD (vw st d) = some sh.length := by rw [(isInts_k hd).2.2]; simp
  simp
  refine ints_spec hd (by simp; omega) ?_
  simp [hlen]
  rw [if_pos (by omega), if_pos (by omega)]
  refine ⟨_, hd, ?_⟩
  rw [List.map_map]
  refine for_of (P := fun l env s => s = st ∧ ∃ (p : Nat) (e2 : A), env = [.d d, .d (.int p), e2] ∧ l.foldl (· * ·) p = prodN sh ∧ (∀ n ∈ l, 1 ≤ n ∧ n ≤ 4) ∧ p * 4 ^ l.length < 1000) ?_ ?_ sh _ _ ⟨rfl, 1, .no, rfl, rfl, ok.each, ?_⟩
  · rintro env s ⟨rfl, p, e2, rfl, hp, _, _⟩
    refine ⟨gdOk_of, ?_⟩
    have hp : p = prodN sh := hp
    have h16 : ¬ (16 : Int) < (p : Int) := by have := ok.all; omega
    simp [h16]
    exact ⟨_, hd, h⟩
  · rintro n l env s ⟨rfl, p, e2, rfl, hp, he, hb⟩ nx hnx
    refine ⟨gdOk_of, ?_⟩
    have hn := he n (by simp)
    have hpb : p < 1000 := Nat.lt_of_le_of_lt (Nat.le_mul_of_pos_right p (Nat.pow_pos (by decide))) hb
    have hc : CMulW (p : Int) (n : Int) := cmul_nat (Nat.lt_of_lt_of_le hpb (by decide)) (Nat.lt_of_le_of_lt hn.2 (by decide))
    simp
    rw [if_pos (by omega), if_pos (by omega)]
    refine ⟨hc, hnx _ _ ⟨rfl, p * n, _, by simp; rfl, hp, fun m hm => he m (by simp [hm]), ?_⟩⟩
    rw [List.length_cons, Nat.pow_succ, Nat.mul_comm (4 ^ _) 4, ← Nat.mul_assoc] at hb
    exact Nat.lt_of_le_of_lt (Nat.mul_le_mul_right _ (Nat.mul_le_mul_left _ hn.2)) hb
  · have : 4 ^ sh.length ≤ 4 ^ 3 := Nat.pow_le_pow_right (by decide) hl3
    omega
/-! ### cells -/
def nextC (acc : List (List Nat)) (n : Nat) : List (List Nat) := acc.flatMap fun c => (List.range n).map fun i => c ++ [i]
def cellsN (sh : List Nat) : List (List Nat) := sh.foldl nextC [[]]
def cD (c : List Nat) : D := .tup (iD (iN c))
theorem nextC_len {acc : List (List Nat)} {n : Nat} : (nextC acc n).length = acc.length * n := by
  unfold nextC
  induction acc with
  | nil => simp
  | cons x xs ih => rw [List.flatMap_cons, List.length_append, ih]; simp [Nat.succ_mul]; omega
theorem cellsN_len' {sh : List Nat} : ∀ {acc : List (List Nat)}, (sh.foldl nextC acc).length = sh.foldl (· * ·) acc.length := by
  induction sh with
  | nil => intro acc; rfl
  | cons n ns ih => intro acc; rw [List.foldl_cons, ih, List.foldl_cons, nextC_len]
theorem cellsN_len : (cellsN sh).length = prodN sh := cellsN_len'
theorem cells_of_spec (hd : isInts st d (iN sh)) (hl3 : sh.length ≤ 3) (hb : ∀ n ∈ sh, n ≤ 4) (h : q (.d (.lst ((cellsN sh).map cD))) st) : m_cells_of [d] st q er := by
  refine ⟨rfl, ?_⟩
  show a_cells_of [.d d, .no, .no, .no, .no] st _
  unfold a_cells_of
  simp
  refine ⟨_, hd, ?_⟩
  rw [List.map_map]
  refine for_of (P := fun l env s => s = st ∧ ∃ (acc : List (List Nat)) (e2 : A), env = [.d d, .d (.lst (acc.map cD)), e2, .no, .no] ∧ l.foldl nextC acc = cellsN sh ∧ (∀ c ∈ acc, c.length + l.length = sh.length) ∧ (∀ n ∈ l, n ≤ 4) ∧ acc.length * 4 ^ l.length < 1000) ?_ ?_ sh _ _ ⟨rfl, [[]], .no, rfl, rfl, by simp, hb, ?_⟩
  · rintro env s ⟨rfl, acc, e2, rfl, hp, _⟩
    refine ⟨gdOk_of, ?_⟩
    have hp : acc = cellsN sh := hp
    subst hp
    simpa using h
  · rintro n l env s ⟨rfl, acc, e2, rfl, hp, hc, he, hbd⟩ nx hnx
    refine ⟨gdOk_of, ?_⟩
    have hn := he n (by simp)
    simp only [List.length_cons] at hc
    simp
    have hbd' : acc.length * n * 4 ^ l.length < 1000 := by
      rw [List.length_cons, Nat.pow_succ, Nat.mul_comm (4 ^ _) 4, ← Nat.mul_assoc] at hbd
      exact Nat.lt_of_le_of_lt (Nat.mul_le_mul_right _ (Nat.mul_le_mul_left _ hn)) hbd
    have hfl : (acc.flatMap fun c => (List.range n).map fun i => cD (c ++ [i])) = (nextC acc n).map cD := by
      unfold nextC
      rw [List.map_flatMap]
      simp [Function.comp_def]
    have hlen : acc.length * n < 1000 := Nat.lt_of_le_of_lt (Nat.le_mul_of_pos_right _ (Nat.pow_pos (by decide))) hbd'
    refine lc2_of (T := cD) (F := fun c => (List.range n).map fun i => cD (c ++ [i])) (by simp) acc (fun c hcm acc2 q2 P2 hl2 hq2 => ?_) ?_ ?_
    · simp at hl2
      simp
      refine And.intro (by omega) ?_
      refine lc_of (G := fun i => cD (c ++ [i])) (by simp) _ (fun i hi P1 P2 hp1 => ?_) (by simp; omega) (by simpa using hq2)
      have hcl := hc c hcm
      simp [cD]
      refine ⟨by omega, ?_⟩
      simpa [cD] using hp1
    · rw [hfl, List.length_map, nextC_len]; simp; omega
    · rw [List.nil_append, hfl]
      refine hnx _ _ ⟨rfl, nextC acc n, _, rfl, hp, fun c hcm => ?_, fun m hm => he m (by simp [hm]), by rw [nextC_len]; exact hbd'⟩
      unfold nextC at hcm
      obtain ⟨c0, h0, h1⟩ := List.mem_flatMap.mp hcm
      obtain ⟨i, _, rfl⟩ := List.mem_map.mp h1
      have := hc c0 h0
      simp; omega
  · have : 4 ^ sh.length ≤ 4 ^ 3 := Nat.pow_le_pow_right (by decide) hl3
    simp; omega
end
end LW
set_option Elab.async false
set_option linter.all false
set_option maxRecDepth 100000
set_option maxHeartbeats 1000000
namespace LW
open PySem L2 AM
/-! ### cells are distinct keys -/
theorem cD_inj {a b : List Nat} (h : cD a = cD b) : a = b := by
  unfold cD at h
  injection h with h
  induction a generalizing b with
  | nil => cases b with
    | nil => rfl
    | cons y ys => simp at h
  | cons x xs ih => cases b with
    | nil => simp at h
    | cons y ys =>
      simp only [List.map_cons, List.cons.injEq, D.int.injEq] at h
      rw [ih h.2, show x = y by omega]
theorem nodup_map {α β : Type} {f : α → β} (hf : ∀ a b, f a = f b → a = b) : ∀ {l : List α}, l.Nodup → (l.map f).Nodup
  | [], _ => by simp
  | x :: xs, h => by
    rw [List.nodup_cons] at h
    rw [List.map_cons, List.nodup_cons]
    refine ⟨fun hm => ?_, nodup_map hf h.2⟩
    obtain ⟨y, hy, e⟩ := List.mem_map.mp hm
    exact h.1 (hf _ _ e ▸ hy)
theorem nextC_nodup {acc : List (List Nat)} {n : Nat} (h : acc.Nodup) : (nextC acc n).Nodup := by
  unfold nextC
  induction acc with
  | nil => simp
  | cons c cs ih =>
    rw [List.nodup_cons] at h
    rw [List.flatMap_cons, List.nodup_append]
    refine ⟨nodup_map (fun a b e => by simpa using e) List.nodup_range, ih h.2, fun x hx y hy e => ?_⟩
    subst e
    obtain ⟨i, _, rfl⟩ := List.mem_map.mp hx
    obtain ⟨c2, h2, h3⟩ := List.mem_flatMap.mp hy
    obtain ⟨j, _, e⟩ := List.mem_map.mp h3
    have := List.append_inj_left' e (by simp)
    exact h.1 (this ▸ h2)
theorem cellsN_nodup {sh : List Nat} : (cellsN sh).Nodup := by
  unfold cellsN
  have : ∀ (l : List Nat) (acc : List (List Nat)), acc.Nodup → (l.foldl nextC acc).Nodup := by
    intro l
    induction l with
    | nil => exact fun acc h => h
    | cons n ns ih => exact fun acc h => ih _ (nextC_nodup h)
  exact this sh _ (by simp)
theorem nodup_fst {α β γ : Type} {f : α → γ} {xs : List α} {ys : List β} (h : (xs.map f).Nodup) (hl : xs.length = ys.length) : ((xs.zip ys).map fun (p : α × β) => f p.1).Nodup := by
  have e : ((xs.zip ys).map fun (p : α × β) => f p.1) = ((xs.zip ys).map Prod.fst).map f := by rw [List.map_map]; rfl
  rw [e, List.map_fst_zip (by omega)]
  exact h
theorem cD_nodup {sh : List Nat} : ((cellsN sh).map cD).Nodup := nodup_map (fun _ _ => cD_inj) cellsN_nodup
theorem cD_key {c : List Nat} : isKeyT (cD c) := ⟨c.map fun (i : Nat) => Sum.inl (i : Int), by unfold cD; simp [Function.comp_def, kD]⟩
/-! ### a game -/
def RowsAt (st : S) (d : D) (rows : List (List Int)) : Prop := ∃ l, itemsD (vw st d) = some l ∧ l.map (fun x => itemsD (vw st x)) = rows.map fun r => some (iD r)
structure RowsOk (sh : List Nat) (rows : List (List Int)) : Prop where
  len : rows.length = (cellsN sh).length
  each : ∀ r ∈ rows, r.length = sh.length
abbrev rL (r : List Int) : D := .lst (iD r)
abbrev rT (r : List Int) : D := .tup (iD r)
def paidD (sh : List Nat) (rows : List (List Int)) : List (D × D) := ((cellsN sh).zip rows).map fun p => (cD p.1, rT p.2)
abbrev shT (sh : List Nat) : D := .tup (iD (iN sh))
abbrev shL (sh : List Nat) : D := .lst (iD (iN sh))
def placesD (sh : List Nat) : D := .lst ((cellsN sh).map cD)
def gameF (sh : List Nat) (rows : List (List Int)) : List (Str × D) := [("shape", shT sh), ("players", .int sh.length), ("places", placesD sh), ("paid", .dic (paidD sh rows))]
def gameD (sh : List Nat) (rows : List (List Int)) : D := .obj "Game" (gameF sh rows)
theorem rowsAt_rL {st : S} {rows : List (List Int)} : RowsAt st (.lst (rows.map rL)) rows := ⟨_, rfl, by simp [Function.comp_def, itemsD, iD]⟩
theorem atI_nat {α : Type} {l : List α} {k : Nat} (h : k < l.length) : atI l (k : Int) = some l[k] := by
  have e : ixN l.length (k : Int) = some k := by unfold ixN; rw [if_pos (by omega), if_pos (by omega)]; simp
  unfold atI; rw [e]; exact List.getElem?_eq_getElem h
theorem oIxA_items {x : D} {l : List D} {i : Int} {q : D → Prop} (e : itemsD x = some l) : oIxA x (.int i) q = ∃ d, atI l i = some d ∧ q d := by
  cases x <;> first | (cases e; done) | (cases e; exact propext Iff.rfl)
theorem lenD_items {x : D} {l : List D} (e : itemsD x = some l) : lenD x = some l.length := by
  cases x <;> first | (cases e; done) | (cases e; rfl)
theorem okK_items {x : D} {l : List D} (e : itemsD x = some l) : okK x := by
  cases x <;> first | (cases e; done) | trivial
section
variable {st : S} {q : Rs → S → Prop} {er : QX} {d : D} {sh : List Nat} {rows : List (List Int)}
theorem RowsAt.get {l : List D} (h : l.map (fun x => itemsD (vw st x)) = rows.map fun r => some (iD r)) {k : Nat} (hk : k < rows.length) : ∃ (hl : k < l.length), isInts st l[k] rows[k] := by
  have hl : l.length = rows.length := by have := congrArg List.length h; simpa using this
  refine ⟨by omega, ?_⟩
  have := congrArg (fun z => z[k]?) h
  simp [List.getElem?_eq_getElem hk, List.getElem?_eq_getElem (show k < l.length by omega)] at this
  exact this
end
end LW
set_option Elab.async false
set_option linter.all false
set_option maxRecDepth 100000
set_option maxHeartbeats 1000000
namespace LW
open PySem L2 AM
theorem set_get {st : S} {n : Nat} {c c' : C} (hn : st[n]? = some c) : (st.set n c')[n]? = some c' := List.getElem?_set_self (List.getElem?_eq_some_iff.mp hn).1
/-! ### cells that are changed, and what is seen beside them -/
theorem vw_set {st : S} {n : Nat} {c : Str} {fs : List (Str × D)} {x : C} {d : D} (hn : st[n]? = some (.obj c fs)) {l : List D} (hl : itemsD (vw st d) = some l) : vw (st.set n x) d = vw st d := by
  cases d with
  | ref m =>
    by_cases hm : n = m
    · subst hm
      rw [vw_refO hn] at hl
      cases hl
    · unfold vw
      simp only [List.getElem?_set_ne hm]
  | _ => rfl
theorem isInts_set {st : S} {n : Nat} {c : Str} {fs : List (Str × D)} {x : C} {d : D} {ns : List Int} (hn : st[n]? = some (.obj c fs)) (h : isInts st d ns) : isInts (st.set n x) d ns := by
  unfold isInts at h ⊢
  rw [vw_set hn h]; exact h
theorem rowsAt_set {st : S} {n : Nat} {c : Str} {fs : List (Str × D)} {x : C} {d : D} {rows : List (List Int)} (hn : st[n]? = some (.obj c fs)) (h : RowsAt st d rows) : RowsAt (st.set n x) d rows := by
  obtain ⟨l, h1, h2⟩ := h
  refine ⟨l, by rw [vw_set hn h1]; exact h1, ?_⟩
  rw [← h2]
  refine List.map_congr_left fun y hy => ?_
  obtain ⟨k, hk, e⟩ := List.mem_iff_getElem.mp hy
  have hll : l.length = rows.length := by have := congrArg List.length h2; simpa using this
  obtain ⟨_, hi⟩ := RowsAt.get h2 (k := k) (by omega)
  rw [e] at hi
  rw [vw_set hn hi]
theorem vw_app {st : S} {x : List C} {d : D} (h : d.lt st.length) : vw (st ++ x) d = vw st d := by
  cases d with
  | ref m =>
    unfold D.lt at h
    unfold vw
    simp only [List.getElem?_append_left h]
  | _ => rfl
theorem ltL_mem {k : Nat} : ∀ {l : List D}, ltL k l → ∀ x ∈ l, x.lt k
  | [], _, _, h => by cases h
  | y :: ys, h, x, hx => by
    unfold ltL at h
    rcases List.mem_cons.mp hx with rfl | hx
    · exact h.1
    · exact ltL_mem h.2 x hx
theorem ltL_of {k : Nat} : ∀ {l : List D}, (∀ x ∈ l, x.lt k) → ltL k l
  | [], _ => by unfold ltL; trivial
  | y :: ys, h => by unfold ltL; exact ⟨h y (by simp), ltL_of fun x hx => h x (by simp [hx])⟩
theorem items_lt {st : S} {d : D} {k : Nat} {l : List D} (hd : d.lt k) (hs : ltS k st) (h : itemsD (vw st d) = some l) : ltL k l := by
  cases d with
  | ref n =>
    cases hn : st[n]? with
    | none => unfold vw at h; simp [hn, itemsD] at h
    | some c =>
      have hc := hs c (List.mem_of_getElem? hn)
      cases c with
      | lst l' => rw [vw_ref hn] at h; cases h; exact hc
      | _ => unfold vw at h; simp [hn, itemsD] at h
  | lst l' => cases h; unfold D.lt at hd; exact hd
  | tup l' => cases h; unfold D.lt at hd; exact hd
  | _ => cases h
theorem isInts_app {st : S} {x : List C} {d : D} {ns : List Int} (hd : d.lt st.length) (h : isInts st d ns) : isInts (st ++ x) d ns := by
  unfold isInts at h ⊢
  rw [vw_app hd]; exact h
theorem rowsAt_app {st : S} {x : List C} {d : D} {rows : List (List Int)} (hd : d.lt st.length) (hs : ltS st.length st) (h : RowsAt st d rows) : RowsAt (st ++ x) d rows := by
  obtain ⟨l, h1, h2⟩ := h
  refine ⟨l, by rw [vw_app hd]; exact h1, ?_⟩
  rw [← h2]
  exact List.map_congr_left fun y hy => by rw [vw_app (ltL_mem (items_lt hd hs h1) y hy)]
theorem ltL_iD {k : Nat} {ns : List Int} : ltL k (iD ns) := ltL_of fun x hx => by
  obtain ⟨i, _, rfl⟩ := List.mem_map.mp hx
  unfold D.lt; trivial
theorem lt_rL {k : Nat} {r : List Int} : (rL r).lt k := by unfold rL D.lt; exact ltL_iD
theorem lt_rT {k : Nat} {r : List Int} : (rT r).lt k := by unfold rT D.lt; exact ltL_iD
theorem lt_rows {k : Nat} {rows : List (List Int)} : (D.lst (rows.map rL)).lt k := by
  unfold D.lt
  exact ltL_of fun x hx => by
    obtain ⟨i, _, rfl⟩ := List.mem_map.mp hx
    exact lt_rL
theorem ltP_of {k : Nat} : ∀ {l : List (D × D)}, (∀ p ∈ l, p.1.lt k ∧ p.2.lt k) → ltP k l
  | [], _ => by unfold ltP; trivial
  | (a, b) :: ys, h => by unfold ltP; exact ⟨(h (a, b) (by simp)).1, (h (a, b) (by simp)).2, ltP_of fun x hx => h x (by simp [hx])⟩
theorem ltF_game {k : Nat} {sh : List Nat} {rows : List (List Int)} : ltF k (gameF sh rows) := by
  unfold gameF
  simp only [ltF, and_true]
  refine ⟨lt_rT, by unfold D.lt; trivial, ?_, ?_⟩
  · unfold placesD D.lt
    exact ltL_of fun x hx => by
      obtain ⟨i, _, rfl⟩ := List.mem_map.mp hx
      exact lt_rT
  · unfold D.lt
    exact ltP_of fun p hp => by
      obtain ⟨i, _, rfl⟩ := List.mem_map.mp hp
      exact ⟨lt_rT, lt_rT⟩
theorem lt_game {k : Nat} {sh : List Nat} {rows : List (List Int)} : (gameD sh rows).lt k := by unfold gameD D.lt; exact ltF_game
theorem fldAt_G {f : Str} {fs : List (Str × D)} : fldAt ["Game"] f (.obj "Game" fs) = fs.lookup f := show (if ("Game" : Str) ∈ [("Game" : Str)] then fs.lookup f else none) = fs.lookup f from if_pos List.mem_cons_self
def fs1 (sh : List Nat) : List (Str × D) := [("shape", shT sh)]
def fs2 (sh : List Nat) : List (Str × D) := [("shape", shT sh), ("players", .int sh.length)]
def fs3 (sh : List Nat) : List (Str × D) := [("shape", shT sh), ("players", .int sh.length), ("places", placesD sh)]
section
variable {st : S} {q : Rs → S → Prop} {er : QX} {d e : D} {sh : List Nat} {rows : List (List Int)} {n : Nat} {p : D → S → Prop}
/-! ### a game's fields -/
@[simp] theorem fq_shape : fldQ ["Game"] "shape" p (gameD sh rows) st = p (shT sh) st := fldQ_of (by unfold gameD; rw [vw_obj, fldAt_G]; rfl)
@[simp] theorem fq_players : fldQ ["Game"] "players" p (gameD sh rows) st = p (.int sh.length) st := fldQ_of (by unfold gameD; rw [vw_obj, fldAt_G]; rfl)
@[simp] theorem fq_places : fldQ ["Game"] "places" p (gameD sh rows) st = p (placesD sh) st := fldQ_of (by unfold gameD; rw [vw_obj, fldAt_G]; rfl)
@[simp] theorem fq_paid : fldQ ["Game"] "paid" p (gameD sh rows) st = p (.dic (paidD sh rows)) st := fldQ_of (by unfold gameD; rw [vw_obj, fldAt_G]; rfl)
@[simp] theorem vw_game : vw st (gameD sh rows) = gameD sh rows := rfl
@[simp] theorem vw_places : vw st (placesD sh) = placesD sh := rfl
@[simp] theorem vw_cD {c : List Nat} : vw st (cD c) = cD c := rfl
@[simp] theorem gdOf_places : gdOf st (placesD sh) = [] := rfl
@[simp] theorem isCls_game : isCls "Game" (gameD sh rows) = True := by unfold gameD; simp
@[simp] theorem isObj_payoffs : isObj "Game" "payoffs" (gameD sh rows) = True := propext ⟨fun _ => trivial, fun _ => ⟨rfl, rfl⟩⟩
theorem items_places : itemsD (placesD sh) = some ((cellsN sh).map cD) := rfl
theorem dlook_paid (rok : RowsOk sh rows) {x : List Nat × List Int} (h : x ∈ (cellsN sh).zip rows) : DLook (paidD sh rows) (cD x.1) (rT x.2) := dlook_zip (α := List Nat × List Int) (KK := fun p => cD p.1) (V := fun p => rT p.2) _ (nodup_fst cD_nodup rok.len.symm) h
theorem ix_paid (rok : RowsOk sh rows) {x : List Nat × List Int} (h : x ∈ (cellsN sh).zip rows) {q : D → Prop} : oIxA (.dic (paidD sh rows)) (cD x.1) q = q (rT x.2) := by
  rw [ev_oIxA_dic]
  exact propext ⟨fun ⟨_, h1, h2⟩ => by rw [dlook_one (dlook_paid rok h) h1]; exact h2, fun h1 => ⟨_, dlook_paid rok h, h1⟩⟩
theorem cells_zip (rok : RowsOk sh rows) : (cellsN sh).map cD = ((cellsN sh).zip rows).map fun p => cD p.1 := by
  have : (((cellsN sh).zip rows).map fun (p : List Nat × List Int) => cD p.1) = (((cellsN sh).zip rows).map Prod.fst).map cD := by rw [List.map_map]; rfl
  rw [this, List.map_fst_zip (by have := rok.len; omega)]
theorem rows_zip (rok : RowsOk sh rows) {α : Type} {f : List Int → α} : (((cellsN sh).zip rows).map fun p => f p.2) = rows.map f := by
  have : (((cellsN sh).zip rows).map fun (p : List Nat × List Int) => f p.2) = (((cellsN sh).zip rows).map Prod.snd).map f := by rw [List.map_map]; rfl
  rw [this, List.map_snd_zip (by have := rok.len; omega)]
theorem cells_le (ok : ShapeOk sh) : (cellsN sh).length ≤ 16 := by rw [cellsN_len]; exact ok.all
/-! ### the methods -/
end
end LW
set_option Elab.async false
set_option linter.all false
set_option maxRecDepth 100000
set_option maxHeartbeats 1000000
namespace LW
open PySem L2 AM
/-! ### comparing rows -/
@[simp] theorem ev_oNeB {a b : Bool} {q : D → Prop} : oNe (.bl a) (.bl b) q = q (.bl (!(a == b))) := by
  unfold oNe D.shp
  simp [-List.map_map, D.plain, D.dep, D.eqv]
theorem eqvs_iD : ∀ {a b : List Int}, D.eqvs (iD a) (iD b) = decide (a = b)
  | [], [] => by simp [D.eqvs]
  | [], _ :: _ => by simp [D.eqvs]
  | _ :: _, [] => by simp [D.eqvs]
  | x :: xs, y :: ys => by
    have : D.eqvs (D.int x :: iD xs) (D.int y :: iD ys) = (D.eqv (D.int x) (D.int y) && D.eqvs (iD xs) (iD ys)) := by rw [D.eqvs]
    simp only [List.map_cons]
    rw [this, eqvs_iD]
    by_cases h : x = y <;> by_cases h2 : xs = ys <;> simp [D.eqv, h, h2]
mutual
theorem eqv_refl : ∀ (x : D), x.plain = true → D.eqv x x = true
  | .non, _ => by simp [D.eqv]
  | .bl _, _ => by simp [D.eqv]
  | .int _, _ => by simp [D.eqv]
  | .str _, _ => by simp [D.eqv]
  | .lst l, h => by rw [D.eqv]; exact eqvs_refl l (by rw [D.plain] at h; exact h)
  | .tup l, h => by rw [D.eqv]; exact eqvs_refl l (by rw [D.plain] at h; exact h)
  | .dic _, h => by simp [D.plain] at h
  | .obj _ _, h => by simp [D.plain] at h
  | .fn _, h => by simp [D.plain] at h
  | .ty _, h => by simp [D.plain] at h
  | .ref _, h => by simp [D.plain] at h
  | .scr _, h => by simp [D.plain] at h
theorem eqvs_refl : ∀ (l : List D), D.plains l = true → D.eqvs l l = true
  | [], _ => by simp [D.eqvs]
  | x :: xs, h => by
    rw [D.plains, Bool.and_eq_true] at h
    rw [D.eqvs, eqv_refl x h.1, eqvs_refl xs h.2]
    rfl
end
theorem ne_self {x : D} {q : D → Prop} (h : x.shp) : oNe x x q = q (.bl false) := by
  unfold oNe
  rw [eqv_refl x h.1]
  simp [h]
theorem eq_self {x : D} {q : D → Prop} (h : x.shp) : oEq x x q = q (.bl true) := by
  unfold oEq
  rw [eqv_refl x h.1]
  simp [h]
theorem plains_of : ∀ {l : List D}, (∀ x ∈ l, x.plain = true) → D.plains l = true
  | [], _ => rfl
  | x :: xs, h => by unfold D.plains; rw [h x (by simp), plains_of fun y hy => h y (by simp [hy])]; rfl
theorem deps_of {k : Nat} : ∀ {l : List D}, (∀ x ∈ l, x.dep ≤ k) → D.deps l ≤ k
  | [], _ => by unfold D.deps; omega
  | x :: xs, h => by unfold D.deps; have := h x (by simp); have := deps_of (k := k) (l := xs) fun y hy => h y (by simp [hy]); omega
theorem plain_rL {r : List Int} : (rL r).plain = true := by unfold rL D.plain; exact plains_of fun x hx => by obtain ⟨i, _, rfl⟩ := List.mem_map.mp hx; rfl
theorem plain_rT {r : List Int} : (rT r).plain = true := by unfold rT D.plain; exact plains_of fun x hx => by obtain ⟨i, _, rfl⟩ := List.mem_map.mp hx; rfl
theorem dep_iD {r : List Int} : D.deps (iD r) ≤ 0 := deps_of fun x hx => by obtain ⟨i, _, rfl⟩ := List.mem_map.mp hx; unfold D.dep; omega
theorem dep_rL {r : List Int} : (rL r).dep ≤ 1 := by unfold rL D.dep; have := dep_iD (r := r); omega
theorem dep_rT {r : List Int} : (rT r).dep ≤ 1 := by unfold rT D.dep; have := dep_iD (r := r); omega
theorem shp_rL {r : List Int} : (rL r).shp := ⟨plain_rL, Nat.le_trans dep_rL (by decide)⟩
theorem shp_rT {r : List Int} : (rT r).shp := ⟨plain_rT, Nat.le_trans dep_rT (by decide)⟩
theorem shp_rows {rows : List (List Int)} : (D.lst (rows.map rL)).shp := by
  refine ⟨?_, ?_⟩
  · unfold D.plain; exact plains_of fun x hx => by obtain ⟨i, _, rfl⟩ := List.mem_map.mp hx; exact plain_rL
  · unfold D.dep
    have := deps_of (k := 1) (l := rows.map rL) fun x hx => by obtain ⟨i, _, rfl⟩ := List.mem_map.mp hx; exact dep_rL
    omega
theorem eqv_rL {a b : List Int} : D.eqv (rL a) (rL b) = decide (a = b) := by unfold rL; rw [D.eqv, eqvs_iD]
theorem eqv_rT {a b : List Int} : D.eqv (rT a) (rT b) = decide (a = b) := by unfold rT; rw [D.eqv, eqvs_iD]
theorem eqvs_rows : ∀ {a b : List (List Int)}, D.eqvs (a.map rL) (b.map rL) = decide (a = b)
  | [], [] => by simp [D.eqvs]
  | [], _ :: _ => by simp [D.eqvs]
  | _ :: _, [] => by simp [D.eqvs]
  | x :: xs, y :: ys => by
    simp only [List.map_cons]
    rw [D.eqvs, eqv_rL, eqvs_rows]
    by_cases h : x = y <;> by_cases h2 : xs = ys <;> simp [h, h2]
theorem ne_rows {a b : List (List Int)} {q : D → Prop} : oNe (.lst (a.map rL)) (.lst (b.map rL)) q = q (.bl (!decide (a = b))) := by
  unfold oNe; rw [D.eqv, eqvs_rows]; simp [shp_rows]
theorem eq_rows {a b : List (List Int)} {q : D → Prop} : oEq (.lst (a.map rL)) (.lst (b.map rL)) q = q (.bl (decide (a = b))) := by
  unfold oEq; rw [D.eqv, eqvs_rows]; simp [shp_rows]
theorem ne_rT {a b : List Int} {q : D → Prop} : oNe (rT a) (rT b) q = q (.bl (!decide (a = b))) := by unfold oNe; rw [eqv_rT]; simp [shp_rT]
theorem eq_rT {a b : List Int} {q : D → Prop} : oEq (rT a) (rT b) q = q (.bl (decide (a = b))) := by unfold oEq; rw [eqv_rT]; simp [shp_rT]
theorem ne_rL {a b : List Int} {q : D → Prop} : oNe (rL a) (rL b) q = q (.bl (!decide (a = b))) := by unfold oNe; rw [eqv_rL]; simp [shp_rL]
theorem eq_rL {a b : List Int} {q : D → Prop} : oEq (rL a) (rL b) q = q (.bl (decide (a = b))) := by unfold oEq; rw [eqv_rL]; simp [shp_rL]
theorem iN_inj {a b : List Nat} : (iN a = iN b) = (a = b) := by
  refine propext ⟨fun h => ?_, fun h => by rw [h]⟩
  induction a generalizing b with
  | nil => cases b with
    | nil => rfl
    | cons y ys => simp at h
  | cons x xs ih => cases b with
    | nil => simp at h
    | cons y ys =>
      simp only [List.map_cons, List.cons.injEq] at h
      rw [ih h.2, show x = y by omega]
def addR (a b : List (List Int)) : List (List Int) := List.zipWith (fun x y => List.zipWith (· + ·) x y) a b
section
variable {st : S} {q : Rs → S → Prop} {er : QX} {d e : D} {sh sh2 : List Nat} {rows rows2 : List (List Int)} {n : Nat} {p : D → S → Prop}
theorem addR_ok (rok : RowsOk sh rows) (rok2 : RowsOk sh rows2) : RowsOk sh (addR rows rows2) := by
  refine ⟨by unfold addR; simp [rok.len, rok2.len], fun r hr => ?_⟩
  unfold addR at hr
  obtain ⟨k, hk, e⟩ := List.mem_iff_getElem.mp hr
  simp at hk e
  rw [← e]
  simp [-List.map_map, rok.each rows[k] (List.getElem_mem _), rok2.each rows2[k] (List.getElem_mem _)]
theorem map_ok {f : Int → Int} (rok : RowsOk sh rows) : RowsOk sh (rows.map fun r => r.map f) := ⟨by simpa using rok.len, fun r hr => by
  obtain ⟨r', hr', rfl⟩ := List.mem_map.mp hr
  simpa using rok.each r' hr'⟩
theorem hits_of {m : List (D × D)} : ∀ {L : List (List Nat × (List Int × List Int))}, (∀ t ∈ L, DLook m (cD t.1) (rT t.2.2)) → DHits m (L.map fun t => (cD t.1, rT t.2.1)) (L.all fun t => decide (t.2.1 = t.2.2))
  | [], _ => .nil
  | t :: L, h => by
    rw [List.map_cons, List.all_cons, ← eqv_rT]
    exact .hit (h t (by simp)) shp_rT shp_rT (hits_of fun u hu => h u (by simp [hu]))
theorem prod_pos (ok : ShapeOk sh) : cellsN sh ≠ [] := by
  intro h
  have h1 := cellsN_len (sh := sh)
  rw [h] at h1
  have : ∀ (l : List Nat) (p : Nat), 1 ≤ p → (∀ n ∈ l, 1 ≤ n) → 1 ≤ l.foldl (· * ·) p := by
    intro l
    induction l with
    | nil => exact fun p hp _ => hp
    | cons n ns ih => exact fun p hp hn => ih _ (Nat.mul_le_mul hp (hn n (by simp))) fun m hm => hn m (by simp [hm])
  have := this sh 1 (Nat.le_refl _) fun n hn => (ok.each n hn).1
  unfold prodN at h1
  simp at h1
  omega
theorem keysT_paid (ok : ShapeOk sh) (rok : RowsOk sh rows) : keysT (paidD sh rows) := by
  refine ⟨fun h => ?_, fun p hp => ?_⟩
  · have := congrArg List.length h
    unfold paidD at this
    have l1 := rok.len
    have l2 : (cellsN sh).length ≠ 0 := fun z => prod_pos ok (List.eq_nil_of_length_eq_zero z)
    rw [List.length_map, List.length_zip] at this
    simp only [List.length_nil] at this
    omega
  · obtain ⟨x, _, rfl⟩ := List.mem_map.mp hp
    exact cD_key
theorem paid_eq (ok : ShapeOk sh) (rok : RowsOk sh rows) (rok2 : RowsOk sh rows2) {q : D → Prop} (h : q (.bl (decide (rows = rows2)))) : oEqT (.dic (paidD sh rows)) (.dic (paidD sh rows2)) q := by
  have l1 := rok.len; have l2 := rok2.len
  have m1 : ∀ x ∈ (cellsN sh).zip (rows.zip rows2), (x.1, x.2.2) ∈ (cellsN sh).zip rows2 := fun x hx => by
    obtain ⟨k, hk, e⟩ := List.mem_iff_getElem.mp hx
    simp at hk e
    subst e
    exact List.mem_iff_getElem.mpr ⟨k, by simp; omega, by simp⟩
  have hh := hits_of (m := paidD sh rows2) (L := (cellsN sh).zip (rows.zip rows2)) fun t ht => dlook_paid rok2 (m1 t ht)
  have e1 : (((cellsN sh).zip (rows.zip rows2)).map fun t => (cD t.1, rT t.2.1)) = paidD sh rows := by
    unfold paidD
    apply List.ext_getElem
    · simp; omega
    · intro k h1 h2; simp
  rw [e1] at hh
  refine ⟨_, _, _, rfl, rfl, keysT_paid ok rok, keysT_paid ok rok2, fun _ => hh, ?_⟩
  have e2 : ((cellsN sh).zip (rows.zip rows2)).all (fun t => decide (t.2.1 = t.2.2)) = decide (rows = rows2) := by
    rw [Bool.eq_iff_iff]
    simp only [List.all_eq_true, decide_eq_true_eq]
    constructor
    · intro h
      apply List.ext_getElem (by omega)
      intro k h1 h2
      exact h ((cellsN sh)[k], rows[k], rows2[k]) (List.mem_iff_getElem.mpr ⟨k, by simp; omega, by simp⟩)
    · rintro rfl x hx
      obtain ⟨k, hk, e⟩ := List.mem_iff_getElem.mp hx
      simp at hk e
      subst e
      rfl
  have e3 : ((paidD sh rows).length == (paidD sh rows2).length) = true := by unfold paidD; simp; omega
  rw [e2, e3]
  exact h
end
end LW
set_option Elab.async false
set_option linter.all false
set_option maxRecDepth 100000
set_option maxHeartbeats 1000000
namespace LW
open PySem L2 AM
/-! ### shapes and rows that are none -/
def shapeB (ns : List Int) : Bool := decide (1 ≤ ns.length ∧ ns.length ≤ 3) && (ns.all (fun n => decide (1 ≤ n ∧ n ≤ 4)) && decide (ns.foldl (· * ·) 1 ≤ 16))
section
variable {st : S} {q : Rs → S → Prop} {er : QX} {d e : D} {sh : List Nat} {n : Nat} {p : D → S → Prop}
theorem checked_bad (hk : okK (vw st d)) (hi : ∀ l, itemsD (vw st d) = some l → l.length ≤ 1000 ∧ ∀ x ∈ l, okK (vw st x)) (hb : intsB st d = false ∨ ∃ ns, isInts st d ns ∧ shapeB ns = false) (h : er ⟨"BadShape", none⟩ st) : m_checked_shape [d] st q er := by
  refine ⟨rfl, ?_⟩
  show a_checked_shape [.d d, .no, .no] st _
  unfold a_checked_shape
  simp [-List.map_map]
  refine are_integers_spec hk (fun l hl => ⟨by have := (hi l hl).1; omega, (hi l hl).2⟩) ?_
  rcases hb with hb | ⟨ns, hd, hb⟩
  · simp [hb]
    exact h
  · have hlen := (isInts_k hd).2.2
    have hl1000 := (hi _ hd).1
    simp [-List.map_map, (isInts_k hd).2.1, hlen]
    by_cases h1 : 1 ≤ ns.length
    case neg => rw [if_neg (by omega)]; exact h
    by_cases h3 : ns.length ≤ 3
    case neg => rw [if_pos (by omega), if_neg (by omega)]; exact h
    rw [if_pos (by omega), if_pos (by omega)]
    refine ⟨_, hd, ?_⟩
    refine for_of (T := D.int) (P := fun l env s => s = st ∧ ∃ (p : Nat) (e2 : A), env = [.d d, .d (.int p), e2] ∧ (l.all (fun n => decide (1 ≤ n ∧ n ≤ 4)) && decide (l.foldl (· * ·) (p : Int) ≤ 16)) = false ∧ p * 4 ^ l.length < 1000) ?_ ?_ ns _ _ ⟨rfl, 1, .no, rfl, ?_, ?_⟩
    · rintro env s ⟨rfl, p, e2, rfl, hp, _⟩
      refine ⟨gdOk_of, ?_⟩
      have hp2 : ¬ (p : Int) ≤ 16 := of_decide_eq_false (show decide ((p : Int) ≤ 16) = false from hp)
      simp
      rw [if_pos (by omega)]
      exact h
    · rintro m l env s ⟨rfl, p, e2, rfl, hp, hbd⟩ nx hnx
      refine ⟨gdOk_of, ?_⟩
      simp
      by_cases m1 : 1 ≤ m
      case neg => rw [if_neg m1]; exact h
      by_cases m4 : m ≤ 4
      case neg => rw [if_pos m1, if_neg m4]; exact h
      rw [if_pos m1, if_pos m4]
      obtain ⟨k, rfl⟩ : ∃ k : Nat, m = k := ⟨m.toNat, by omega⟩
      have hk4 : k ≤ 4 := by omega
      have hpb : p < 1000 := Nat.lt_of_le_of_lt (Nat.le_mul_of_pos_right p (Nat.pow_pos (by decide))) hbd
      refine ⟨cmul_nat (Nat.lt_of_lt_of_le hpb (by decide)) (Nat.lt_of_le_of_lt hk4 (by decide)), hnx _ _ ⟨rfl, p * k, _, by simp; rfl, ?_, ?_⟩⟩
      · have hk : (decide (1 ≤ (k : Int) ∧ (k : Int) ≤ 4)) = true := by simp; omega
        rw [List.all_cons, hk, Bool.true_and, List.foldl_cons] at hp
        rw [show ((p * k : Nat) : Int) = (p : Int) * (k : Int) from by simp]
        exact hp
      · rw [List.length_cons, Nat.pow_succ, Nat.mul_comm (4 ^ _) 4, ← Nat.mul_assoc] at hbd
        exact Nat.lt_of_le_of_lt (Nat.mul_le_mul_right _ (Nat.mul_le_mul_left _ hk4)) hbd
    · unfold shapeB at hb
      have : decide (1 ≤ ns.length ∧ ns.length ≤ 3) = true := by simp; omega
      rw [this, Bool.true_and] at hb
      exact hb
    · have : 4 ^ ns.length ≤ 4 ^ 3 := Nat.pow_le_pow_right (by decide) h3
      omega
/-- a frozen value that is no shape -/
def BadSh (d : D) : Prop := ∀ (st : S) (q : Rs → S → Prop) (er : QX), er ⟨"BadShape", none⟩ st → m_checked_shape [d] st q er
theorem badSh_kind (hk : okK d) (hn : itemsD d = none) : BadSh d := fun st q er h => by
  refine checked_bad (by rw [vw_okK hk]; exact hk) (fun l hl => by rw [vw_okK hk, hn] at hl; cases hl) (.inl ?_) h
  unfold intsB
  rw [vw_okK hk]
  cases d <;> first | rfl | cases hn
theorem badSh_mix {l : List D} (hl : l.length ≤ 1000) (hk : ∀ x ∈ l, okK x) (hb : l.all isIntB = false) : BadSh (.lst l) := fun st q er h => by
  refine checked_bad trivial (fun l' hl' => by cases hl'; exact ⟨hl, fun x hx => by rw [vw_okK (hk x hx)]; exact hk x hx⟩) (.inl ?_) h
  show (l.all fun x => isIntB (vw st x)) = false
  rw [← hb, Bool.eq_iff_iff]
  simp only [List.all_eq_true]
  exact ⟨fun h x hx => by rw [← vw_okK (st := st) (hk x hx)]; exact h x hx, fun h x hx => by rw [vw_okK (hk x hx)]; exact h x hx⟩
theorem badSh_ints {ns : List Int} (hl : ns.length ≤ 1000) (hb : shapeB ns = false) : BadSh (.lst (iD ns)) := fun st q er h => by
  refine checked_bad trivial (fun l' hl' => by cases hl'; exact ⟨by simpa using hl, fun x hx => by obtain ⟨i, _, rfl⟩ := List.mem_map.mp hx; trivial⟩) (.inr ⟨ns, isInts_lst, hb⟩) h
/-! ### rows -/
def badRow (sh : List Nat) (rows : List (List D)) (k : Nat) : Bool := match rows[k]? with
  | none => true
  | some r => !(r.all isIntB && r.length == sh.length)
theorem badRow_at {sh : List Nat} {rows : List (List D)} {k : Nat} (h : k < rows.length) : badRow sh rows k = !(rows[k].all isIntB && rows[k].length == sh.length) := by
  unfold badRow
  rw [List.getElem?_eq_getElem h]
inductive Out (sh : List Nat) (rows : List (List D)) : Option Nat → Prop
  | bad {k : Nat} : k < prodN sh → badRow sh rows k = true → (∀ j, j < k → badRow sh rows j = false) → Out sh rows (some k)
  | long : (∀ j, j < prodN sh → badRow sh rows j = false) → prodN sh < rows.length → Out sh rows (some (prodN sh))
  | good : (∀ j, j < prodN sh → badRow sh rows j = false) → rows.length ≤ prodN sh → Out sh rows none
theorem out_ex (sh : List Nat) (rows : List (List D)) : ∃ o, Out sh rows o := by
  have : ∀ n, (∀ j, j < n → badRow sh rows j = false) ∨ ∃ k, k < n ∧ badRow sh rows k = true ∧ ∀ j, j < k → badRow sh rows j = false := by
    intro n
    induction n with
    | zero => exact .inl fun j hj => absurd hj (by omega)
    | succ n ih =>
      rcases ih with ih | ⟨k, h1, h2, h3⟩
      · cases hb : badRow sh rows n with
        | true => exact .inr ⟨n, by omega, hb, ih⟩
        | false =>
          refine .inl fun j hj => ?_
          rcases Nat.lt_or_eq_of_le (Nat.lt_succ_iff.mp hj) with h | rfl
          · exact ih j h
          · exact hb
      · exact .inr ⟨k, by omega, h2, h3⟩
  rcases this (prodN sh) with h | ⟨k, h1, h2, h3⟩
  · by_cases hl : rows.length ≤ prodN sh
    · exact ⟨_, .good h hl⟩
    · exact ⟨_, .long h (by omega)⟩
  · exact ⟨_, .bad h1 h2 h3⟩
theorem Out.at_ {rows : List (List D)} {o : Option Nat} {i : Nat} (h : Out sh rows o) (hi : i < prodN sh) (hb : badRow sh rows i = true) (hp : ∀ j, j < i → badRow sh rows j = false) : o = some i := by
  cases h with
  | @bad k h1 h2 h3 =>
    rcases Nat.lt_trichotomy k i with h | rfl | h
    · rw [hp k h] at h2; cases h2
    · rfl
    · rw [h3 i h] at hb; cases hb
  | long h1 _ => rw [h1 i hi] at hb; cases hb
  | good h1 _ => rw [h1 i hi] at hb; cases hb
theorem Out.end_ {rows : List (List D)} {o : Option Nat} (h : Out sh rows o) (hp : ∀ j, j < prodN sh → badRow sh rows j = false) : (prodN sh < rows.length ∧ o = some (prodN sh)) ∨ (rows.length ≤ prodN sh ∧ o = none) := by
  cases h with
  | bad h1 h2 h3 => rw [hp _ h1] at h2; cases h2
  | long _ h => exact .inl ⟨h, rfl⟩
  | good _ h => exact .inr ⟨h, rfl⟩
theorem good_ints {l : List D} (h : l.all isIntB = true) : ∃ ns : List Int, l = iD ns := by
  induction l with
  | nil => exact ⟨[], rfl⟩
  | cons x xs ih =>
    rw [List.all_cons, Bool.and_eq_true] at h
    obtain ⟨ns, rfl⟩ := ih h.2
    cases x <;> first | (rename_i i; exact ⟨i :: ns, rfl⟩) | (simp [isIntB] at h; done)
theorem Out.rows {rows : List (List D)} (h : Out sh rows none) : ∃ irows : List (List Int), rows = irows.map iD ∧ RowsOk sh irows := by
  cases h with
  | good h1 h2 =>
    have hlen : rows.length = prodN sh := by
      rcases Nat.lt_or_ge rows.length (prodN sh) with h | h
      · have := h1 _ h
        unfold badRow at this
        rw [List.getElem?_eq_none (Nat.le_refl _)] at this
        cases this
      · omega
    have each : ∀ r ∈ rows, ∃ ns : List Int, r = iD ns ∧ ns.length = sh.length := fun r hr => by
      obtain ⟨k, hk, e⟩ := List.mem_iff_getElem.mp hr
      have := h1 k (by omega)
      rw [badRow_at hk, e] at this
      simp only [Bool.not_eq_false', Bool.and_eq_true, beq_iff_eq] at this
      obtain ⟨ns, rfl⟩ := good_ints this.1
      exact ⟨ns, rfl, by simpa using this.2⟩
    have : ∀ (l : List (List D)), (∀ r ∈ l, ∃ ns : List Int, r = iD ns ∧ ns.length = sh.length) → ∃ irows : List (List Int), l = irows.map iD ∧ ∀ r ∈ irows, r.length = sh.length := by
      intro l
      induction l with
      | nil => exact fun _ => ⟨[], rfl, by simp⟩
      | cons r l ih =>
        intro h
        obtain ⟨ns, rfl, hn⟩ := h r (by simp)
        obtain ⟨ir, rfl, hi⟩ := ih fun x hx => h x (by simp [hx])
        exact ⟨ns :: ir, rfl, fun x hx => by
          rcases List.mem_cons.mp hx with rfl | hx
          · exact hn
          · exact hi x hx⟩
    obtain ⟨ir, rfl, hi⟩ := this rows each
    exact ⟨ir, rfl, by rw [cellsN_len]; simpa using hlen, hi⟩
structure Items (rows : List (List D)) : Prop where
  len : rows.length ≤ 1000
  row : ∀ r ∈ rows, r.length ≤ 1000 ∧ ∀ x ∈ r, okK x
theorem intsB_lst {r : List D} (h : ∀ x ∈ r, okK x) : intsB st (.lst r) = r.all isIntB := by
  show (r.all fun x => isIntB (vw st x)) = r.all isIntB
  rw [Bool.eq_iff_iff]
  simp only [List.all_eq_true]
  exact ⟨fun k x hx => by rw [← vw_okK (st := st) (h x hx)]; exact k x hx, fun k x hx => by rw [vw_okK (h x hx)]; exact k x hx⟩
theorem lt_int {k : Nat} {c f : Str} {i : Int} : Er.lt k ⟨c, some (f, .int i)⟩ := by show D.lt k (.int i); unfold D.lt; trivial
end
end LW
set_option Elab.async false
set_option linter.all false
set_option maxRecDepth 100000
set_option maxHeartbeats 1000000
namespace LW
open PySem L2 AM
def gcdL (ns : List Int) : Int := (ns.foldl (fun (g : Nat) n => Nat.gcd n.natAbs g) 0 : Nat)
theorem gcd_step (a b : Nat) (h : b ≠ 0) : Nat.gcd a b = Nat.gcd b (a % b) := by rw [Nat.gcd_comm a b, Nat.gcd_rec b a, Nat.gcd_comm]
/-- Euclid's loop, either form of its test -/
theorem euclid {t : AT} {b : AS} {k : AK} {e0 e1 e2 : A} {st : S}
    (ht : ∀ (x y : Int) (q : Bool → S → Prop) (er : QX), t [e0, e1, e2, .d (.int x), .d (.int y)] st q er = q (y != 0) st)
    (hb : ∀ (x y : Int) (k : AK), y ≠ 0 → b [e0, e1, e2, .d (.int x), .d (.int y)] st k = k.nx [e0, e1, e2, .d (.int y), .d (.int (x.fmod y))] st)
    (n m : Nat) (h : k.nx [e0, e1, e2, .d (.int (Nat.gcd n m)), .d (.int 0)] st) : sWhile t b [e0, e1, e2, .d (.int n), .d (.int m)] st k := by
  refine ⟨m + 1, ?_⟩
  induction m using Nat.strongRecOn generalizing n with
  | _ m ih =>
    rw [wh_succ, ht]
    by_cases hm : m = 0
    · subst hm
      simpa using h
    · have hm' : (m : Int) ≠ 0 := by omega
      rw [if_pos (by simpa using hm), hb _ _ _ hm']
      have e : (n : Int).fmod (m : Int) = ((n % m : Nat) : Int) := by
        rw [Int.fmod_eq_emod_of_nonneg _ (by omega)]; rfl
      rw [e]
      have hlt : n % m < m := Nat.mod_lt _ (by omega)
      have := ih (n % m) hlt m (by rw [← gcd_step n m hm]; exact h)
      -- more turns do no harm
      have mono : ∀ (j i : Nat) (x y : Int), i ≤ j → sWhN t b i [e0, e1, e2, .d (.int x), .d (.int y)] st k → sWhN t b j [e0, e1, e2, .d (.int x), .d (.int y)] st k := by
        intro j
        induction j with
        | zero => intro i x y hi h; have : i = 0 := by omega
                  subst this; exact h
        | succ j ihj =>
          intro i x y hi h
          cases i with
          | zero => exact h.elim
          | succ i =>
            rw [wh_succ, ht] at h ⊢
            by_cases hy : y = 0
            · subst hy; simpa using h
            · rw [if_pos (by simpa using hy), hb _ _ _ hy] at h ⊢
              exact ihj i _ _ (by omega) h
      exact mono m (n % m + 1) _ _ (by omega) this
theorem abs_int (n : Int) : (if n < 0 then -n else n) = (n.natAbs : Int) := by omega
/-- the loop over the numbers -/
theorem div_loop {b : AS} {k : AK} {d : D} {st : S} {gd : Gd} (hg : gdOk gd st)
    (hb : ∀ (n : Int) (g : Nat) (e3 e4 : A) (k : AK), k.nx [.d d, .d (.int (Nat.gcd n.natAbs g)), .d (.int n), .d (.int (Nat.gcd n.natAbs g)), .d (.int 0)] st → b [.d d, .d (.int g), .d (.int n), e3, e4] st k) :
    ∀ (ns : List Int) (g : Nat) (e2 e3 e4 : A), (∀ e2 e3 e4, k.nx [.d d, .d (.int (ns.foldl (fun (g : Nat) n => Nat.gcd n.natAbs g) g : Nat)), e2, e3, e4] st) → sForL gd (agName 2) b (ns.map .int) [.d d, .d (.int g), e2, e3, e4] st k
  | [], g, e2, e3, e4, h => ⟨hg, h e2 e3 e4⟩
  | n :: ns, g, e2, e3, e4, h => by
    rw [List.map_cons, for_cons]
    exact ⟨hg, hb n g e3 e4 _ (div_loop hg hb ns _ _ _ _ h)⟩
theorem divisor_spec {d : D} {ns : List Int} {st : S} {q : Rs → S → Prop} {er : QX} (hd : isInts st d ns) (h : q (.d (.int (gcdL ns))) st) : m_divisor [d] st q er := by
  refine ⟨rfl, ?_⟩
  show a_divisor [.d d, .no, .no, .no, .no] st _
  unfold a_divisor
  simp
  refine ⟨_, hd, ?_⟩
  refine div_loop gdOk_of (fun n g e3 e4 k hk => ?_) ns 0 _ _ _ (fun e2 e3 e4 => by simp; exact h)
  simp [abs_int]
  refine euclid (fun x y q er => by simp) (fun x y k hy => by simp [hy]) _ _ ?_
  simpa using hk
theorem law_divisor_spec {d : D} {ns : List Int} {st : S} {q : Rs → S → Prop} {er : QX} (hd : isInts st d ns) (h : q (.d (.int (gcdL ns))) st) : m__law_divisor [d] st q er := by
  refine ⟨rfl, ?_⟩
  show a__law_divisor [.d d, .no, .no, .no, .no] st _
  unfold a__law_divisor
  simp
  refine ⟨_, hd, ?_⟩
  refine div_loop gdOk_of (fun n g e3 e4 k hk => ?_) ns 0 _ _ _ (fun e2 e3 e4 => by simp; exact h)
  simp [abs_int]
  refine euclid (fun x y q er => by simp; rfl) (fun x y k hy => by simp [hy]) _ _ ?_
  simpa using hk
/-! ### ratios -/
def gsg (a b : Int) : Int := if b < 0 then -gcdL [a, b] else gcdL [a, b]
def rt (a b : Int) : Int := a.fdiv (gsg a b)
def rb (a b : Int) : Int := b.fdiv (gsg a b)
def ratD (a b : Int) : D := .tup [.int (rt a b), .int (rb a b)]
theorem gcdL_two (a b : Int) : gcdL [a, b] = (Nat.gcd b.natAbs a.natAbs : Nat) := by
  unfold gcdL
  simp
theorem gcdL_pos {a b : Int} (hb : b ≠ 0) : 0 < gcdL [a, b] := by
  rw [gcdL_two]
  have : 0 < Nat.gcd b.natAbs a.natAbs := Nat.gcd_pos_of_pos_left _ (by omega)
  omega
theorem gcdL_dvdL (a b : Int) : gcdL [a, b] ∣ a := by
  rw [gcdL_two]
  exact Int.ofNat_dvd_left.mpr (Nat.gcd_dvd_right _ _)
theorem gcdL_dvdR (a b : Int) : gcdL [a, b] ∣ b := by
  rw [gcdL_two]
  exact Int.ofNat_dvd_left.mpr (Nat.gcd_dvd_left _ _)
theorem gcdL_le {a b : Int} (hb : b ≠ 0) : (gcdL [a, b]).natAbs ≤ b.natAbs := by
  rw [gcdL_two]
  exact Nat.le_of_dvd (by omega) (Nat.gcd_dvd_left _ _)
theorem gsg_ne {a b : Int} (hb : b ≠ 0) : gsg a b ≠ 0 := by
  have := gcdL_pos (a := a) hb
  unfold gsg
  split <;> omega
theorem gsg_le {a b : Int} (hb : b ≠ 0) : (gsg a b).natAbs ≤ b.natAbs := by
  have := gcdL_le (a := a) hb
  unfold gsg
  split
  · rw [Int.natAbs_neg]; exact this
  · exact this
theorem gsg_dvdL (a b : Int) : gsg a b ∣ a := by
  unfold gsg
  split
  · exact Int.neg_dvd.mpr (gcdL_dvdL a b)
  · exact gcdL_dvdL a b
theorem gsg_dvdR (a b : Int) : gsg a b ∣ b := by
  unfold gsg
  split
  · exact Int.neg_dvd.mpr (gcdL_dvdR a b)
  · exact gcdL_dvdR a b
theorem rt_mul {a b : Int} : rt a b * gsg a b = a := Int.fdiv_mul_cancel (gsg_dvdL a b)
theorem rb_mul {a b : Int} : rb a b * gsg a b = b := Int.fdiv_mul_cancel (gsg_dvdR a b)
theorem gsg_sign {a b : Int} (hb : b ≠ 0) : (0 < b → 0 < gsg a b) ∧ (b < 0 → gsg a b < 0) := by
  have := gcdL_pos (a := a) hb
  unfold gsg
  constructor
  · intro h; rw [if_neg (by omega)]; exact this
  · intro h; rw [if_pos h]; omega
theorem rb_pos {a b : Int} (hb : b ≠ 0) : 0 < rb a b := by
  have e := rb_mul (a := a) (b := b)
  have s := gsg_sign (a := a) hb
  rcases Int.lt_or_lt_of_ne hb with h | h
  · have g := s.2 h
    rcases Int.lt_trichotomy (rb a b) 0 with z | z | z
    · have := Int.mul_pos_of_neg_of_neg z g; omega
    · rw [z] at e; omega
    · exact z
  · have g := s.1 h
    rcases Int.lt_trichotomy (rb a b) 0 with z | z | z
    · have := Int.mul_neg_of_neg_of_pos z g; omega
    · rw [z] at e; omega
    · exact z
theorem le_of_mul {x g a : Int} (e : x * g = a) (hg : g ≠ 0) : x.natAbs ≤ a.natAbs := by
  rw [← e, Int.natAbs_mul]
  exact Nat.le_mul_of_pos_right _ (by omega)
theorem rt_le {a b : Int} (hb : b ≠ 0) : (rt a b).natAbs ≤ a.natAbs := le_of_mul rt_mul (gsg_ne hb)
theorem rb_le {a b : Int} (hb : b ≠ 0) : (rb a b).natAbs ≤ b.natAbs := le_of_mul rb_mul (gsg_ne hb)
/-! ### sizes -/
theorem logN_lt {n k : Nat} (h : n < 2 ^ k) (hk : 0 < k) : n.log2 < k := by
  by_cases hz : n = 0
  · subst hz; simpa using hk
  · exact (Nat.log2_lt hz).mpr h
theorem cfd_of {x y : Int} (h0 : y ≠ 0) (h : y.natAbs < 2 ^ 8000) : CFd x y := ⟨h0, Nat.lt_of_lt_of_le (logN_lt h (by decide)) (by decide)⟩
theorem cmul_of {x y : Int} (hx : x.natAbs < 2 ^ 8000) (hy : y.natAbs < 2 ^ 8000) : CMulW x y := by
  have h1 := logN_lt hx (by decide)
  have h2 := logN_lt hy (by decide)
  show x.natAbs.log2 + y.natAbs.log2 < 1000000
  omega
theorem mul_bd {x y : Int} {a b : Nat} (hx : x.natAbs < 2 ^ a) (hy : y.natAbs < 2 ^ b) : (x * y).natAbs < 2 ^ (a + b) := by
  rw [Int.natAbs_mul, Nat.pow_add]
  exact Nat.mul_lt_mul_of_lt_of_le hx (Nat.le_of_lt hy) (Nat.lt_of_le_of_lt (Nat.zero_le _) hy)
theorem bd_le {x : Int} {a b : Nat} (hx : x.natAbs < 2 ^ a) (h : a ≤ b) : x.natAbs < 2 ^ b := Nat.lt_of_lt_of_le hx (Nat.pow_le_pow_right (by decide) h)
/-! ### the defs -/
section
variable {st : S} {q : Rs → S → Prop} {er : QX}
end
@[simp] theorem atI0 {α : Type} {x : α} {l : List α} : atI (x :: l) 0 = some x := by
  have e : ixN (x :: l).length 0 = some 0 := by unfold ixN; rw [if_pos (by decide), if_pos (by simp)]; rfl
  unfold atI; rw [e]; rfl
@[simp] theorem atI1 {α : Type} {x y : α} {l : List α} : atI (x :: y :: l) 1 = some y := by
  have e : ixN (x :: y :: l).length 1 = some 1 := by unfold ixN; rw [if_pos (by decide), if_pos (by simp only [List.length_cons]; omega)]; rfl
  unfold atI; rw [e]; rfl
theorem eqv_pair {a b : Int} : D.eqv (.tup [.int a, .int b]) (.tup [.int a, .int b]) = true := by simp [D.eqv, D.eqvs]
theorem shp_pair {a b : Int} : (D.tup [.int a, .int b]).shp := by
  unfold D.shp
  simp [D.plain, D.plains, D.dep, D.deps]
theorem eq_pair {a b : Int} {q : D → Prop} : oEq (.tup [.int a, .int b]) (.tup [.int a, .int b]) q = q (.bl true) := by
  unfold oEq
  simp [shp_pair, eqv_pair]
theorem ne_pair {a b : Int} {q : D → Prop} : oNe (.tup [.int a, .int b]) (.tup [.int a, .int b]) q = q (.bl false) := by
  unfold oNe
  simp [shp_pair, eqv_pair]
theorem gcd_fold_dvd : ∀ (ns : List Int) (x : Nat), (ns.foldl (fun (g : Nat) n => Nat.gcd n.natAbs g) x ∣ x) ∧ ∀ n ∈ ns, ns.foldl (fun (g : Nat) n => Nat.gcd n.natAbs g) x ∣ n.natAbs
  | [], x => ⟨Nat.dvd_refl _, by simp⟩
  | m :: ns, x => by
    obtain ⟨h1, h2⟩ := gcd_fold_dvd ns (Nat.gcd m.natAbs x)
    rw [List.foldl_cons]
    refine ⟨Nat.dvd_trans h1 (Nat.gcd_dvd_right _ _), fun n hn => ?_⟩
    rcases List.mem_cons.mp hn with rfl | hn
    · exact Nat.dvd_trans h1 (Nat.gcd_dvd_left _ _)
    · exact h2 n hn
theorem gcdL_dvd_mem {ns : List Int} {n : Int} (hn : n ∈ ns) : gcdL ns ∣ n := by
  unfold gcdL
  exact Int.ofNat_dvd_left.mpr ((gcd_fold_dvd ns 0).2 n hn)
def intF (f : Int → Int) : D → D
  | .int i => .int (f i)
  | d => d
theorem map_intF (f : Int → Int) (ns : List Int) : (ns.map D.int).map (intF f) = (ns.map f).map D.int := by
  rw [List.map_map, List.map_map]; rfl
def lowL (ns : List Int) : List Int := if gcdL ns = 0 then ns else ns.map fun n => n.fdiv (gcdL ns)
theorem gcd_fold_lt {B : Nat} : ∀ (ns : List Int) (g : Nat), g < B → (∀ n ∈ ns, n.natAbs < B) → ns.foldl (fun (g : Nat) n => Nat.gcd n.natAbs g) g < B
  | [], g, hg, _ => hg
  | n :: ns, g, hg, h => by
    refine gcd_fold_lt ns _ ?_ (fun x hx => h x (by simp [hx]))
    show Nat.gcd n.natAbs g < B
    by_cases hn : n.natAbs = 0
    · rw [hn, Nat.gcd_zero_left]; exact hg
    · exact Nat.lt_of_le_of_lt (Nat.gcd_le_left _ (by omega)) (h n (by simp))
theorem gcdL_lt {B : Nat} {ns : List Int} (hB : 0 < B) (h : ∀ n ∈ ns, n.natAbs < B) : (gcdL ns).natAbs < B := by
  unfold gcdL
  rw [Int.natAbs_natCast]
  exact gcd_fold_lt ns 0 hB h
theorem two_pos {k : Nat} : 0 < 2 ^ k := Nat.pow_pos (by decide)
section
variable {st : S} {q : Rs → S → Prop} {er : QX}
theorem divs {d : D} {g : Int} {ns : List Int} {gd : Gd} {ql : List D → S → Prop} (hg : gdOk gd st) (hl : ns.length ≤ 100000) (hc : ∀ x, CFd x g) (h : ql ((ns.map fun n => n.fdiv g).map .int) st) : aLcL gd (agName 2) aYes (aOp oFdiv (aVar 2) (aVar 1)) [.d d, .d (.int g), .no] ql (ns.map .int) [] st := by
  rw [lc_map (G := intF fun i => i.fdiv g) hg _ _ (fun x hx P1 P2 => ?_) (by simpa using hl)]
  · rw [map_intF]; simpa using h
  · obtain ⟨n, _, rfl⟩ := List.mem_map.mp hx
    simp [hc, intF]
theorem lowest_spec {d : D} {ns : List Int} (hd : isInts st d ns) (hl : ns.length ≤ 100000) (hs : ∀ n ∈ ns, n.natAbs < 2 ^ 8000) (h : q (.own ((lowL ns).map .int)) st) : m_lowest [d] st q er := by
  refine ⟨rfl, ?_⟩
  show a_lowest [.d d, .no, .no] st _
  unfold a_lowest
  simp
  refine divisor_spec hd ?_
  simp
  unfold lowL at h
  by_cases hz : gcdL ns = 0
  · rw [if_pos hz] at h
    simp [hz]
    exact ⟨_, hd, h⟩
  · rw [if_neg hz] at h
    simp [hz]
    exact ⟨_, hd, divs gdOk_of hl (fun x => cfd_of hz (gcdL_lt two_pos hs)) h⟩
theorem least_spec {d : D} {ns : List Int} (hd : isInts st d ns) (hl : ns.length ≤ 100000) (hs : ∀ n ∈ ns, n.natAbs < 2 ^ 8000) (h : q (.own ((lowL ns).map .int)) st) : m__law_least_terms [d] st q er := by
  refine ⟨rfl, ?_⟩
  show a__law_least_terms [.d d, .no, .no] st _
  unfold a__law_least_terms
  simp
  refine law_divisor_spec hd ?_
  simp
  unfold lowL at h
  by_cases hz : gcdL ns = 0
  · rw [if_pos hz] at h
    simp [hz]
    exact ⟨_, hd, h⟩
  · rw [if_neg hz] at h
    simp [hz]
    exact ⟨_, hd, divs gdOk_of hl (fun x => cfd_of hz (gcdL_lt two_pos hs)) h⟩
end
end LW
set_option Elab.async false
set_option linter.all false
set_option maxRecDepth 100000
set_option maxHeartbeats 1000000
namespace LW
open PySem L2 AM
/-! ### scaling -/
theorem gcd_fold_mul (g : Nat) : ∀ (ns : List Int) (x : Nat), (ns.map fun n => (g : Int) * n).foldl (fun (g : Nat) n => Nat.gcd n.natAbs g) (g * x) = g * ns.foldl (fun (g : Nat) n => Nat.gcd n.natAbs g) x
  | [], x => rfl
  | n :: ns, x => by
    rw [List.map_cons, List.foldl_cons, List.foldl_cons, Int.natAbs_mul, Int.natAbs_natCast, Nat.gcd_mul_left]
    exact gcd_fold_mul g ns _
theorem gcdL_mul (g : Nat) (ns : List Int) : gcdL (ns.map fun n => (g : Int) * n) = (g : Int) * gcdL ns := by
  unfold gcdL
  have := gcd_fold_mul g ns 0
  rw [Nat.mul_zero] at this
  rw [this]
  simp
theorem fdiv_scale {g a b : Int} (hg : 0 < g) : (g * a).fdiv (g * b) = a.fdiv b := Int.mul_fdiv_mul_of_pos a b hg
theorem lowL_mul {g : Nat} (hg : 0 < g) (ns : List Int) : lowL (ns.map fun n => (g : Int) * n) = lowL ns := by
  have hg' : (0 : Int) < (g : Int) := by omega
  unfold lowL
  rw [gcdL_mul]
  by_cases hz : gcdL ns = 0
  · have all0 : ∀ n ∈ ns, n = 0 := fun n hn => by
      have := gcdL_dvd_mem hn
      rw [hz] at this
      exact Int.zero_dvd.mp this
    rw [hz, Int.mul_zero, if_pos rfl, if_pos rfl]
    conv => rhs; rw [← List.map_id ns]
    exact List.map_congr_left fun n hn => by rw [all0 n hn]; simp
  · rw [if_neg hz, if_neg (fun e => hz (by rcases Int.mul_eq_zero.mp e with h | h; omega; exact h)), List.map_map]
    exact List.map_congr_left fun n _ => fdiv_scale hg'
theorem lowL_dvd {ns : List Int} : ns = (lowL ns).map fun n => (if gcdL ns = 0 then 1 else gcdL ns) * n := by
  unfold lowL
  by_cases hz : gcdL ns = 0
  · rw [if_pos hz, if_pos hz]
    simp
  · rw [if_neg hz, if_neg hz, List.map_map]
    conv => lhs; rw [← List.map_id ns]
    exact List.map_congr_left fun n hn => by
      show n = gcdL ns * n.fdiv (gcdL ns)
      rw [Int.mul_comm]; exact (Int.fdiv_mul_cancel (gcdL_dvd_mem hn)).symm
theorem gcdL_nat (ns : List Int) : ∃ g : Nat, 0 < g ∧ (if gcdL ns = 0 then 1 else gcdL ns) = (g : Int) := by
  by_cases hz : gcdL ns = 0
  · exact ⟨1, by omega, by rw [if_pos hz]; rfl⟩
  · rw [if_neg hz]
    unfold gcdL at hz ⊢
    exact ⟨_, by omega, rfl⟩
/-- the weights are a multiple of the parts -/
theorem low_scale (ns : List Int) : ∃ g : Nat, 0 < g ∧ ns = (lowL ns).map fun n => (g : Int) * n := by
  obtain ⟨g, hg, e⟩ := gcdL_nat ns
  refine ⟨g, hg, ?_⟩
  have := lowL_dvd (ns := ns)
  rw [e] at this
  exact this
theorem gsg_scale {g : Nat} (hg : 0 < g) {a b : Int} : gsg ((g : Int) * a) ((g : Int) * b) = (g : Int) * gsg a b := by
  have hg' : (0 : Int) < (g : Int) := by omega
  have e := gcdL_mul g [a, b]
  simp only [List.map_cons, List.map_nil] at e
  unfold gsg
  rw [e]
  by_cases hb : b < 0
  · rw [if_pos hb, if_pos (Int.mul_neg_of_pos_of_neg hg' hb), Int.mul_neg]
  · rw [if_neg hb, if_neg (by have := Int.mul_nonneg (Int.le_of_lt hg') (show 0 ≤ b by omega); omega)]
theorem ratD_scale {g : Nat} (hg : 0 < g) {a b : Int} : ratD ((g : Int) * a) ((g : Int) * b) = ratD a b := by
  have hg' : (0 : Int) < (g : Int) := by omega
  unfold ratD rt rb
  rw [gsg_scale hg, fdiv_scale hg', fdiv_scale hg']
theorem sum_scale (g : Int) : ∀ ns : List Int, (ns.map fun n => g * n).sum = g * ns.sum
  | [] => by simp
  | n :: ns => by rw [List.map_cons, List.sum_cons, List.sum_cons, sum_scale g ns, Int.mul_add]
theorem lowL_len {ns : List Int} : (lowL ns).length = ns.length := by unfold lowL; split <;> simp
theorem sum_nonneg : ∀ {ns : List Int}, (∀ n ∈ ns, 0 ≤ n) → 0 ≤ ns.sum
  | [], _ => by simp
  | n :: ns, h => by rw [List.sum_cons]; have := h n (by simp); have := sum_nonneg (ns := ns) fun m hm => h m (by simp [hm]); omega
theorem low_nonneg {ns : List Int} (h : ∀ n ∈ ns, 0 ≤ n) : ∀ n ∈ lowL ns, 0 ≤ n := by
  obtain ⟨g, hg, e⟩ := low_scale ns
  intro n hn
  have : (g : Int) * n ∈ ns := by rw [e]; exact List.mem_map.mpr ⟨n, hn, rfl⟩
  have := h _ this
  rcases Int.lt_or_le n 0 with hlt | hle
  · have := Int.mul_neg_of_pos_of_neg (show (0 : Int) < (g : Int) by omega) hlt
    omega
  · exact hle
theorem low_sum_pos {ns : List Int} (h : 0 < ns.sum) : 0 < (lowL ns).sum := by
  obtain ⟨g, hg, e⟩ := low_scale ns
  have h2 : ns.sum = (g : Int) * (lowL ns).sum := by conv => lhs; rw [e, sum_scale]
  rcases Int.lt_or_le 0 (lowL ns).sum with hlt | hle
  · exact hlt
  · have := Int.mul_nonneg_of_nonpos_of_nonpos hle hle
    have := Int.mul_nonpos_of_nonneg_of_nonpos (show (0 : Int) ≤ (g : Int) by omega) hle
    omega
theorem low_bd {ns : List Int} {B : Nat} (h : ∀ n ∈ ns, n.natAbs < B) : ∀ n ∈ lowL ns, n.natAbs < B := by
  obtain ⟨g, hg, e⟩ := low_scale ns
  intro n hn
  have : (g : Int) * n ∈ ns := by rw [e]; exact List.mem_map.mpr ⟨n, hn, rfl⟩
  have := h _ this
  rw [Int.natAbs_mul, Int.natAbs_natCast] at this
  exact Nat.lt_of_le_of_lt (Nat.le_mul_of_pos_left _ hg) this
/-! ### a hint -/
def partOf (sh : List Nat) (ps : List Int) : List (D × D) := ((cellsN sh).zip ps).map fun p => (cD p.1, .int p.2)
def hintF (sh : List Nat) (ps : List Int) : List (Str × D) := [("shape", shT sh), ("places", placesD sh), ("parts", .lst (iD ps)), ("unit", .int ps.sum), ("part_of", .dic (partOf sh ps))]
def hintD (sh : List Nat) (ps : List Int) : D := .obj "Hint" (hintF sh ps)
def hs1 (sh : List Nat) : List (Str × D) := [("shape", shT sh)]
def hs2 (sh : List Nat) : List (Str × D) := [("shape", shT sh), ("places", placesD sh)]
def hs3 (sh : List Nat) (ps : List Int) : List (Str × D) := [("shape", shT sh), ("places", placesD sh), ("parts", .lst (iD ps))]
def hs4 (sh : List Nat) (ps : List Int) : List (Str × D) := [("shape", shT sh), ("places", placesD sh), ("parts", .lst (iD ps)), ("unit", .int ps.sum)]
structure MixOk' (sh : List Nat) (ws : List Int) : Prop where
  len : ws.length = (cellsN sh).length
  pos : ∀ w ∈ ws, 0 ≤ w
  sum : 0 < ws.sum
  bd : ∀ w ∈ ws, w.natAbs < 2 ^ 4000
theorem fldAt_H {f : Str} {fs : List (Str × D)} : fldAt ["Hint"] f (.obj "Hint" fs) = fs.lookup f := show (if ("Hint" : Str) ∈ [("Hint" : Str)] then fs.lookup f else none) = fs.lookup f from if_pos List.mem_cons_self
section
variable {st : S} {q : Rs → S → Prop} {er : QX} {d e : D} {sh : List Nat} {ws ps : List Int} {n : Nat} {p : D → S → Prop}
theorem is_mix_spec {n : Nat} (he : vw st e = .lst (iD ws)) (hl : ws.length = n) (hn : n ≤ 1000) (hp : ∀ w ∈ ws, 0 ≤ w) (hs : 0 < ws.sum) (h : q (.d (.bl true)) st) : m_is_mix [e, .int n] st q er := by
  refine ⟨rfl, ?_⟩
  show a_is_mix [.d e, .d (.int n), .no] st _
  unfold a_is_mix
  have ie : isInts st e ws := by unfold isInts; rw [he]; rfl
  simp [-List.map_map]
  refine ints_spec ie (by omega) ?_
  simp [-List.map_map, he, hl]
  refine lc_of (G := fun w => .bl (decide (0 ≤ w))) gdOk_of ws (fun w hw P1 P2 hp1 => by simpa using hp1) (by simp; omega) ?_
  refine ⟨ws.map fun w => decide (0 ≤ w), by simp, ?_⟩
  have ha : (ws.map fun w => decide (0 ≤ w)).all id = true := by
    rw [List.all_eq_true]
    intro b hb
    obtain ⟨w, hw, rfl⟩ := List.mem_map.mp hb
    simp [hp w hw]
  rw [ha]
  simp [-List.map_map, he]
  refine ⟨ws, rfl, ?_⟩
  simp [hs]
  exact h
theorem keys_cells : (∀ k ∈ (cellsN sh).map cD, isKeyT k) := fun k hk => by
  obtain ⟨c, _, rfl⟩ := List.mem_map.mp hk
  exact cD_key
theorem zip_partOf : ((cellsN sh).map cD).zip (iD ps) = partOf sh ps := by
  unfold partOf iD
  rw [List.zip_map]
  rfl
theorem hint_init_spec (hn : st[n]? = some (.obj "Hint" [])) (hs : isInts st d (iN sh)) (ok : ShapeOk sh) (he : vw st e = .lst (iD ws)) (mok : MixOk' sh ws) (h : q (.d .non) (st.set n (.obj "Hint" (hintF sh (lowL ws))))) : m_Hint___init__ [.ref n, d, e] st q er := by
  refine ⟨rfl, ?_⟩
  show a_Hint___init__ [.d (.ref n), .d d, .d e] st _
  unfold a_Hint___init__
  have f1 : ∀ {fs : List (Str × D)} {f : Str} {v : D}, fs.lookup f = some v → ∀ {p : D → S → Prop}, fldQ ["Hint"] f p (.ref n) (st.set n (.obj "Hint" fs)) = p v (st.set n (.obj "Hint" fs)) := fun {fs f v} e p => fldQ_of (by rw [vw_refO (set_get hn), fldAt_H]; exact e)
  have hc : (cellsN sh).length ≤ 16 := by rw [cellsN_len]; exact ok.all
  have ml := mok.len
  have vwe : ∀ x, vw (st.set n x) e = .lst (iD ws) := fun x => by rw [vw_set hn (l := iD ws) (by rw [he]; rfl)]; exact he
  have ie : ∀ x, isInts (st.set n x) e ws := fun x => by unfold isInts; rw [vwe]; rfl
  simp [-List.map_map]
  refine checked_shape_spec hs ok ?_
  simp [-List.map_map, hn]
  rw [show putD "shape" (shT sh) [] = hs1 sh from rfl]
  rw [f1 (v := shT sh) rfl]
  refine cells_of_spec (sh := sh) isInts_tup ok.l3 (fun m hm => (ok.each m hm).2) ?_
  simp [-List.map_map, set_get hn]
  rw [show putD "places" (D.lst ((cellsN sh).map cD)) (hs1 sh) = hs2 sh from rfl]
  refine And.intro (by show 1 < 1000; decide) ?_
  rw [f1 (v := placesD sh) rfl]
  simp [-List.map_map, placesD]
  refine is_mix_spec (vwe _) ml (by omega) mok.pos mok.sum ?_
  simp [-List.map_map]
  refine lowest_spec (ie _) (by omega) (fun w hw => bd_le (mok.bd w hw) (by decide)) ?_
  simp [-List.map_map, set_get hn]
  rw [show putD "parts" (D.lst ((lowL ws).map D.int)) (hs2 sh) = hs3 sh (lowL ws) from rfl]
  refine And.intro (by show 2 < 1000; decide) ?_
  rw [f1 (v := .lst (iD (lowL ws))) rfl]
  refine ⟨lowL ws, rfl, ?_⟩
  simp [-List.map_map, set_get hn]
  rw [show putD "unit" (D.int (lowL ws).sum) (hs3 sh (lowL ws)) = hs4 sh (lowL ws) from rfl]
  refine And.intro (by show 3 < 1000; decide) ?_
  rw [f1 (v := placesD sh) rfl, f1 (v := .lst (iD (lowL ws))) rfl]
  simp [-List.map_map, placesD, lowL_len, ml, zip_partOf]
  refine ⟨fun _ _ => cD_key, cD_nodup, ?_⟩
  simp [-List.map_map, set_get hn]
  rw [show putD "part_of" (D.dic (partOf sh (lowL ws))) (hs4 sh (lowL ws)) = hintF sh (lowL ws) from rfl]
  exact And.intro (by show 4 < 1000; decide) h
/-! ### its fields -/
@[simp] theorem hq_shape : fldQ ["Hint"] "shape" p (hintD sh ps) st = p (shT sh) st := fldQ_of (by unfold hintD; rw [vw_obj, fldAt_H]; rfl)
@[simp] theorem hq_places : fldQ ["Hint"] "places" p (hintD sh ps) st = p (placesD sh) st := fldQ_of (by unfold hintD; rw [vw_obj, fldAt_H]; rfl)
@[simp] theorem hq_parts : fldQ ["Hint"] "parts" p (hintD sh ps) st = p (.lst (iD ps)) st := fldQ_of (by unfold hintD; rw [vw_obj, fldAt_H]; rfl)
@[simp] theorem hq_unit : fldQ ["Hint"] "unit" p (hintD sh ps) st = p (.int ps.sum) st := fldQ_of (by unfold hintD; rw [vw_obj, fldAt_H]; rfl)
@[simp] theorem hq_part_of : fldQ ["Hint"] "part_of" p (hintD sh ps) st = p (.dic (partOf sh ps)) st := fldQ_of (by unfold hintD; rw [vw_obj, fldAt_H]; rfl)
@[simp] theorem vw_hint : vw st (hintD sh ps) = hintD sh ps := rfl
@[simp] theorem isCls_hint : isCls "Hint" (hintD sh ps) = True := by unfold hintD; simp
@[simp] theorem isObj_weights : isObj "Hint" "weights" (hintD sh ps) = True := propext ⟨fun _ => trivial, fun _ => ⟨rfl, rfl⟩⟩
@[simp] theorem nonD_hint : nonD (hintD sh ps) = some false := rfl
theorem ltF_hint {k : Nat} : ltF k (hintF sh ps) := by
  unfold hintF
  simp only [ltF, and_true]
  refine ⟨lt_rT, ?_, lt_rL, by unfold D.lt; trivial, ?_⟩
  · unfold placesD D.lt
    exact ltL_of fun x hx => by
      obtain ⟨i, _, rfl⟩ := List.mem_map.mp hx
      exact lt_rT
  · unfold D.lt
    exact ltP_of fun p hp => by
      obtain ⟨i, _, rfl⟩ := List.mem_map.mp hp
      exact ⟨lt_rT, by unfold D.lt; trivial⟩
theorem new_hint (hs : isInts st d (iN sh)) (ok : ShapeOk sh) (he : vw st e = .lst (iD ws)) (mok : MixOk' sh ws) {p : D → S → Prop} {er' : QX} (h : p (hintD sh (lowL ws)) st) : ltL st.length [d, e] → ltS st.length st → m_Hint___init__ [.ref st.length, d, e] (st ++ [.obj "Hint" []]) (newQ "Hint" st.length p) er' := fun h1 h2 => by
  have hd := ltL_mem h1 d (by simp)
  have he' := ltL_mem h1 e (by simp)
  refine hint_init_spec (by simp) (isInts_app hd hs) ok (by rw [vw_app he']; exact he) mok ?_
  refine ⟨rfl, hintF sh (lowL ws), ?_, ltF_hint, ?_, ?_⟩
  · simp
  · simpa using h2
  · simp; exact h
theorem weights_spec (h : q (.own (iD ps)) st) : m_Hint_weights [hintD sh ps] st q er := by
  refine ⟨rfl, ?_⟩
  show a_Hint_weights [.d (hintD sh ps)] st _
  unfold a_Hint_weights
  simp [-List.map_map]
  exact h
end
end LW
set_option Elab.async false
set_option linter.all false
set_option maxRecDepth 100000
set_option maxHeartbeats 1000000
namespace LW
open PySem L2 AM
/-! ### cells lie within their shape -/
def gN (c : List Nat) (i : Nat) : Nat := (c[i]?).getD 0
def InSh (c sh : List Nat) : Prop := c.length = sh.length ∧ ∀ i, i < sh.length → gN c i < gN sh i
theorem inSh_next {acc : List (List Nat)} {pre : List Nat} {n : Nat} (h : ∀ c ∈ acc, InSh c pre) : ∀ c ∈ nextC acc n, InSh c (pre ++ [n]) := by
  intro c hc
  unfold nextC at hc
  obtain ⟨c0, h0, h1⟩ := List.mem_flatMap.mp hc
  obtain ⟨i, hi, rfl⟩ := List.mem_map.mp h1
  obtain ⟨g1, g2⟩ := h c0 h0
  refine ⟨by simp [g1], fun j hj => ?_⟩
  simp at hj
  by_cases hjl : j < pre.length
  · unfold gN at g2 ⊢
    rw [List.getElem?_append_left (by omega), List.getElem?_append_left hjl]
    exact g2 j hjl
  · have : j = pre.length := by omega
    subst this
    unfold gN
    rw [List.getElem?_append_right (by omega), List.getElem?_append_right (by omega), g1]
    simpa using hi
theorem inSh_cells {sh : List Nat} : ∀ c ∈ cellsN sh, InSh c sh := by
  have : ∀ (l : List Nat) (acc : List (List Nat)) (pre : List Nat), (∀ c ∈ acc, InSh c pre) → ∀ c ∈ l.foldl nextC acc, InSh c (pre ++ l) := by
    intro l
    induction l with
    | nil => intro acc pre h c hc; simpa using h c hc
    | cons n l ih =>
      intro acc pre h c hc
      have := ih (nextC acc n) (pre ++ [n]) (inSh_next h) c hc
      simpa using this
  exact this sh [[]] [] (by simp [InSh])
/-! ### sums over cells -/
abbrev prs (sh : List Nat) (ps : List Int) : List (List Nat × Int) := (cellsN sh).zip ps
def tl (pairs : List (List Nat × Int)) (pl m : Nat) : Int := (pairs.map fun cp => if gN cp.1 pl = m then cp.2 else 0).sum
def maskL (pairs : List (List Nat × Int)) (pl m : Nat) : List Int := pairs.map fun cp => if gN cp.1 pl = m then cp.2 else 0
theorem tl_snoc {pairs : List (List Nat × Int)} {c : List Nat} {p : Int} {pl m : Nat} : tl (pairs ++ [(c, p)]) pl m = tl pairs pl m + (if gN c pl = m then p else 0) := by
  unfold tl
  rw [List.map_append, List.sum_append]
  simp
theorem abs_sum {B : Nat} : ∀ {ns : List Int}, (∀ n ∈ ns, n.natAbs ≤ B) → ns.sum.natAbs ≤ ns.length * B
  | [], _ => by simp
  | n :: ns, h => by
    rw [List.sum_cons, List.length_cons, Nat.succ_mul]
    have h1 := h n (by simp)
    have h2 := abs_sum (ns := ns) fun m hm => h m (by simp [hm])
    have := Int.natAbs_add_le n ns.sum
    omega
theorem sum_bd {ns : List Int} (h : ∀ n ∈ ns, n.natAbs < 2 ^ 4000) (hl : ns.length ≤ 16) : ns.sum.natAbs < 2 ^ 8000 := by
  have h1 := abs_sum (B := 2 ^ 4000) fun n hn => Nat.le_of_lt (h n hn)
  have h2 : ns.length * 2 ^ 4000 ≤ 16 * 2 ^ 4000 := Nat.mul_le_mul_right _ hl
  have h3 : 16 * 2 ^ 4000 = 2 ^ 4004 := by rw [show 16 = 2 ^ 4 from rfl, ← Nat.pow_add]
  have h4 : (2 : Nat) ^ 4004 < 2 ^ 8000 := Nat.pow_lt_pow_right (by decide) (by decide)
  omega
/-- parts of a hint -/
structure POk (sh : List Nat) (ps : List Int) : Prop where
  ok : ShapeOk sh
  len : ps.length = (cellsN sh).length
  pos : ∀ w ∈ ps, 0 ≤ w
  sum : 0 < ps.sum
  bd : ∀ w ∈ ps, w.natAbs < 2 ^ 4000
theorem POk.of {sh : List Nat} {ws : List Int} (ok : ShapeOk sh) (m : MixOk' sh ws) : POk sh (lowL ws) := ⟨ok, by rw [lowL_len]; exact m.len, low_nonneg m.pos, low_sum_pos m.sum, low_bd m.bd⟩
theorem POk.l16 {sh : List Nat} {ps : List Int} (h : POk sh ps) : ps.length ≤ 16 := by rw [h.len]; exact cells_le h.ok
theorem POk.ub {sh : List Nat} {ps : List Int} (h : POk sh ps) : ps.sum.natAbs < 2 ^ 8000 := sum_bd h.bd h.l16
theorem POk.mask {sh : List Nat} {ps : List Int} (h : POk sh ps) {pl m : Nat} (hz : tl (prs sh ps) pl m ≠ 0) : MixOk' sh (maskL (prs sh ps) pl m) := by
  have pos : ∀ w ∈ maskL (prs sh ps) pl m, 0 ≤ w := fun w hw => by
    obtain ⟨cp, hcp, rfl⟩ := List.mem_map.mp hw
    split
    · exact h.pos _ (List.of_mem_zip hcp).2
    · omega
  refine ⟨by unfold maskL; simp [h.len], pos, ?_, fun w hw => ?_⟩
  · have : 0 ≤ (maskL (prs sh ps) pl m).sum := sum_nonneg pos
    have e : (maskL (prs sh ps) pl m).sum = tl (prs sh ps) pl m := rfl
    omega
  · obtain ⟨cp, hcp, rfl⟩ := List.mem_map.mp hw
    split
    · exact h.bd _ (List.of_mem_zip hcp).2
    · exact Nat.pow_pos (by decide)
def prD (p : List Nat × Int) : D := .tup [cD p.1, .int p.2]
theorem zipD_prs {sh : List Nat} {ps : List Int} : zipD ((cellsN sh).map cD) (iD ps) = (prs sh ps).map prD := by
  show _ = ((cellsN sh).zip ps).map prD
  unfold zipD iD
  rw [List.zipWith_map, List.zip, List.map_zipWith]
  rfl
theorem atI_iN {c : List Nat} {i : Nat} (h : i < c.length) : atI (iD (iN c)) (i : Int) = some (.int (gN c i : Nat)) := by
  rw [atI_nat (by simpa using h)]
  simp [gN, List.getElem?_eq_getElem h]
section
variable {st : S} {q : Rs → S → Prop} {er : QX} {d e : D} {sh : List Nat} {ws ps : List Int} {n : Nat} {p : D → S → Prop}
theorem is_cell_spec {c : List Nat} (hc : InSh c sh) (hl : sh.length ≤ 100) (h : q (.d (.bl true)) st) : m_is_cell [shT sh, cD c] st q er := by
  refine ⟨rfl, ?_⟩
  show a_is_cell [.d (shT sh), .d (cD c), .no, .no] st _
  unfold a_is_cell cD
  have hcl := hc.1
  simp [-List.map_map, hcl]
  refine ints_spec (ns := iN c) isInts_tup (by simp; omega) ?_
  simp [-List.map_map]
  rw [show zipD (iD (iN c)) (iD (iN sh)) = (c.zip sh).map fun p => .tup [.int (p.1 : Nat), .int (p.2 : Nat)] from by
    unfold zipD
    simp only [iD, iN]
    rw [List.map_map, List.map_map, List.zipWith_map, List.zip, List.map_zipWith]
    rfl]
  refine lc_of (α := Nat × Nat) (G := fun p => .bl (decide (p.1 < p.2))) (by simp) _ (fun x hx P1 P2 hp1 => by simp; exact hp1) (by simp; omega) ?_
  refine ⟨(c.zip sh).map fun p => decide (p.1 < p.2), by simp, ?_⟩
  have ha : ((c.zip sh).map fun p => decide (p.1 < p.2)).all id = true := by
    rw [List.all_eq_true]
    intro b hb
    obtain ⟨x, hx, rfl⟩ := List.mem_map.mp hb
    obtain ⟨k, hk, e⟩ := List.mem_iff_getElem.mp hx
    simp at hk e
    subst e
    have := hc.2 k (by omega)
    unfold gN at this
    rw [List.getElem?_eq_getElem (show k < c.length by omega), List.getElem?_eq_getElem (show k < sh.length by omega)] at this
    simpa using this
  rw [ha]
  exact h
theorem look_part (h : POk sh ps) {x : List Nat × Int} (hx : x ∈ prs sh ps) : DLook (partOf sh ps) (cD x.1) (.int x.2) := dlook_zip (α := List Nat × Int) (KK := fun p => cD p.1) (V := fun p => .int p.2) _ (nodup_fst cD_nodup h.len.symm) hx
end
end LW
set_option Elab.async false
set_option linter.all false
set_option maxRecDepth 100000
set_option maxHeartbeats 1000000
namespace LW
open PySem L2 AM
theorem ixN_nat {n k : Nat} (h : k < n) : ixN n (k : Int) = some k := by unfold ixN; rw [if_pos (by omega), if_pos (by omega)]; simp
theorem atI_shape {sh : List Nat} {i : Nat} (h : i < sh.length) : atI (iD (iN sh)) (i : Int) = some (.int (gN sh i : Nat)) := atI_iN h
/-- the sums by moves -/
def tls (pairs : List (List Nat × Int)) (pl cnt : Nat) : List Int := (List.range cnt).map (tl pairs pl)
theorem tls_nil {pl cnt : Nat} : ((List.range cnt).map fun _ => D.int 0) = iD (tls [] pl cnt) := by
  unfold tls tl
  simp
theorem tls_set {pairs : List (List Nat × Int)} {c : List Nat} {p : Int} {pl cnt : Nat} (h : gN c pl < cnt) : (iD (tls pairs pl cnt)).set (gN c pl) (.int (tl pairs pl (gN c pl) + p)) = iD (tls (pairs ++ [(c, p)]) pl cnt) := by
  apply List.ext_getElem
  · simp [tls]
  · intro k h1 h2
    simp [tls] at h1 h2
    rw [List.getElem_set]
    by_cases hk : gN c pl = k
    · rw [if_pos hk]
      simp [tls, tl_snoc, hk]
    · rw [if_neg hk]
      simp only [tls, List.getElem_map, List.getElem_range, tl_snoc, if_neg hk]
      simp
theorem tls_at {pairs : List (List Nat × Int)} {pl cnt k : Nat} (h : k < cnt) : atI (iD (tls pairs pl cnt)) (k : Int) = some (.int (tl pairs pl k)) := by
  rw [atI_nat (by simpa [tls] using h)]
  simp [tls]
section
variable {st : S} {q : Rs → S → Prop} {er : QX} {d e : D} {sh : List Nat} {ws ps : List Int} {n : Nat} {p : D → S → Prop} {pl : Nat}
def knownD (sh : List Nat) (ps : List Int) (pl m : Nat) : D := if tl (prs sh ps) pl m = 0 then .non else hintD sh (lowL (maskL (prs sh ps) pl m))
end
end LW
set_option Elab.async false
set_option linter.all false
set_option maxRecDepth 100000
set_option maxHeartbeats 1000000
namespace LW
open PySem L2 AM
/-! ### cells with another move -/
theorem cells_inSh {sh c : List Nat} (h : InSh c sh) : c ∈ cellsN sh := by
  have : ∀ (l : List Nat) (acc : List (List Nat)) (pre : List Nat), InSh c (pre ++ l) → c.take pre.length ∈ acc → c ∈ l.foldl nextC acc := by
    intro l
    induction l with
    | nil =>
      intro acc pre h1 h2
      rw [List.append_nil] at h1
      rw [List.take_of_length_le (by rw [h1.1]; omega)] at h2
      exact h2
    | cons n l ih =>
      intro acc pre h1 h2
      refine ih (nextC acc n) (pre ++ [n]) (by simpa using h1) ?_
      have hl : pre.length < c.length := by rw [h1.1]; simp
      unfold nextC
      refine List.mem_flatMap.mpr ⟨_, h2, List.mem_map.mpr ⟨gN c pre.length, ?_, ?_⟩⟩
      · have := h1.2 pre.length (by simp)
        have e : gN (pre ++ n :: l) pre.length = n := by unfold gN; rw [List.getElem?_append_right (by omega)]; simp
        rw [e] at this
        simpa using this
      · rw [List.length_append, List.length_singleton, List.take_add_one, List.getElem?_eq_getElem hl]
        simp [gN, List.getElem?_eq_getElem hl]
  exact this sh [[]] [] (by simpa using h) (by simp)
def rp (c : List Nat) (pl v : Nat) : List Nat := c.take pl ++ v :: c.drop (pl + 1)
theorem rp_inSh {sh c : List Nat} {pl v : Nat} (h : InSh c sh) (hpl : pl < sh.length) (hv : v < gN sh pl) : InSh (rp c pl v) sh := by
  have hl := h.1
  refine ⟨by unfold rp; simp; omega, fun i hi => ?_⟩
  have h2 := h.2 i hi
  unfold gN at h2 hv ⊢
  unfold rp
  by_cases h1 : i < pl
  · rw [List.getElem?_append_left (by simp; omega), List.getElem?_take_of_lt h1]
    exact h2
  · rw [List.getElem?_append_right (by simp; omega), List.length_take, Nat.min_eq_left (by omega)]
    by_cases h3 : i = pl
    · subst h3
      simpa using hv
    · obtain ⟨k, rfl⟩ : ∃ k, i = pl + 1 + k := ⟨i - pl - 1, by omega⟩
      rw [show pl + 1 + k - pl = k + 1 by omega, List.getElem?_cons_succ, List.getElem?_drop]
      exact h2
theorem rp_self {c : List Nat} {pl : Nat} (h : pl < c.length) : rp c pl (gN c pl) = c := by
  unfold rp gN
  rw [List.getElem?_eq_getElem h]
  simp
theorem cut_take {α : Type} {l : List α} {k : Nat} (h : k ≤ l.length) : cutL l none (some (k : Int)) = l.take k := by
  unfold cutL
  rw [HT.sIx_nat]
  show ((l.drop 0).take (min k l.length - 0)) = _
  simp [Nat.min_eq_left h]
theorem cut_drop {α : Type} {l : List α} {k : Nat} (h : k ≤ l.length) : cutL l (some (k : Int)) none = l.drop k := by
  unfold cutL
  rw [HT.sIx_nat]
  show ((l.drop (min k l.length)).take (l.length - min k l.length)) = _
  rw [Nat.min_eq_left h, List.take_of_length_le (by simp)]
@[simp] theorem slD_tup {l : List D} {lo hi : Option Int} {q : D → Prop} : slD (.tup l) lo hi q = q (.tup (cutL l lo hi)) := propext Iff.rfl
/-! ### sums of what is moved -/
def mv (pairs : List (List Nat × Int)) (R : List Nat → List Nat) (c : List Nat) : Int := (pairs.map fun cp => if R cp.1 = c then cp.2 else 0).sum
def mvL (sh : List Nat) (pairs : List (List Nat × Int)) (R : List Nat → List Nat) : List Int := (cellsN sh).map (mv pairs R)
theorem mv_snoc {pairs : List (List Nat × Int)} {R : List Nat → List Nat} {c c0 : List Nat} {p : Int} : mv (pairs ++ [(c0, p)]) R c = mv pairs R c + (if R c0 = c then p else 0) := by
  unfold mv
  rw [List.map_append, List.sum_append]
  simp
theorem pos_ex : ∀ {ns : List Int}, 0 < ns.sum → ∃ n ∈ ns, 0 < n
  | [], h => by simp at h
  | n :: ns, h => by
    by_cases hn : 0 < n
    · exact ⟨n, by simp, hn⟩
    · rw [List.sum_cons] at h
      obtain ⟨m, hm, h0⟩ := pos_ex (ns := ns) (by omega)
      exact ⟨m, by simp [hm], h0⟩
theorem mem_sum_le : ∀ {ns : List Int} {x : Int}, (∀ n ∈ ns, 0 ≤ n) → x ∈ ns → x ≤ ns.sum
  | n :: ns, x, h, hx => by
    rw [List.sum_cons]
    have h0 := h n (by simp)
    have h1 := sum_nonneg (ns := ns) fun m hm => h m (by simp [hm])
    rcases List.mem_cons.mp hx with rfl | hx
    · omega
    · have := mem_sum_le (fun m hm => h m (by simp [hm])) hx
      omega
theorem mv_mix {sh : List Nat} {ps : List Int} {R : List Nat → List Nat} (hp : POk sh ps) (hb : ∀ w ∈ ps, w.natAbs < 2 ^ 1000) (hR : ∀ c ∈ cellsN sh, R c ∈ cellsN sh) : MixOk' sh (mvL sh (prs sh ps) R) := by
  have nn : ∀ c, 0 ≤ mv (prs sh ps) R c := fun c => sum_nonneg fun w hw => by
    obtain ⟨cp, hcp, rfl⟩ := List.mem_map.mp hw
    split
    · exact hp.pos _ (List.of_mem_zip hcp).2
    · omega
  refine ⟨by unfold mvL; simp, fun w hw => ?_, ?_, fun w hw => ?_⟩
  · obtain ⟨c, _, rfl⟩ := List.mem_map.mp hw
    exact nn c
  · obtain ⟨p, hpm, hp0⟩ := pos_ex hp.sum
    obtain ⟨k, hk, e⟩ := List.mem_iff_getElem.mp hpm
    have hkc : k < (cellsN sh).length := by have := hp.len; omega
    have hmem : ((cellsN sh)[k], p) ∈ prs sh ps := List.mem_iff_getElem.mpr ⟨k, by simp; omega, by simp [e]⟩
    have h1 : p ≤ mv (prs sh ps) R (R (cellsN sh)[k]) := by
      refine mem_sum_le (fun w hw => ?_) (List.mem_map.mpr ⟨_, hmem, by simp⟩)
      obtain ⟨cp, hcp, rfl⟩ := List.mem_map.mp hw
      split
      · exact hp.pos _ (List.of_mem_zip hcp).2
      · omega
    have h2 : mv (prs sh ps) R (R (cellsN sh)[k]) ≤ (mvL sh (prs sh ps) R).sum := mem_sum_le (fun w hw => by obtain ⟨c, _, rfl⟩ := List.mem_map.mp hw; exact nn c) (List.mem_map.mpr ⟨_, hR _ (List.getElem_mem _), rfl⟩)
    omega
  · obtain ⟨c, _, rfl⟩ := List.mem_map.mp hw
    have h1 := abs_sum (B := 2 ^ 1000) (ns := (prs sh ps).map fun cp => if R cp.1 = c then cp.2 else 0) fun w hw => by
      obtain ⟨cp, hcp, rfl⟩ := List.mem_map.mp hw
      split
      · exact Nat.le_of_lt (hb _ (List.of_mem_zip hcp).2)
      · exact Nat.zero_le _
    have h16 := hp.l16
    have h2 : ((prs sh ps).map fun cp => if R cp.1 = c then cp.2 else 0).length * 2 ^ 1000 ≤ 16 * 2 ^ 1000 := Nat.mul_le_mul_right _ (by simp; omega)
    have h3 : 16 * 2 ^ 1000 = 2 ^ 1004 := by rw [show 16 = 2 ^ 4 from rfl, ← Nat.pow_add]
    have h4 : (2 : Nat) ^ 1004 < 2 ^ 4000 := Nat.pow_lt_pow_right (by decide) (by decide)
    have e : mv (prs sh ps) R c = ((prs sh ps).map fun cp => if R cp.1 = c then cp.2 else 0).sum := rfl
    rw [e]
    omega
def mvD (sh : List Nat) (pairs : List (List Nat × Int)) (R : List Nat → List Nat) : List (D × D) := (cellsN sh).map fun c => (cD c, .int (mv pairs R c))
theorem dput_at {α : Type} [DecidableEq α] {KK V : α → D} {v : D} : ∀ (L : List α) {x0 : α}, (L.map KK).Nodup → x0 ∈ L → DPutD (L.map fun x => (KK x, V x)) (KK x0) v (L.map fun x => (KK x, if x = x0 then v else V x))
  | [], _, _, h => by cases h
  | y :: ys, x0, hd, h => by
    rw [List.map_cons, List.nodup_cons] at hd
    rw [List.map_cons, List.map_cons]
    by_cases hy : y = x0
    · subst hy
      rw [if_pos rfl]
      have e : (ys.map fun x => (KK x, if x = y then v else V x)) = ys.map fun x => (KK x, V x) := List.map_congr_left fun x hx => by
        rw [if_neg (fun q => hd.1 (by rw [← q]; exact List.mem_map_of_mem hx))]
      rw [e]
      refine .here fun p hp => ?_
      obtain ⟨x, hx, rfl⟩ := List.mem_map.mp hp
      exact fun q => hd.1 (by rw [← (show KK x = KK y from q)]; exact List.mem_map_of_mem hx)
    · rw [if_neg hy]
      have hm : x0 ∈ ys := by
        rcases List.mem_cons.mp h with h | h
        · exact absurd h.symm hy
        · exact h
      exact .there (fun q => hd.1 (by rw [q]; exact List.mem_map_of_mem hm)) (dput_at ys hd.2 hm)
theorem mvD_put {sh : List Nat} {pairs : List (List Nat × Int)} {R : List Nat → List Nat} {c0 : List Nat} {p : Int} (h : R c0 ∈ cellsN sh) : DPutD (mvD sh pairs R) (cD (R c0)) (.int (mv pairs R (R c0) + p)) (mvD sh (pairs ++ [(c0, p)]) R) := by
  have := dput_at (KK := cD) (V := fun c => D.int (mv pairs R c)) (v := .int (mv pairs R (R c0) + p)) (cellsN sh) cD_nodup h
  have e : mvD sh (pairs ++ [(c0, p)]) R = (cellsN sh).map fun x => (cD x, if x = R c0 then D.int (mv pairs R (R c0) + p) else D.int (mv pairs R x)) := by
    unfold mvD
    refine List.map_congr_left fun c _ => ?_
    rw [mv_snoc]
    by_cases hc : c = R c0
    · subst hc; simp
    · rw [if_neg hc, if_neg (fun q => hc q.symm)]
      simp
  rw [e]
  exact this
theorem mvD_look {sh : List Nat} {pairs : List (List Nat × Int)} {R : List Nat → List Nat} {c : List Nat} (h : c ∈ cellsN sh) : DLook (mvD sh pairs R) (cD c) (.int (mv pairs R c)) := dlook_zip (KK := cD) (V := fun c => D.int (mv pairs R c)) _ cD_nodup h
theorem mvD_keys {sh : List Nat} {pairs : List (List Nat × Int)} {R : List Nat → List Nat} (hne : cellsN sh ≠ []) : keysT (mvD sh pairs R) := ⟨fun h => hne (by unfold mvD at h; exact List.map_eq_nil_iff.mp h), fun p hp => by obtain ⟨c, _, rfl⟩ := List.mem_map.mp hp; exact cD_key⟩
/-- a plan's moves -/
def pR (pl : Nat) (pn : List Nat) : List Nat → List Nat := fun c => rp c pl (gN pn (gN c pl))
structure PlanOk (sh : List Nat) (pl : Nat) (pn : List Nat) : Prop where
  lt : pl < sh.length
  len : pn.length = gN sh pl
  each : ∀ v ∈ pn, v < gN sh pl
theorem PlanOk.cell {sh pn : List Nat} {pl : Nat} (h : PlanOk sh pl pn) {c : List Nat} (hc : c ∈ cellsN sh) : gN c pl < pn.length ∧ gN pn (gN c pl) < gN sh pl ∧ pR pl pn c ∈ cellsN sh := by
  have hin := inSh_cells c hc
  have h1 : gN c pl < pn.length := by rw [h.len]; exact hin.2 pl h.lt
  have h2 : gN pn (gN c pl) < gN sh pl := by
    have : gN pn (gN c pl) ∈ pn := by
      unfold gN at h1 ⊢
      rw [List.getElem?_eq_getElem h1]
      exact List.getElem_mem _
    exact h.each _ this
  exact ⟨h1, h2, cells_inSh (rp_inSh hin h.lt h2)⟩
section
variable {st : S} {q : Rs → S → Prop} {er : QX} {d e : D} {sh pn : List Nat} {ws ps : List Int} {pl : Nat}
end
end LW
set_option Elab.async false
set_option linter.all false
set_option maxRecDepth 100000
set_option maxHeartbeats 1000000
namespace LW
open PySem L2 AM
def idxQ (q : D → S → Prop) (x y : D) (s2 : S) : Prop := ∃ l j z, vw s2 x = .lst l ∧ (D.lst l).shp ∧ (vw s2 y).shp ∧ l[j]? = some z ∧ D.eqv z (vw s2 y) = true ∧ (∀ (m : Nat) (z' : D), m < j → l[m]? = some z' → D.eqv z' (vw s2 y) = false) ∧ q (.int (j : Nat)) s2
def lrQ (q : List D → S → Prop) (x : D) (s1 : S) : Prop := ∃ n : Int, x = .int n ∧ 0 ≤ n ∧ n ≤ 100000 ∧ q ((List.range n.toNat).map fun (i : Nat) => D.int (i : Int)) s1
section
variable {st : S} {q : Rs → S → Prop} {er : QX} {d e : D} {sh pn : List Nat} {ws ps : List Int} {pl : Nat}
@[simp] theorem ev_sCellD {af : AFd} {i : Nat} {env : List A} {k : AK} : sCellD af i env st k = af env st (fun l s1 => k.nx (env.set i (.d (.ref s1.length))) (s1 ++ [.dic l])) (fun e s1 => k.er e env s1) := propext Iff.rfl
@[simp] theorem ev_aIdx {a b : AE} {env : List A} {p : D → S → Prop} : aIdx a b env st p er = a env st (fun x s1 => (∃ l, vw s1 x = .lst l) ∧ b env s1 (idxQ p x) er) er := propext Iff.rfl
@[simp] theorem ev_fLRng {a : AE} {env : List A} {ql : List D → S → Prop} : fLRng a env st ql er = a env st (lrQ ql) er := propext Iff.rfl
@[simp] theorem lrQ_int {n : Int} {ql : List D → S → Prop} : lrQ ql (.int n) st = (0 ≤ n ∧ n ≤ 100000 ∧ ql ((List.range n.toNat).map fun (i : Nat) => D.int (i : Int)) st) := propext ⟨fun ⟨_, e, w⟩ => by cases e; exact w, fun w => ⟨_, rfl, w⟩⟩
theorem ints_app {x : List C} (hd : d.lt st.length) (h : isInts st d ws) : isInts (st ++ x) d ws := isInts_app hd h
theorem atI_view {st : S} {d : D} {c : List Nat} (h : isInts st d (iN c)) {i : Nat} (hi : i < c.length) {q : D → Prop} : oIxA (vw st d) (.int (i : Int)) q = q (.int (gN c i : Nat)) := by
  rw [oIxA_items h]
  have e : atI ((iN c).map D.int) (i : Int) = some (.int (gN c i : Nat)) := atI_iN hi
  exact propext ⟨fun ⟨_, e2, w⟩ => by rw [e] at e2; cases e2; exact w, fun w => ⟨_, e, w⟩⟩
end
end LW
set_option Elab.async false
set_option linter.all false
set_option maxRecDepth 100000
set_option maxHeartbeats 1000000
namespace LW
open PySem L2 AM
/-! ### draws -/
theorem log_lt {x : Int} {a b : Nat} (h : x.natAbs < 2 ^ a) (hb : a + 1 ≤ b) : x.natAbs.log2 < b := by
  by_cases hz : x.natAbs = 0
  · rw [hz, show Nat.log2 0 = 0 from rfl]; omega
  · exact (Nat.log2_lt hz).mpr (Nat.lt_of_lt_of_le h (Nat.pow_le_pow_right (by decide) (by omega)))
section
variable {st : S} {q : Rs → S → Prop} {er : QX} {d : D} {sh : List Nat}
theorem take_spec {n m : Nat} {ns : List Int} {k : Int} (hn : st[n]? = some (.pool m ns)) (hk : 0 < k) (hl : k.natAbs < 2 ^ 8000) (hm : m < 10 ^ 12) (h : ∀ (x : Int) (m' : Nat), 0 ≤ x → x < k → m ≤ m' → m' ≤ m + 1 → q (.d (.int x)) (st.set n (.pool m' ns))) : mTake [.ref n, .int k] st q er :=
  ⟨n, m, ns, k, rfl, hn, hk, Nat.lt_of_lt_of_le (log_lt hl (b := 8001) (by omega)) (by decide), hm, h⟩
theorem law_size_spec (hd : isInts st d (iN sh)) (hl3 : sh.length ≤ 3) (hb : ∀ n ∈ sh, n ≤ 4) (h : q (.d (.int (prodN sh : Nat))) st) : m__law_size [d] st q er := by
  refine ⟨rfl, ?_⟩
  show a__law_size [.d d, .no, .no] st _
  unfold a__law_size
  simp [-List.map_map]
  refine ⟨_, hd, ?_⟩
  rw [List.map_map]
  refine for_of (P := fun l env s => s = st ∧ ∃ (p : Nat) (e2 : A), env = [.d d, .d (.int p), e2] ∧ l.foldl (· * ·) p = prodN sh ∧ (∀ n ∈ l, n ≤ 4) ∧ p * 4 ^ l.length < 1000) ?_ ?_ sh _ _ ⟨rfl, 1, .no, rfl, rfl, hb, ?_⟩
  · rintro env s ⟨rfl, p, e2, rfl, hp, _, _⟩
    refine ⟨gdOk_of, ?_⟩
    have hp : p = prodN sh := hp
    subst hp
    simpa using h
  · rintro n l env s ⟨rfl, p, e2, rfl, hp, he, hbd⟩ nx hnx
    refine ⟨gdOk_of, ?_⟩
    have hn := he n (by simp)
    have hpb : p < 1000 := Nat.lt_of_le_of_lt (Nat.le_mul_of_pos_right p (Nat.pow_pos (by decide))) hbd
    have hc : CMulW (p : Int) (n : Int) := cmul_nat (Nat.lt_of_lt_of_le hpb (by decide)) (Nat.lt_of_le_of_lt hn (by decide))
    simp [-List.map_map]
    refine ⟨hc, hnx _ _ ⟨rfl, p * n, _, by simp; rfl, hp, fun m hm => he m (by simp [hm]), ?_⟩⟩
    rw [List.length_cons, Nat.pow_succ, Nat.mul_comm (4 ^ _) 4, ← Nat.mul_assoc] at hbd
    exact Nat.lt_of_le_of_lt (Nat.mul_le_mul_right _ (Nat.mul_le_mul_left _ hn)) hbd
  · have : 4 ^ sh.length ≤ 4 ^ 3 := Nat.pow_le_pow_right (by decide) hl3
    omega
structure Pre (L : List (List Nat)) (k : Nat) : Prop where
  one : [1] ∈ L
  len : L.length ≤ k
  each : ∀ sh ∈ L, 1 ≤ sh.length ∧ sh.length ≤ 3 ∧ ∀ n ∈ sh, 1 ≤ n ∧ n ≤ 4
theorem Pre.more {L M : List (List Nat)} {k : Nat} (h : Pre L k) (hl : M.length ≤ 4) (he : ∀ sh ∈ M, 1 ≤ sh.length ∧ sh.length ≤ 3 ∧ ∀ n ∈ sh, 1 ≤ n ∧ n ≤ 4) : Pre (L ++ M) (k + 4) := ⟨by simp [h.one], by have := h.len; simp; omega, fun sh hs => by
  rcases List.mem_append.mp hs with hs | hs
  · exact h.each sh hs
  · exact he sh hs⟩
def R4 : List Nat := [1, 2, 3, 4]
theorem R4_len : R4.length = 4 := rfl
theorem rng4 : ((List.range 4).map fun (n : Nat) => D.int (1 + (n : Int))) = R4.map fun (i : Nat) => D.int (i : Int) := rfl
theorem law_shapes_spec {most : Nat} (h1 : 1 ≤ most) (h16 : most ≤ 16) (h : ∀ L : List (List Nat), (∀ sh ∈ L, ShapeOk sh ∧ prodN sh ≤ most) → L ≠ [] → L.length ≤ 100 → q (.own (L.map shL)) st) : m__law_shapes [.int most] st q er := by
  refine ⟨rfl, ?_⟩
  show a__law_shapes [.d (.int most), .no, .no, .no, .no, .no] st _
  unfold a__law_shapes
  have mem4 : ∀ {n : Nat}, n ∈ R4 → 1 ≤ n ∧ n ≤ 4 := fun h => by simp [R4] at h; omega
  simp [-List.map_map, rng4]
  refine lc_of (G := fun (i : Nat) => shL [i]) (by simp) R4 (fun i hi P1 P2 hp => by simp; exact hp) (by simp [R4_len]) ?_
  rw [List.nil_append, show (R4.map fun (i : Nat) => shL [i]) = (R4.map fun i => [i]).map shL from (List.map_map).symm]
  have p0 : Pre (R4.map fun i => [i]) 4 := ⟨by simp [R4], by simp [R4], fun sh hs => by
    obtain ⟨i, hi, rfl⟩ := List.mem_map.mp hs
    have := mem4 hi
    simp; omega⟩
  generalize (R4.map fun i => [i]) = L0 at p0
  refine for_of (T := fun (i : Nat) => D.int (i : Int)) (P := fun l env s => s = st ∧ (∀ i ∈ l, 1 ≤ i ∧ i ≤ 4) ∧ ∃ L k e2, env = [.d (.int most), .d (.lst (L.map shL)), e2, .no, .no, .no] ∧ Pre L k ∧ k + 4 * l.length ≤ 20) ?_ ?_ R4 _ _ ⟨rfl, fun i hi => mem4 hi, L0, 4, .no, rfl, p0, by simp [R4_len]⟩
  · rintro env s ⟨rfl, _, L, k, e2, rfl, pk, hk⟩
    refine ⟨by simp, ?_⟩
    simp [-List.map_map, rng4]
    simp at hk
    refine for_of (T := fun (i : Nat) => D.int (i : Int)) (P := fun l env st => st = s ∧ (∀ i ∈ l, 1 ≤ i ∧ i ≤ 4) ∧ ∃ L k e2 e3, env = [.d (.int most), .d (.lst (L.map shL)), e2, e3, .no, .no] ∧ Pre L k ∧ k + 16 * l.length ≤ 84) ?_ ?_ R4 _ _ ⟨rfl, fun i hi => mem4 hi, L, k, e2, .no, rfl, pk, by simp [R4_len]; omega⟩
    · rintro env st ⟨rfl, _, L, k, e2, e3, rfl, pk, hk⟩
      refine ⟨by simp, ?_⟩
      simp [-List.map_map]
      have := pk.len
      simp at hk
      refine lc_ofP (T := shL) (G := shL) (p := fun sh => decide (prodN sh ≤ most)) (by simp) L (fun sh hs P1 P2 hp => ?_) (by simp; omega) ?_
      · obtain ⟨a1, a2, a3⟩ := pk.each sh hs
        simp [-List.map_map]
        refine law_size_spec (sh := sh) isInts_lst a2 (fun n hn => (a3 n hn).2) ?_
        simpa using hp
      · rw [List.nil_append]
        refine h _ (fun sh hs => ?_) (fun hz => ?_) (Nat.le_trans (List.length_filter_le _ _) (by omega))
        · obtain ⟨b1, b2⟩ := List.mem_filter.mp hs
          obtain ⟨a1, a2, a3⟩ := pk.each sh b1
          have b2 : prodN sh ≤ most := by simpa using b2
          exact ⟨⟨a1, a2, a3, by omega⟩, b2⟩
        · have : [1] ∈ L.filter fun sh => decide (prodN sh ≤ most) := List.mem_filter.mpr ⟨pk.one, by simpa [prodN] using h1⟩
          rw [hz] at this
          cases this
    · rintro a l env st ⟨rfl, hl, L, k, e2, e3, rfl, pk, hk⟩ nx hnx
      refine ⟨by simp, ?_⟩
      simp [-List.map_map, rng4]
      simp at hk
      have ha := hl a (by simp)
      refine for_of (T := fun (i : Nat) => D.int (i : Int)) (P := fun l2 env s => s = st ∧ (∀ i ∈ l2, 1 ≤ i ∧ i ≤ 4) ∧ ∃ L k e3, env = [.d (.int most), .d (.lst (L.map shL)), .d (.int a), e3, .no, .no] ∧ Pre L k ∧ k + 4 * l2.length + 16 * l.length ≤ 84) ?_ ?_ R4 _ _ ⟨rfl, fun i hi => mem4 hi, L, k, e3, rfl, pk, by simp [R4_len]; omega⟩
      · rintro env s ⟨rfl, _, L, k, e3, rfl, pk, hk⟩
        exact ⟨by simp, hnx _ _ ⟨rfl, fun i hi => hl i (by simp [hi]), L, k, _, e3, rfl, pk, by simpa using hk⟩⟩
      · rintro b l2 env s ⟨rfl, hl2, L, k, e3, rfl, pk, hk⟩ nx hnx
        refine ⟨by simp, ?_⟩
        simp [-List.map_map, rng4]
        simp at hk
        have hb := hl2 b (by simp)
        have := pk.len
        refine lc_of (G := fun (i : Nat) => shL [a, b, i]) (by simp) R4 (fun i hi P1 P2 hp => by simp; exact hp) (by simp [R4_len]) ?_
        simp [-List.map_map]
        refine ⟨by simp [R4_len]; omega, ?_⟩
        refine hnx _ _ ⟨rfl, fun i hi => hl2 i (by simp [hi]), L ++ R4.map (fun i => [a, b, i]), k + 4, _, by rw [List.map_append, List.map_map]; rfl, pk.more (by simp [R4_len]) (fun sh hs => ?_), by omega⟩
        simp [R4] at hs
        rcases hs with rfl | rfl | rfl | rfl <;> simp <;> omega
  · rintro a l env s ⟨rfl, hl, L, k, e2, rfl, pk, hk⟩ nx hnx
    refine ⟨by simp, ?_⟩
    simp [-List.map_map, rng4]
    simp at hk
    have ha := hl a (by simp)
    have := pk.len
    refine lc_of (G := fun (i : Nat) => shL [a, i]) (by simp) R4 (fun i hi P1 P2 hp => by simp; exact hp) (by simp [R4_len]) ?_
    simp [-List.map_map]
    refine ⟨by simp [R4_len]; omega, ?_⟩
    refine hnx _ _ ⟨rfl, fun i hi => hl i (by simp [hi]), L ++ R4.map (fun i => [a, i]), k + 4, _, by rw [List.map_append, List.map_map]; rfl, pk.more (by simp [R4_len]) (fun sh hs => ?_), by omega⟩
    simp [R4] at hs
    rcases hs with rfl | rfl | rfl | rfl <;> simp <;> omega
end
end LW
set_option Elab.async false
set_option linter.all false
set_option maxRecDepth 100000
set_option maxHeartbeats 1000000
namespace LW
open PySem L2 AM
section
variable {st : S} {q : Rs → S → Prop} {er : QX} {d : D} {sh : List Nat}
theorem law_shape_spec {n m most : Nat} {ns : List Int} (hn : st[n]? = some (.pool m ns)) (hm : m < 10 ^ 6) (h1 : 1 ≤ most) (h16 : most ≤ 16) (h : ∀ sh m', ShapeOk sh → prodN sh ≤ most → m ≤ m' → m' ≤ m + 1 → q (.d (shL sh)) (st.set n (.pool m' ns))) : m__law_shape [.ref n, .int most] st q er := by
  refine ⟨rfl, ?_⟩
  show a__law_shape [.d (.ref n), .d (.int most), .no] st _
  unfold a__law_shape
  simp [-List.map_map]
  refine law_shapes_spec h1 h16 fun L hL hne hl => ?_
  simp [-List.map_map]
  have hpos : 0 < L.length := List.length_pos_iff.mpr hne
  refine take_spec hn (by omega) (Nat.lt_of_le_of_lt (m := 100) (by omega) (Nat.lt_of_lt_of_le (m := 2 ^ 100) (by decide) (Nat.pow_le_pow_right (by decide) (by decide)))) (by omega) fun x m1 x0 x1 h2 h3 => ?_
  obtain ⟨k, rfl⟩ : ∃ k : Nat, x = k := ⟨x.toNat, by omega⟩
  have hk : k < (L.map shL).length := by simp; omega
  simp [-List.map_map, atI_nat hk]
  obtain ⟨a, b⟩ := hL L[k] (List.getElem_mem _)
  exact h _ _ a b h2 h3
/-- a row of draws -/
theorem draw_row {n m most : Nat} {ns : List Int} {env : List A} {ql : List D → S → Prop} (hn : st[n]? = some (.pool m ns)) (hm : m + sh.length < 10 ^ 6) (hmost : most < 2 ^ 100) (e0 : env[0]? = some (.d (.ref n))) (e2 : env[2]? = some (.d (.int most))) (hl : sh.length ≤ 100)
    (h : ∀ (r : List Int) (m' : Nat), r.length = sh.length → (∀ i ∈ r, i.natAbs ≤ most) → m ≤ m' → m' ≤ m + sh.length → ql (iD r) (st.set n (.pool m' ns))) :
    aLcL [] (agName 5) aYes (aOp oSub (aCall m__law_take (aCons (aVar 0) (aCons (aOp oAdd (aOp oMul (aC (.int 2)) (aVar 2)) (aC (.int 1))) (aNil))) []) (aVar 2)) env ql (iD (iN sh)) [] st := by
  have c2 : CMulW 2 (most : Int) := cmul_nat (a := 2) (by decide) hmost
  have ebd : st.set n (.pool m ns) = st := by
    apply List.ext_getElem?
    intro j
    by_cases hj : n = j
    · subst hj; rw [List.getElem?_set_self (List.getElem?_eq_some_iff.mp hn).1, hn]
    · rw [List.getElem?_set_ne hj]
  refine lc_ind (P := fun xs acc s => ∃ (r : List Int) (m' : Nat), acc = iD r ∧ s = st.set n (.pool m' ns) ∧ r.length + xs.length = sh.length ∧ (∀ i ∈ r, i.natAbs ≤ most) ∧ m ≤ m' ∧ m' + xs.length ≤ m + sh.length) ?_ ?_ _ _ _ ⟨[], m, rfl, ebd.symm, by simp, by simp, by omega, by simp⟩
  · rintro acc s ⟨r, m', rfl, rfl, h1, h2, h3, h4⟩
    simp at h1 h4
    exact ⟨by simp, h r m' h1 h2 h3 h4⟩
  · rintro x xs acc s ⟨r, m', rfl, rfl, h1, h2, h3, h4⟩ P1 P2 hp _
    simp at h1 h4
    refine ⟨by simp, by simp; omega, ?_⟩
    have f0 : (env.set 5 (.d x))[0]? = some (.d (.ref n)) := by rw [List.getElem?_set_ne (by decide)]; exact e0
    have f2 : (env.set 5 (.d x))[2]? = some (.d (.int most)) := by rw [List.getElem?_set_ne (by decide)]; exact e2
    simp [-List.map_map, ev_aVar f0, ev_aVar f2, c2]
    have hk : (2 * (most : Int) + 1).natAbs < 2 ^ 8000 := by
      have h102 : (2 : Nat) ^ 102 = 4 * 2 ^ 100 := by decide
      have h3 : (2 * (most : Int) + 1).natAbs < 2 ^ 102 := by omega
      exact Nat.lt_of_lt_of_le h3 (Nat.pow_le_pow_right (by decide) (by decide))
    refine take_spec (set_get hn) (by omega) hk (by omega) fun y m2 y0 y1 h5 h6 => ?_
    simp [-List.map_map, ev_aVar f0, ev_aVar f2]
    refine hp _ _ ⟨r ++ [y - most], m2, by simp, by simp, by simp; omega, fun i hi => ?_, by omega, by omega⟩
    rcases List.mem_append.mp hi with hi | hi
    · exact h2 i hi
    · have : i = y - most := by simpa using hi
      omega
end
end LW
set_option Elab.async false
set_option linter.all false
set_option maxRecDepth 100000
set_option maxHeartbeats 1000000
namespace LW
open PySem L2 AM
def cL (c : List Nat) : D := .lst (iD (iN c))
theorem nextC_snoc {dn : List (List Nat)} {c : List Nat} {n : Nat} : nextC (dn ++ [c]) n = nextC dn n ++ (List.range n).map fun i => c ++ [i] := by unfold nextC; rw [List.flatMap_append]; simp
theorem sum_pos_mem : ∀ {ns : List Int} {x : Int}, (∀ n ∈ ns, 0 ≤ n) → x ∈ ns → x ≤ ns.sum
  | n :: ns, x, h, hx => by
    rw [List.sum_cons]
    have h0 := h n (by simp)
    have h1 := sum_nonneg (ns := ns) fun m hm => h m (by simp [hm])
    rcases List.mem_cons.mp hx with rfl | hx
    · omega
    · have := sum_pos_mem (fun m hm => h m (by simp [hm])) hx
      omega
section
variable {st : S} {q : Rs → S → Prop} {er : QX} {d : D} {sh : List Nat}
theorem law_cells_spec (hd : isInts st d (iN sh)) (hl3 : sh.length ≤ 3) (hb : ∀ n ∈ sh, n ≤ 4) (h : q (.own ((cellsN sh).map cD)) st) : m__law_cells [d] st q er := by
  refine ⟨rfl, ?_⟩
  show a__law_cells [.d d, .no, .no, .no, .no, .no] st _
  unfold a__law_cells
  simp [-List.map_map]
  refine ⟨_, hd, ?_⟩
  rw [List.map_map]
  refine for_of (P := fun l env s => s = st ∧ ∃ (acc : List (List Nat)) (e2 e3 e4 : A), env = [.d d, .d (.lst (acc.map cL)), e2, e3, e4, .no] ∧ l.foldl nextC acc = cellsN sh ∧ (∀ c ∈ acc, c.length + l.length = sh.length) ∧ (∀ n ∈ l, n ≤ 4) ∧ acc.length * 4 ^ l.length < 1000) ?_ ?_ sh _ _ ⟨rfl, [[]], .no, .no, .no, rfl, rfl, by simp, hb, ?_⟩
  · rintro env s ⟨rfl, acc, e2, e3, e4, rfl, hp, hc, _, hbd⟩
    refine ⟨gdOk_of, ?_⟩
    have hp : acc = cellsN sh := hp
    subst hp
    simp [-List.map_map]
    simp at hbd
    refine lc_of (T := cL) (G := cD) (by simp) _ (fun c hcm P1 P2 hp1 => by simp [-List.map_map, cL]; exact hp1) (by simp; omega) (by simpa [-List.map_map] using h)
  · rintro n l env s ⟨rfl, acc, e2, e3, e4, rfl, hp, hc, he, hbd⟩ nx hnx
    refine ⟨gdOk_of, ?_⟩
    have hn := he n (by simp)
    simp only [List.length_cons] at hc
    have hbd' : acc.length * n * 4 ^ l.length < 1000 := by
      rw [List.length_cons, Nat.pow_succ, Nat.mul_comm (4 ^ _) 4, ← Nat.mul_assoc] at hbd
      exact Nat.lt_of_le_of_lt (Nat.mul_le_mul_right _ (Nat.mul_le_mul_left _ hn)) hbd
    have hlen : acc.length * n < 1000 := Nat.lt_of_le_of_lt (Nat.le_mul_of_pos_right _ (Nat.pow_pos (by decide))) hbd'
    simp [-List.map_map]
    refine for_of (T := cL) (P := fun l2 env s2 => s2 = s ∧ ∃ (dn : List (List Nat)) (e4 : A), dn ++ l2 = acc ∧ env = [.d d, .d (.lst (acc.map cL)), .d (.int n), .d (.lst ((nextC dn n).map cL)), e4, .no]) ?_ ?_ acc _ _ ⟨rfl, [], e4, rfl, rfl⟩
    · rintro env s2 ⟨rfl, dn, e4, hdn, rfl⟩
      refine ⟨by simp, ?_⟩
      have hdn : dn = acc := by simpa using hdn
      subst hdn
      simp [-List.map_map]
      refine hnx _ _ ⟨rfl, nextC dn n, _, _, _, rfl, hp, fun c hcm => ?_, fun m hm => he m (by simp [hm]), by rw [nextC_len]; exact hbd'⟩
      unfold nextC at hcm
      obtain ⟨c0, h0, h1⟩ := List.mem_flatMap.mp hcm
      obtain ⟨i, _, rfl⟩ := List.mem_map.mp h1
      have := hc c0 h0
      simp; omega
    · rintro c l2 env s2 ⟨rfl, dn, e4, hdn, rfl⟩ nx2 hnx2
      refine ⟨by simp, ?_⟩
      have hcm : c ∈ acc := by rw [← hdn]; simp
      have hcl := hc c hcm
      simp [-List.map_map]
      refine And.intro (by omega) ?_
      refine lc_of (T := fun (i : Nat) => D.int (i : Int)) (G := fun i => cL (c ++ [i])) (by simp) (List.range n) (fun i hi P1 P2 hp1 => ?_) (by simp; omega) ?_
      · simp [-List.map_map, cL]
        refine And.intro (by omega) ?_
        simpa [-List.map_map, cL] using hp1
      · have hdl : dn.length + l2.length + 1 = acc.length := by have := congrArg List.length hdn; simp at this; omega
        have hdl2 : dn.length * n ≤ acc.length * n := Nat.mul_le_mul_right _ (by omega)
        simp [-List.map_map, nextC_len]
        refine And.intro (by omega) ?_
        refine hnx2 _ _ ⟨rfl, dn ++ [c], .d (cL c), by simpa using hdn, ?_⟩
        rw [nextC_snoc, List.map_append, List.map_map (l := List.range n)]
        rfl
  · have : 4 ^ sh.length ≤ 4 ^ 3 := Nat.pow_le_pow_right (by decide) hl3
    simp; omega
theorem draw_list {n m most cnt : Nat} {ns : List Int} {env : List A} {ql : List D → S → Prop} (hn : st[n]? = some (.pool m ns)) (hm : m + cnt < 10 ^ 6) (hmost : most < 2 ^ 100) (e0 : env[0]? = some (.d (.ref n))) (e2 : env[2]? = some (.d (.int most))) (hl : cnt ≤ 100)
    (h : ∀ (r : List Int) (m' : Nat), r.length = cnt → (∀ i ∈ r, 0 ≤ i ∧ i ≤ most) → m ≤ m' → m' ≤ m + cnt → ql (iD r) (st.set n (.pool m' ns))) :
    aLcL [] (agName 4) aYes (aCall m__law_take (aCons (aVar 0) (aCons (aOp oAdd (aVar 2) (aC (.int 1))) (aNil))) []) env ql ((List.range cnt).map fun (i : Nat) => D.int (i : Int)) [] st := by
  have ebd : st.set n (.pool m ns) = st := by
    apply List.ext_getElem?
    intro j
    by_cases hj : n = j
    · subst hj; rw [List.getElem?_set_self (List.getElem?_eq_some_iff.mp hn).1, hn]
    · rw [List.getElem?_set_ne hj]
  refine lc_ind (P := fun xs acc s => ∃ (r : List Int) (m' : Nat), acc = iD r ∧ s = st.set n (.pool m' ns) ∧ r.length + xs.length = cnt ∧ (∀ i ∈ r, 0 ≤ i ∧ i ≤ most) ∧ m ≤ m' ∧ m' + xs.length ≤ m + cnt) ?_ ?_ _ _ _ ⟨[], m, rfl, ebd.symm, by simp, by simp, by omega, by simp⟩
  · rintro acc s ⟨r, m', rfl, rfl, h1, h2, h3, h4⟩
    simp at h1 h4
    exact ⟨by simp, h r m' h1 h2 h3 h4⟩
  · rintro x xs acc s ⟨r, m', rfl, rfl, h1, h2, h3, h4⟩ P1 P2 hp _
    simp at h1 h4
    refine ⟨by simp, by simp; omega, ?_⟩
    have f0 : (env.set 4 (.d x))[0]? = some (.d (.ref n)) := by rw [List.getElem?_set_ne (by decide)]; exact e0
    have f2 : (env.set 4 (.d x))[2]? = some (.d (.int most)) := by rw [List.getElem?_set_ne (by decide)]; exact e2
    simp [ev_aVar f0, ev_aVar f2]
    have hk : ((most : Int) + 1).natAbs < 2 ^ 8000 := by
      have h102 : (2 : Nat) ^ 102 = 4 * 2 ^ 100 := by decide
      have h3 : ((most : Int) + 1).natAbs < 2 ^ 102 := by omega
      exact Nat.lt_of_lt_of_le h3 (Nat.pow_le_pow_right (by decide) (by decide))
    refine take_spec (set_get hn) (by omega) hk (by omega) fun y m2 y0 y1 h5 h6 => ?_
    refine hp _ _ ⟨r ++ [y], m2, by simp, by simp, by simp; omega, fun i hi => ?_, by omega, by omega⟩
    rcases List.mem_append.mp hi with hi | hi
    · exact h2 i hi
    · have : i = y := by simpa using hi
      omega
end
end LW
set_option Elab.async false
set_option linter.all false
set_option maxRecDepth 100000
set_option maxHeartbeats 2000000
namespace LW
open PySem L2 AM
/-! ### what a cell pays -/
def payR (sh : List Nat) (rows : List (List Int)) (c : List Nat) : List Int := (((cellsN sh).zip rows).lookup c).getD []
def pay (sh : List Nat) (rows : List (List Int)) (c : List Nat) (pl : Nat) : Int := ((payR sh rows c)[pl]?).getD 0
theorem look_mem {α β : Type} [BEq α] [LawfulBEq α] {c : α} {z : β} : ∀ {l : List α} {r : List β}, r.length = l.length → c ∈ l → (c, ((l.zip r).lookup c).getD z) ∈ l.zip r
  | [], _, _, h => by cases h
  | x :: l, [], e, _ => by simp at e
  | x :: l, y :: r, e, h => by
    rw [List.zip_cons_cons, List.lookup_cons]
    by_cases hc : c = x
    · subst hc
      simp
    · rw [beq_false_of_ne hc]
      refine List.mem_cons_of_mem _ (look_mem (by simpa using e) ?_)
      rcases List.mem_cons.mp h with h | h
      · exact absurd h hc
      · exact h
theorem pay_mem {sh : List Nat} {rows : List (List Int)} {c : List Nat} (rok : RowsOk sh rows) (h : c ∈ cellsN sh) : (c, payR sh rows c) ∈ (cellsN sh).zip rows := look_mem rok.len h
theorem payR_len {sh : List Nat} {rows : List (List Int)} {c : List Nat} (rok : RowsOk sh rows) (h : c ∈ cellsN sh) : (payR sh rows c).length = sh.length := rok.each _ (List.of_mem_zip (pay_mem rok h)).2
theorem atI_pay {sh : List Nat} {rows : List (List Int)} {c : List Nat} {pl : Nat} (rok : RowsOk sh rows) (h : c ∈ cellsN sh) (hpl : pl < sh.length) : atI (iD (payR sh rows c)) (pl : Int) = some (.int (pay sh rows c pl)) := by
  have e := payR_len rok h
  rw [atI_nat (by simpa using (show pl < (payR sh rows c).length by omega))]
  unfold pay
  rw [List.getElem?_eq_getElem (by omega)]
  simp [iD]
def RowsBd (rows : List (List Int)) : Prop := ∀ r ∈ rows, ∀ i ∈ r, i.natAbs < 2 ^ 200
theorem pay_bd {sh : List Nat} {rows : List (List Int)} {c : List Nat} {pl : Nat} (rok : RowsOk sh rows) (rb : RowsBd rows) (h : c ∈ cellsN sh) (hpl : pl < sh.length) : (pay sh rows c pl).natAbs < 2 ^ 200 := by
  have e := payR_len rok h
  unfold pay
  rw [List.getElem?_eq_getElem (by omega)]
  exact rb _ (List.of_mem_zip (pay_mem rok h)).2 _ (List.getElem_mem _)
theorem sub_bd {x y : Int} (hx : x.natAbs < 2 ^ 200) (hy : y.natAbs < 2 ^ 200) : (x - y).natAbs < 2 ^ 8000 := by
  have h1 : (x - y).natAbs ≤ x.natAbs + y.natAbs := by omega
  have h2 : (2 : Nat) ^ 201 ≤ 2 ^ 8000 := Nat.pow_le_pow_right (by decide) (by decide)
  have h3 : (2 : Nat) ^ 201 = 2 * 2 ^ 200 := by rw [Nat.pow_succ, Nat.mul_comm]
  omega
section
variable {st : S} {q : Rs → S → Prop} {er : QX} {d e : D} {sh sh2 : List Nat} {rows : List (List Int)} {ws ps : List Int} {pl : Nat} {c : List Nat}
/-! ### the law's table -/
def tabD (sh : List Nat) (rows : List (List Int)) : List (D × D) := ((cellsN sh).zip rows).map fun p => (cD p.1, rL p.2)
theorem look_tab (rok : RowsOk sh rows) (hc : c ∈ cellsN sh) : DLook (tabD sh rows) (cD c) (rL (payR sh rows c)) := dlook_zip (α := List Nat × List Int) (KK := fun p => cD p.1) (V := fun p => rL p.2) _ (nodup_fst cD_nodup rok.len.symm) (pay_mem rok hc)
theorem ix_tab (rok : RowsOk sh rows) (hc : c ∈ cellsN sh) {q : D → Prop} : oIxA (.dic (tabD sh rows)) (cD c) q = q (rL (payR sh rows c)) := by
  rw [ev_oIxA_dic]
  exact propext ⟨fun ⟨_, h1, h2⟩ => by rw [dlook_one (look_tab rok hc) h1]; exact h2, fun h1 => ⟨_, look_tab rok hc, h1⟩⟩
/-! ### shapes that are alike -/
theorem fldAt_GH {f : Str} {fs : List (Str × D)} : fldAt ["Game", "Hint"] f (.obj "Game" fs) = fs.lookup f := show (if ("Game" : Str) ∈ [("Game" : Str), "Hint"] then fs.lookup f else none) = fs.lookup f from if_pos List.mem_cons_self
theorem fldAt_HG {f : Str} {fs : List (Str × D)} : fldAt ["Game", "Hint"] f (.obj "Hint" fs) = fs.lookup f := show (if ("Hint" : Str) ∈ [("Game" : Str), "Hint"] then fs.lookup f else none) = fs.lookup f from if_pos (List.mem_cons_of_mem _ List.mem_cons_self)
@[simp] theorem fq_shape2 {p : D → S → Prop} : fldQ ["Game", "Hint"] "shape" p (gameD sh rows) st = p (shT sh) st := fldQ_of (by unfold gameD; rw [vw_obj, fldAt_GH]; rfl)
@[simp] theorem hq_shape2 {p : D → S → Prop} : fldQ ["Game", "Hint"] "shape" p (hintD sh ps) st = p (shT sh) st := fldQ_of (by unfold hintD; rw [vw_obj, fldAt_HG]; rfl)
theorem ne_shT {q : D → Prop} : oNe (shT sh) (shT sh2) q = q (.bl (!decide (sh = sh2))) := by
  rw [ne_rT]
  simp [iN_inj]
/-! ### what is gained -/
def gtF (sh : List Nat) (rows : List (List Int)) (pl a b : Nat) (x : List Nat × Int) : Int := if gN x.1 pl = a then x.2 * (pay sh rows (rp x.1 pl b) pl - pay sh rows x.1 pl) else 0
def gt (sh : List Nat) (rows : List (List Int)) (ps : List Int) (pl a b : Nat) : Int := ((prs sh ps).map (gtF sh rows pl a b)).sum
end
end LW
set_option Elab.async false
set_option linter.all false
set_option maxRecDepth 100000
set_option maxHeartbeats 2000000
namespace LW
open PySem L2 AM
/-! ### sums -/
theorem sum_add2 {α : Type} (f g : α → Int) : ∀ l : List α, (l.map fun x => f x + g x).sum = (l.map f).sum + (l.map g).sum
  | [] => rfl
  | x :: l => by simp only [List.map_cons, List.sum_cons]; rw [sum_add2 f g l]; omega
theorem sum_zero {α : Type} {f : α → Int} : ∀ {l : List α}, (∀ x ∈ l, f x = 0) → (l.map f).sum = 0
  | [], _ => rfl
  | x :: l, h => by simp only [List.map_cons, List.sum_cons]; rw [h x (by simp), sum_zero fun y hy => h y (by simp [hy])]; rfl
theorem sum_same {α : Type} {f g : α → Int} {l : List α} (h : ∀ x ∈ l, f x = g x) : (l.map f).sum = (l.map g).sum := by rw [List.map_congr_left h]
theorem sum_le2 {α : Type} {f g : α → Int} : ∀ {l : List α}, (∀ x ∈ l, f x ≤ g x) → (l.map f).sum ≤ (l.map g).sum
  | [], _ => Int.le_refl _
  | x :: l, h => by
    have h1 := h x (by simp)
    have h2 := sum_le2 (l := l) fun y hy => h y (by simp [hy])
    simp only [List.map_cons, List.sum_cons]
    omega
theorem sum_mulc {α : Type} {f : α → Int} {g : Int} : ∀ {l : List α}, (l.map fun x => g * f x).sum = g * (l.map f).sum
  | [] => by simp
  | x :: l => by simp only [List.map_cons, List.sum_cons]; rw [sum_mulc, Int.mul_add]
theorem sum_swap {α β : Type} (f : α → β → Int) (r : List β) : ∀ l : List α, (l.map fun x => (r.map fun t => f x t).sum).sum = (r.map fun t => (l.map fun x => f x t).sum).sum
  | [] => by simp; exact (sum_zero (l := r) (f := fun _ => 0) fun _ _ => rfl).symm
  | x :: l => by
    simp only [List.map_cons, List.sum_cons]
    rw [sum_swap f r l, ← sum_add2]
theorem sum_one {k : Nat} {v : Nat → Int} : ∀ {n : Nat}, ((List.range n).map fun t => if k = t then v t else 0).sum = if k < n then v k else 0
  | 0 => rfl
  | n + 1 => by
    rw [List.range_succ, List.map_append, List.sum_append, sum_one]
    simp only [List.map_cons, List.map_nil, List.sum_cons, List.sum_nil]
    by_cases h1 : k < n
    · rw [if_pos h1, if_neg (by omega), if_pos (by omega)]; omega
    · by_cases h2 : k = n
      · subst h2; rw [if_neg h1, if_pos rfl, if_pos (by omega)]; omega
      · rw [if_neg h1, if_neg h2, if_neg (by omega)]; rfl
/-! ### what a plan gains -/
section
variable {sh : List Nat} {rows : List (List Int)} {ws ps : List Int} {pl : Nat} {pn : List Nat} {g : Nat}
def gdF (sh : List Nat) (rows : List (List Int)) (pl : Nat) (pn : List Nat) (x : List Nat × Int) : Int := x.2 * (pay sh rows (rp x.1 pl (gN pn (gN x.1 pl))) pl - pay sh rows x.1 pl)
def gd (sh : List Nat) (rows : List (List Int)) (ws : List Int) (pl : Nat) (pn : List Nat) : Int := ((prs sh ws).map (gdF sh rows pl pn)).sum
theorem gd_gt (hpl : pl < sh.length) : gd sh rows ws pl pn = ((List.range (gN sh pl)).map fun t => gt sh rows ws pl t (gN pn t)).sum := by
  unfold gd gt
  rw [← sum_swap (fun x t => gtF sh rows pl t (gN pn t) x)]
  refine sum_same fun x hx => ?_
  have hlt : gN x.1 pl < gN sh pl := (inSh_cells _ (List.of_mem_zip hx).1).2 pl hpl
  unfold gtF
  rw [sum_one, if_pos hlt]
  rfl
theorem gt_self {t : Nat} (hpl : pl < sh.length) : gt sh rows ws pl t t = 0 := by
  refine sum_zero fun x hx => ?_
  have hin := inSh_cells _ (List.of_mem_zip hx).1
  unfold gtF
  by_cases h : gN x.1 pl = t
  · rw [if_pos h, ← h, rp_self (by rw [hin.1]; exact hpl), Int.sub_self, Int.mul_zero]
  · rw [if_neg h]
theorem gN_moved {cnt told other t : Nat} (ht : t < cnt) : gN ((List.range cnt).set told other) t = if told = t then other else t := by
  unfold gN
  by_cases h : told = t
  · subst h
    rw [List.getElem?_set_self (by simpa using ht), if_pos rfl]; rfl
  · rw [List.getElem?_set_ne h, List.getElem?_range ht, if_neg h]; rfl
theorem gd_moved {told other : Nat} (hpl : pl < sh.length) (ht : told < gN sh pl) : gd sh rows ws pl ((List.range (gN sh pl)).set told other) = gt sh rows ws pl told other := by
  rw [gd_gt hpl, sum_same (g := fun t => if told = t then gt sh rows ws pl t other else 0) fun t htm => ?_, sum_one, if_pos ht]
  rw [gN_moved (by simpa using htm)]
  by_cases h : told = t
  · rw [if_pos h, if_pos h]
  · rw [if_neg h, if_neg h, gt_self hpl]
/-! ### the best move for each -/
def mst (T : Nat → Int) : Nat → Int
  | 0 => 0
  | n + 1 => if mst T n < T n then T n else mst T n
def bst (T : Nat → Int) (told : Nat) : Nat → Nat
  | 0 => told
  | n + 1 => if mst T n < T n then n else bst T told n
theorem mst_nn {T : Nat → Int} : ∀ n, 0 ≤ mst T n
  | 0 => Int.le_refl _
  | n + 1 => by
    have := mst_nn (T := T) n
    unfold mst
    split <;> omega
theorem mst_ge {T : Nat → Int} : ∀ {n j : Nat}, j < n → T j ≤ mst T n
  | n + 1, j, h => by
    unfold mst
    by_cases hj : j = n
    · subst hj; split <;> omega
    · have := mst_ge (T := T) (show j < n by omega)
      split <;> omega
theorem bst_or {T : Nat → Int} {told : Nat} : ∀ n, (bst T told n = told ∧ mst T n = 0) ∨ (bst T told n < n ∧ 0 < mst T n ∧ T (bst T told n) = mst T n ∧ ∀ j < bst T told n, T j < mst T n)
  | 0 => .inl ⟨rfl, rfl⟩
  | n + 1 => by
    rw [show bst T told (n + 1) = if mst T n < T n then n else bst T told n from rfl, show mst T (n + 1) = if mst T n < T n then T n else mst T n from rfl]
    by_cases h : mst T n < T n
    · rw [if_pos h, if_pos h]
      refine .inr ⟨by omega, by have := mst_nn (T := T) n; omega, rfl, fun j hj => ?_⟩
      have := mst_ge (T := T) hj
      omega
    · rw [if_neg h, if_neg h]
      rcases bst_or (T := T) (told := told) n with h1 | ⟨h1, h2, h3, h4⟩
      · exact .inl h1
      · exact .inr ⟨by omega, h2, h3, h4⟩
theorem bst_lt {T : Nat → Int} {told n : Nat} (h : told < n) : bst T told n < n := by
  rcases bst_or (T := T) (told := told) n with ⟨h1, _⟩ | ⟨h1, _⟩ <;> omega
theorem mst_mul {T : Nat → Int} (hg : 0 < g) : ∀ n, mst (fun j => (g : Int) * T j) n = (g : Int) * mst T n
  | 0 => by simp [mst]
  | n + 1 => by
    have hgi : (0 : Int) < g := by omega
    unfold mst
    rw [mst_mul hg n]
    by_cases h : mst T n < T n
    · rw [if_pos h, if_pos (Int.mul_lt_mul_of_pos_left h hgi)]
    · rw [if_neg h, if_neg (fun z => h (Int.lt_of_mul_lt_mul_left z (Int.le_of_lt hgi)))]
theorem bst_mul {T : Nat → Int} {told : Nat} (hg : 0 < g) : ∀ n, bst (fun j => (g : Int) * T j) told n = bst T told n
  | 0 => rfl
  | n + 1 => by
    have hgi : (0 : Int) < g := by omega
    unfold bst
    rw [mst_mul hg n, bst_mul hg n]
    by_cases h : mst T n < T n
    · rw [if_pos h, if_pos (Int.mul_lt_mul_of_pos_left h hgi)]
    · rw [if_neg h, if_neg (fun z => h (Int.lt_of_mul_lt_mul_left z (Int.le_of_lt hgi)))]
def bestP (sh : List Nat) (rows : List (List Int)) (ws : List Int) (pl : Nat) : List Nat := (List.range (gN sh pl)).map fun t => bst (gt sh rows ws pl t) t (gN sh pl)
theorem gN_best {t : Nat} (ht : t < gN sh pl) : gN (bestP sh rows ws pl) t = bst (gt sh rows ws pl t) t (gN sh pl) := by
  show ((bestP sh rows ws pl)[t]?).getD 0 = _
  unfold bestP
  rw [List.getElem?_map, List.getElem?_range ht]
  rfl
theorem best_plan_ok (hpl : pl < sh.length) : PlanOk sh pl (bestP sh rows ws pl) := ⟨hpl, by unfold bestP; simp, fun v hv => by
  obtain ⟨t, ht, rfl⟩ := List.mem_map.mp hv
  exact bst_lt (by simpa using ht)⟩
theorem gd_best (hpl : pl < sh.length) : gd sh rows ws pl (bestP sh rows ws pl) = ((List.range (gN sh pl)).map fun t => mst (gt sh rows ws pl t) (gN sh pl)).sum := by
  rw [gd_gt hpl]
  refine sum_same fun t ht => ?_
  have ht : t < gN sh pl := by simpa using ht
  rw [gN_best ht]
  rcases bst_or (T := gt sh rows ws pl t) (told := t) (gN sh pl) with ⟨h1, h2⟩ | ⟨_, _, h3, _⟩
  · rw [h1, h2, gt_self hpl]
  · exact h3
theorem gd_le_best (hp : PlanOk sh pl pn) : gd sh rows ws pl pn ≤ gd sh rows ws pl (bestP sh rows ws pl) := by
  rw [gd_best hp.lt, gd_gt hp.lt]
  refine sum_le2 fun t ht => ?_
  have ht : t < gN sh pl := by simpa using ht
  refine mst_ge ?_
  unfold gN
  rw [List.getElem?_eq_getElem (by rw [hp.len]; exact ht)]
  exact hp.each _ (List.getElem_mem _)
theorem gd_best_nn (hpl : pl < sh.length) : 0 ≤ gd sh rows ws pl (bestP sh rows ws pl) := by
  rw [gd_best hpl]
  exact sum_nonneg fun n hn => by
    obtain ⟨t, _, rfl⟩ := List.mem_map.mp hn
    exact mst_nn _
/-! ### weights times a factor -/
theorem prs_mul (e : ws = ps.map fun n => (g : Int) * n) : prs sh ws = (prs sh ps).map fun x => (x.1, (g : Int) * x.2) := by
  subst e
  show (cellsN sh).zip _ = ((cellsN sh).zip ps).map _
  rw [List.zip_map_right]
  rfl
theorem gt_mul {a b : Nat} (e : ws = ps.map fun n => (g : Int) * n) : gt sh rows ws pl a b = (g : Int) * gt sh rows ps pl a b := by
  unfold gt
  rw [prs_mul e, List.map_map, ← sum_mulc]
  refine sum_same fun x _ => ?_
  show gtF sh rows pl a b (x.1, (g : Int) * x.2) = _
  unfold gtF
  split
  · rw [Int.mul_assoc]
  · rw [Int.mul_zero]
theorem gd_mul (e : ws = ps.map fun n => (g : Int) * n) : gd sh rows ws pl pn = (g : Int) * gd sh rows ps pl pn := by
  unfold gd
  rw [prs_mul e, List.map_map, ← sum_mulc]
  refine sum_same fun x _ => ?_
  show gdF sh rows pl pn (x.1, (g : Int) * x.2) = _
  unfold gdF
  rw [Int.mul_assoc]
theorem best_mul (hg : 0 < g) (e : ws = ps.map fun n => (g : Int) * n) : bestP sh rows ws pl = bestP sh rows ps pl := by
  unfold bestP
  refine List.map_congr_left fun t _ => ?_
  rw [show gt sh rows ws pl t = fun j => (g : Int) * gt sh rows ps pl t j from funext fun j => gt_mul e, bst_mul hg]
theorem sum_g (e : ws = ps.map fun n => (g : Int) * n) : ws.sum = (g : Int) * ps.sum := by
  subst e
  have := sum_mulc (f := fun n : Int => n) (g := (g : Int)) (l := ps)
  simpa using this
theorem gd_bd (hl : ws.length = (cellsN sh).length) (ok : ShapeOk sh) (rok : RowsOk sh rows) (rb : RowsBd rows) (hb : ∀ w ∈ ws, w.natAbs < 2 ^ 1000) (hp : PlanOk sh pl pn) : (gd sh rows ws pl pn).natAbs < 2 ^ 8000 := by
  refine sum_bd (fun n hn => ?_) (by have := cells_le ok; simp [prs]; omega)
  obtain ⟨x, hx, rfl⟩ := List.mem_map.mp hn
  have hc := (List.of_mem_zip hx).1
  have hin := inSh_cells _ hc
  have hv : gN pn (gN x.1 pl) < gN sh pl := by
    have h1 := hin.2 pl hp.lt
    have h2 := hp.len
    show (pn[gN x.1 pl]?).getD 0 < _
    rw [List.getElem?_eq_getElem (by omega)]
    exact hp.each _ (List.getElem_mem _)
  have h1 := pay_bd rok rb (cells_inSh (rp_inSh hin hp.lt hv)) hp.lt
  have h2 := pay_bd rok rb hc hp.lt
  have h3 : (pay sh rows (rp x.1 pl (gN pn (gN x.1 pl))) pl - pay sh rows x.1 pl).natAbs < 2 ^ 201 := by
    have h3 : (2 : Nat) ^ 201 = 2 ^ 200 + 2 ^ 200 := by rw [Nat.pow_succ, Nat.mul_two]
    omega
  exact bd_le (mul_bd (hb _ (List.of_mem_zip hx).2) h3) (by decide)
end
/-! ### one ratio below another -/
theorem rat_lt {a b u : Int} (hu : 0 < u) : (rt a u * rb b u < rt b u * rb a u) ↔ a < b := by
  have hu0 : u ≠ 0 := by omega
  have ga := (gsg_sign (a := a) hu0).1 hu
  have gb := (gsg_sign (a := b) hu0).1 hu
  have e1 : a * u = (rt a u * rb b u) * (gsg a u * gsg b u) := by
    calc a * u = (rt a u * gsg a u) * (rb b u * gsg b u) := by rw [rt_mul, rb_mul]
      _ = _ := by rw [Int.mul_assoc, Int.mul_assoc, Int.mul_left_comm (gsg a u) (rb b u)]
  have e2 : b * u = (rt b u * rb a u) * (gsg a u * gsg b u) := by
    calc b * u = (rt b u * gsg b u) * (rb a u * gsg a u) := by rw [rt_mul, rb_mul]
      _ = _ := by rw [Int.mul_assoc, Int.mul_assoc, Int.mul_left_comm (gsg b u) (rb a u), Int.mul_comm (gsg b u)]
  have hgg : 0 < gsg a u * gsg b u := Int.mul_pos ga gb
  constructor
  · intro h
    have := Int.mul_lt_mul_of_pos_right h hgg
    rw [← e1, ← e2] at this
    exact Int.lt_of_mul_lt_mul_right this (Int.le_of_lt hu)
  · intro h
    have := Int.mul_lt_mul_of_pos_right h hu
    rw [e1, e2] at this
    exact Int.lt_of_mul_lt_mul_right this (Int.le_of_lt hgg)
theorem ratD_zero {u : Int} (hu : 0 < u) : ratD 0 u = .tup [.int 0, .int 1] := by
  have e : ratD 0 u = ratD 0 1 := by
    obtain ⟨g, rfl⟩ : ∃ g : Nat, u = g := ⟨u.toNat, by omega⟩
    have := ratD_scale (g := g) (by omega) (a := 0) (b := 1)
    simpa using this
  rw [e]
  rfl
end LW
set_option Elab.async false
set_option linter.all false
set_option maxRecDepth 100000
set_option maxHeartbeats 2000000
namespace LW
open PySem L2 AM
/-! ### bets -/
def betsAt (p n : Nat) : List (Nat × Nat × Nat) := (List.range n).flatMap fun t => ((List.range n).filter fun o => decide (t ≠ o)).map fun o => (p, t, o)
def betsN (sh : List Nat) : List (Nat × Nat × Nat) := (List.range sh.length).flatMap fun p => betsAt p (gN sh p)
def betD (b : Nat × Nat × Nat) : D := .tup [.int (b.1 : Int), .int (b.2.1 : Int), .int (b.2.2 : Int)]
theorem mem_bets {sh : List Nat} {b : Nat × Nat × Nat} (h : b ∈ betsN sh) : b.1 < sh.length ∧ b.2.1 < gN sh b.1 ∧ b.2.2 < gN sh b.1 ∧ b.2.1 ≠ b.2.2 := by
  obtain ⟨p, hp, h1⟩ := List.mem_flatMap.mp h
  obtain ⟨t, ht, h2⟩ := List.mem_flatMap.mp h1
  obtain ⟨o, ho, rfl⟩ := List.mem_map.mp h2
  rw [List.mem_filter] at ho
  exact ⟨by simpa using hp, by simpa using ht, by simpa using ho.1, by simpa using ho.2⟩
theorem betsAt_len {p n : Nat} (h : n ≤ 4) : (betsAt p n).length ≤ 16 := by
  unfold betsAt
  rw [List.length_flatMap]
  have : n = 0 ∨ n = 1 ∨ n = 2 ∨ n = 3 ∨ n = 4 := by omega
  rcases this with rfl | rfl | rfl | rfl | rfl <;> simp <;> decide
/-- the balances of a bet -/
def bal (sh : List Nat) (rows : List (List Int)) (b : Nat × Nat × Nat) : List Int := (cellsN sh).map fun c => if gN c b.1 = b.2.1 then pay sh rows c b.1 - pay sh rows (rp c b.1 b.2.2) b.1 else 0
def wg (a b : List Int) : Int := ((a.zip b).map fun x => x.1 * x.2).sum
theorem wg_bal {sh : List Nat} {rows : List (List Int)} {ws : List Int} {b : Nat × Nat × Nat} : wg (bal sh rows b) ws = - gt sh rows ws b.1 b.2.1 b.2.2 := by
  unfold wg bal gt
  rw [List.zip_map_left, List.map_map]
  have : ∀ l : List (List Nat × Int), (l.map ((fun x => x.1 * x.2) ∘ Prod.map (fun c => if gN c b.1 = b.2.1 then pay sh rows c b.1 - pay sh rows (rp c b.1 b.2.2) b.1 else 0) id)).sum = - (l.map (gtF sh rows b.1 b.2.1 b.2.2)).sum := by
    intro l
    induction l with
    | nil => rfl
    | cons x l ih =>
      rw [List.map_cons, List.map_cons, List.sum_cons, List.sum_cons, ih]
      have : ((fun x : Int × Int => x.1 * x.2) ∘ Prod.map (fun c => if gN c b.1 = b.2.1 then pay sh rows c b.1 - pay sh rows (rp c b.1 b.2.2) b.1 else 0) id) x = - gtF sh rows b.1 b.2.1 b.2.2 x := by
        show (if gN x.1 b.1 = b.2.1 then pay sh rows x.1 b.1 - pay sh rows (rp x.1 b.1 b.2.2) b.1 else 0) * x.2 = _
        unfold gtF
        split
        · rw [← Int.mul_neg, Int.neg_sub, Int.mul_comm]
        · simp
      rw [this]
      omega
  exact this _
/-- the bets that tempt -/
def temptN (sh : List Nat) (rows : List (List Int)) (ps : List Int) : List (Nat × Nat × Nat) := (betsN sh).filter fun b => decide (0 < gt sh rows ps b.1 b.2.1 b.2.2)
theorem tempt_mul {sh : List Nat} {rows : List (List Int)} {ws ps : List Int} {g : Nat} (hg : 0 < g) (e : ws = ps.map fun n => (g : Int) * n) : temptN sh rows ws = temptN sh rows ps := by
  unfold temptN
  refine List.filter_congr fun b _ => ?_
  rw [gt_mul e, decide_eq_decide]
  have hgi : (0 : Int) < g := by omega
  constructor
  · intro h
    by_cases hz : 0 < gt sh rows ps b.1 b.2.1 b.2.2
    · exact hz
    · have := Int.mul_le_mul_of_nonneg_left (show gt sh rows ps b.1 b.2.1 b.2.2 ≤ 0 by omega) (Int.le_of_lt hgi)
      rw [Int.mul_zero] at this
      omega
  · exact fun h => Int.mul_pos hgi h
end LW
set_option Elab.async false
set_option linter.all false
set_option maxRecDepth 100000
set_option maxHeartbeats 2000000
namespace LW
open PySem L2 AM
section
variable {st : S} {q : Rs → S → Prop} {er : QX} {d e : D} {sh sh2 pn : List Nat} {rows : List (List Int)} {ws ps : List Int} {pl : Nat}
theorem betsTo_succ {p : Nat} : ((List.range (p + 1)).flatMap fun p => betsAt p (gN sh p)) = ((List.range p).flatMap fun p => betsAt p (gN sh p)) ++ betsAt p (gN sh p) := by
  rw [List.range_succ, List.flatMap_append]
  simp
theorem betsTo_len {p : Nat} (hl3 : sh.length ≤ 3) (hb : ∀ n ∈ sh, n ≤ 4) (hp : p ≤ 3) : ((List.range p).flatMap fun p => betsAt p (gN sh p)).length ≤ 48 := by
  have h : ∀ i, (betsAt i (gN sh i)).length ≤ 16 := fun i => betsAt_len (by
    unfold gN
    by_cases hi : i < sh.length
    · rw [List.getElem?_eq_getElem hi]; exact hb _ (List.getElem_mem _)
    · rw [List.getElem?_eq_none (by omega)]; simp)
  have h0 := h 0
  have h1 := h 1
  have h2 := h 2
  have : p = 0 ∨ p = 1 ∨ p = 2 ∨ p = 3 := by omega
  rcases this with rfl | rfl | rfl | rfl
  · simp
  · rw [betsTo_succ, List.length_append]; simp; omega
  · rw [betsTo_succ, List.length_append, betsTo_succ, List.length_append]; simp; omega
  · rw [betsTo_succ, List.length_append, betsTo_succ, List.length_append, betsTo_succ, List.length_append]; simp; omega
theorem ltL_bets {k : Nat} {l : List (Nat × Nat × Nat)} : ltL k (l.map betD) := by
  induction l with
  | nil => trivial
  | cons x l ih => exact ⟨by unfold betD; simp [D.lt, ltL], ih⟩
theorem flat_len {α : Type} {f : Nat → List α} {k : Nat} (h : ∀ t, (f t).length ≤ k) : ∀ a : Nat, ((List.range a).flatMap f).length ≤ a * k
  | 0 => by simp
  | a + 1 => by
    rw [List.range_succ, List.flatMap_append, List.length_append, Nat.succ_mul]
    have h1 := flat_len h a
    have h2 := h a
    simp only [List.flatMap_cons, List.flatMap_nil, List.append_nil]
    omega
end
end LW
set_option Elab.async false
set_option linter.all false
set_option maxRecDepth 100000
set_option maxHeartbeats 2000000
namespace LW
open PySem L2 AM
theorem shp_two {s : Str} {d : D} (hs : PyData.strOk s = true) (hd : d.plain = true) (hk : d.dep = 0) : (D.lst [.str s, d]).shp := by
  refine ⟨?_, ?_⟩
  · simp [D.plain, D.plains, hs, hd]
  · simp [D.dep, D.deps, hk]
section
variable {st : S} {q : Rs → S → Prop} {er : QX} {d e : D} {sh sh2 pn : List Nat} {rows : List (List Int)} {ws ps : List Int} {pl : Nat} {b : Nat × Nat × Nat}
theorem ix_cD {c : List Nat} {i : Nat} {q : D → Prop} (h : i < c.length) : oIxA (cD c) (.int i) q = q (.int (gN c i : Nat)) := by
  unfold cD
  rw [ev_oIxA_tup, atI_iN h]
  simp
theorem tempt_len (hp : POk sh ps) : (temptN sh rows ps).length ≤ 48 := Nat.le_trans (List.length_filter_le _ _) (betsTo_len hp.ok.l3 (fun n hn => (hp.ok.each n hn).2) hp.ok.l3)
theorem shp_bets {l : List (Nat × Nat × Nat)} : (D.lst (l.map betD)).shp := by
  refine ⟨?_, ?_⟩
  · unfold D.plain; exact plains_of fun x hx => by obtain ⟨i, _, rfl⟩ := List.mem_map.mp hx; unfold betD; simp [D.plain, D.plains]
  · unfold D.dep
    have := deps_of (k := 1) (l := l.map betD) fun x hx => by obtain ⟨i, _, rfl⟩ := List.mem_map.mp hx; unfold betD; simp [D.dep, D.deps]
    omega
theorem eq_nil_bets {l : List (Nat × Nat × Nat)} {q : D → Prop} : oEq (.lst (l.map betD)) (.lst []) q = q (.bl (decide (l = []))) := by
  unfold oEq
  cases l with
  | nil => rw [show D.eqv (.lst (([] : List (Nat × Nat × Nat)).map betD)) (.lst []) = true from eqv_refl _ (shp_bets (l := [])).1]; simp [shp_bets (l := []), show (D.lst []).shp from shp_bets (l := [])]
  | cons x l =>
    rw [show D.eqv (.lst ((x :: l).map betD)) (.lst []) = false from by simp [D.eqv, D.eqvs]]
    simp [shp_bets (l := x :: l), show (D.lst []).shp from shp_bets (l := [])]
    exact fun _ => shp_bets (l := x :: l)
end
end LW
set_option Elab.async false
set_option linter.all false
set_option maxRecDepth 100000
set_option maxHeartbeats 2000000
namespace LW
open PySem L2 AM
/-! ### means -/
theorem zipD_ints : ∀ {a b : List Int}, zipD (iD a) (iD b) = (a.zip b).map fun x => D.tup [.int x.1, .int x.2]
  | [], _ => by simp [zipD]
  | _ :: _, [] => by simp [zipD]
  | x :: xs, y :: ys => by
    have := zipD_ints (a := xs) (b := ys)
    simp [zipD] at this ⊢
    exact this
theorem shp_rat {a b : Int} : (ratD a b).shp := by
  refine ⟨?_, ?_⟩
  · unfold ratD; simp [D.plain, D.plains]
  · unfold ratD; simp [D.dep, D.deps]
theorem vw_rat {st : S} {a b : Int} : vw st (ratD a b) = ratD a b := rfl
theorem ne_rat {a b : Int} {q : D → Prop} : oNe (ratD a b) (ratD a b) q = q (.bl false) := ne_self shp_rat
theorem wg_mul {ws ps ns : List Int} {g : Nat} (e : ws = ps.map fun n => (g : Int) * n) : wg ws ns = (g : Int) * wg ps ns := by
  subst e
  unfold wg
  induction ps generalizing ns with
  | nil => simp
  | cons p ps ih =>
    cases ns with
    | nil => simp
    | cons n ns => simp only [List.map_cons, List.zip_cons_cons, List.sum_cons, ih, Int.mul_add, Int.mul_assoc]
theorem sum_mulg {ws ps : List Int} {g : Nat} (e : ws = ps.map fun n => (g : Int) * n) : ws.sum = (g : Int) * ps.sum := by rw [e]; exact sum_scale (g : Int) ps
theorem wgr_mul {ws ps ns : List Int} {g : Nat} (hg : 0 < g) (e : ws = ps.map fun n => (g : Int) * n) : ratD (wg ws ns) ws.sum = ratD (wg ps ns) ps.sum := by
  rw [wg_mul e, sum_mulg e, ratD_scale hg]
/-- the column of a player -/
def colR (rows : List (List Int)) (pl : Nat) : List Int := rows.map fun r => (r[pl]?).getD 0
theorem pay_col {sh : List Nat} {rows : List (List Int)} {pl : Nat} (rok : RowsOk sh rows) : (cellsN sh).map (fun c => pay sh rows c pl) = colR rows pl := by
  unfold colR pay payR
  have hl := rok.len
  have nd := cellsN_nodup (sh := sh)
  generalize cellsN sh = cs at hl nd
  clear rok
  induction cs generalizing rows with
  | nil =>
    cases rows with
    | nil => rfl
    | cons => simp at hl
  | cons c cs ih =>
    cases rows with
    | nil => simp at hl
    | cons r rs =>
      rw [List.nodup_cons] at nd
      have := ih (rows := rs) (by simpa using hl) nd.2
      simp only [List.zip_cons_cons, List.map_cons]
      congr 1
      · rw [List.lookup_cons]; simp
      · rw [← this]
        refine List.map_congr_left fun x hx => ?_
        rw [List.lookup_cons, show (x == c) = false from beq_eq_false_iff_ne.mpr fun e => nd.1 (e ▸ hx)]
section
variable {st : S} {q : Rs → S → Prop} {er : QX} {d e : D} {sh sh2 pn : List Nat} {rows : List (List Int)} {ws ps ns : List Int} {pl : Nat}
/-- what is no list of an integer for each cell -/
structure BadNs (st : S) (n : Nat) (d : D) : Prop where
  k : okK (vw st d)
  items : ∀ l, itemsD (vw st d) = some l → l.length ≤ 100 ∧ ∀ x ∈ l, okK (vw st x)
  bad : intsB st d = false ∨ ∃ m, lenD (vw st d) = some m ∧ m ≠ n
end
end LW
set_option Elab.async false
set_option linter.all false
set_option maxRecDepth 100000
set_option maxHeartbeats 2000000
namespace LW
open PySem L2 AM
/-! ### blends: the plain law -/
def bstep (base : Int) (acc : List Int) (x : List Int × Int) : List Int := (acc.zip x.1).map fun y => y.1 + base.fdiv x.1.sum * x.2 * y.2
def blendF (base : Int) (acc : List Int) (L : List (List Int × Int)) : List Int := L.foldl (bstep base) acc
def prodU (As : List (List Int)) : Int := As.foldl (fun b p => b * p.sum) 1
theorem foldl_mul (As : List (List Int)) : ∀ b : Int, As.foldl (fun b p => b * p.sum) b = b * prodU As := by
  unfold prodU
  induction As with
  | nil => intro b; simp
  | cons p As ih =>
    intro b
    rw [List.foldl_cons, List.foldl_cons, ih, ih (1 * p.sum)]
    rw [Int.one_mul, Int.mul_assoc]
theorem prodU_cons {p : List Int} {As : List (List Int)} : prodU (p :: As) = p.sum * prodU As := by
  show As.foldl (fun b p => b * p.sum) (1 * p.sum) = _
  rw [foldl_mul, Int.one_mul]
theorem prodU_dvd : ∀ {As : List (List Int)} {p : List Int}, p ∈ As → p.sum ∣ prodU As
  | [], _, h => by cases h
  | a :: As, p, h => by
    rw [prodU_cons]
    rcases List.mem_cons.mp h with rfl | h
    · exact Int.dvd_mul_right _ _
    · exact Int.dvd_trans (prodU_dvd h) (Int.dvd_mul_left _ _)
theorem prodU_pos : ∀ {As : List (List Int)}, (∀ p ∈ As, 0 < p.sum) → 0 < prodU As
  | [], _ => by decide
  | a :: As, h => by
    rw [prodU_cons]
    exact Int.mul_pos (h a (by simp)) (prodU_pos fun p hp => h p (by simp [hp]))
theorem prodU_bd : ∀ {As : List (List Int)}, (∀ p ∈ As, p.sum.natAbs < 2 ^ 100) → (prodU As).natAbs < 2 ^ (100 * As.length + 1)
  | [], _ => by decide
  | a :: As, h => by
    rw [prodU_cons]
    have := mul_bd (h a (by simp)) (prodU_bd (As := As) fun p hp => h p (by simp [hp]))
    exact bd_le this (by simp; omega)
theorem bstep_len {base : Int} {acc : List Int} {x : List Int × Int} (h : x.1.length = acc.length) : (bstep base acc x).length = acc.length := by unfold bstep; simp [h]
theorem bstep_sum {base : Int} : ∀ {acc p : List Int} {s : Int}, p.length = acc.length → ∀ f : Int, ((acc.zip p).map fun y => y.1 + f * y.2).sum = acc.sum + f * p.sum
  | [], [], _, _, f => by simp
  | [], _ :: _, _, h, _ => by simp at h
  | _ :: _, [], _, h, _ => by simp at h
  | a :: acc, x :: p, s, h, f => by
    have := bstep_sum (base := base) (acc := acc) (p := p) (s := s) (by simpa using h) f
    simp only [List.zip_cons_cons, List.map_cons, List.sum_cons, this, Int.mul_add]
    omega
/-- all that is asked of the parts -/
structure LOk (base : Int) (n : Nat) (L : List (List Int × Int)) : Prop where
  len : ∀ x ∈ L, x.1.length = n
  pos : ∀ x ∈ L, ∀ w ∈ x.1, 0 ≤ w
  up : ∀ x ∈ L, 0 < x.1.sum
  dvd : ∀ x ∈ L, x.1.sum ∣ base
  sh : ∀ x ∈ L, 0 ≤ x.2
theorem LOk.tail {base : Int} {n : Nat} {x : List Int × Int} {L : List (List Int × Int)} (h : LOk base n (x :: L)) : LOk base n L :=
  ⟨fun y hy => h.len y (by simp [hy]), fun y hy => h.pos y (by simp [hy]), fun y hy => h.up y (by simp [hy]), fun y hy => h.dvd y (by simp [hy]), fun y hy => h.sh y (by simp [hy])⟩
theorem blend_len {base : Int} {n : Nat} : ∀ {L : List (List Int × Int)} {acc : List Int}, LOk base n L → acc.length = n → (blendF base acc L).length = n
  | [], acc, _, ha => ha
  | x :: L, acc, h, ha => blend_len (L := L) (acc := bstep base acc x) h.tail (by rw [bstep_len (by rw [h.len x (by simp), ha]), ha])
theorem blend_sum {base : Int} {n : Nat} : ∀ {L : List (List Int × Int)} {acc : List Int}, LOk base n L → acc.length = n → (blendF base acc L).sum = acc.sum + base * (L.map (·.2)).sum
  | [], acc, _, ha => by simp [blendF]
  | x :: L, acc, h, ha => by
    have hl : x.1.length = acc.length := by rw [h.len x (by simp), ha]
    show (blendF base (bstep base acc x) L).sum = _
    rw [blend_sum (L := L) h.tail (by rw [bstep_len hl, ha])]
    unfold bstep
    rw [bstep_sum (base := base) (s := 0) hl]
    have hd := Int.fdiv_mul_cancel (h.dvd x (by simp))
    have : base.fdiv x.1.sum * x.2 * x.1.sum = base * x.2 := by
      rw [Int.mul_assoc, Int.mul_comm x.2, ← Int.mul_assoc, hd]
    rw [this, List.map_cons, List.sum_cons, Int.mul_add]
    omega
theorem blend_nonneg {base : Int} {n : Nat} (hb : 0 ≤ base) : ∀ {L : List (List Int × Int)} {acc : List Int}, LOk base n L → (∀ w ∈ acc, 0 ≤ w) → ∀ w ∈ blendF base acc L, 0 ≤ w
  | [], acc, _, ha => ha
  | x :: L, acc, h, ha => by
    refine blend_nonneg hb (L := L) (acc := bstep base acc x) h.tail fun w hw => ?_
    obtain ⟨y, hy, rfl⟩ := List.mem_map.mp hw
    have h1 := ha _ (List.of_mem_zip hy).1
    have h2 := h.pos x (by simp) _ (List.of_mem_zip hy).2
    have h3 : 0 ≤ base.fdiv x.1.sum := Int.fdiv_nonneg hb (Int.le_of_lt (h.up x (by simp)))
    exact Int.add_nonneg h1 (Int.mul_nonneg (Int.mul_nonneg h3 (h.sh x (by simp))) h2)
/-- multiples of the parts: the same blend -/
theorem blend_mul {base G : Int} {n : Nat} (hG : 0 < G) : ∀ {L : List (List Int × Int)} {gs : List Int} {acc : List Int}, gs.length = L.length → (∀ g ∈ gs, 0 < g ∧ g ∣ G) → LOk base n L →
    blendF (G * base) (acc.map fun w => G * w) ((gs.zip L).map fun y => (y.2.1.map fun w => y.1 * w, y.2.2)) = (blendF base acc L).map fun w => G * w
  | [], [], acc, _, _, _ => rfl
  | [], _ :: _, _, h, _, _ => by simp at h
  | _ :: _, [], _, h, _, _ => by simp at h
  | x :: L, g :: gs, acc, h, hg, hL => by
    have h1 := hg g (by simp)
    have ih := blend_mul (base := base) (n := n) hG (L := L) (gs := gs) (acc := bstep base acc x) (by simpa using h) (fun y hy => hg y (by simp [hy])) hL.tail
    show blendF (G * base) (bstep (G * base) (acc.map fun w => G * w) (x.1.map fun w => g * w, x.2)) _ = (blendF base (bstep base acc x) L).map _
    rw [← ih]
    congr 1
    unfold bstep
    rw [List.map_map]
    obtain ⟨G', hG'⟩ := h1.2
    obtain ⟨b, hb⟩ := hL.dvd x (by simp)
    have hu := hL.up x (by simp)
    have es : (x.1.map fun w => g * w).sum = g * x.1.sum := sum_scale g x.1
    have e1 : (G * base).fdiv ((x.1.map fun w => g * w).sum) = G' * b := by
      rw [es, hG', hb, show g * G' * (x.1.sum * b) = g * (x.1.sum) * (G' * b) from by rw [Int.mul_assoc, Int.mul_assoc, Int.mul_left_comm G']]
      exact Int.mul_fdiv_cancel_left _ (Int.ne_of_gt (Int.mul_pos h1.1 hu))
    have e2 : base.fdiv x.1.sum = b := by rw [hb]; exact Int.mul_fdiv_cancel_left _ (Int.ne_of_gt hu)
    rw [e1, e2, List.zip_map, List.map_map]
    refine List.map_congr_left fun y _ => ?_
    simp only [Function.comp_def, Prod.map]
    rw [Int.mul_add, hG']
    congr 1
    grind
end LW
set_option Elab.async false
set_option linter.all false
set_option maxRecDepth 100000
set_option maxHeartbeats 2000000
namespace LW
open PySem L2 AM
/-! ### blended -/
section
variable {st : S} {q : Rs → S → Prop} {er : QX} {d e : D} {sh sh2 pn : List Nat} {rows : List (List Int)} {ws ps ns : List Int} {pl : Nat}
theorem ints_of_all : ∀ {hs : List D}, hs.all isIntB = true → ∃ ns : List Int, hs = iD ns
  | [], _ => ⟨[], rfl⟩
  | x :: hs, h => by
    rw [List.all_cons, Bool.and_eq_true] at h
    obtain ⟨ns, rfl⟩ := ints_of_all h.2
    cases x with
    | int i => exact ⟨i :: ns, rfl⟩
    | _ => cases h.1
theorem is_mix_any {n : Nat} {hs : List D} (hd : itemsD (vw st d) = some hs) (hk : ∀ x ∈ hs, okK x) (hl : hs.length ≤ 100) (h1 : hs.all isIntB = false → q (.d (.bl false)) st) (h2 : ∀ ns, hs = iD ns → q (.d (.bl (decide (ns.length = n) && (ns.all (fun w => decide (0 ≤ w)) && decide (0 < ns.sum))))) st) : m_is_mix [d, .int n] st q er := by
  refine ⟨rfl, ?_⟩
  show a_is_mix [.d d, .d (.int n), .no] st _
  unfold a_is_mix
  have hv : vw st d = .lst hs ∨ vw st d = .tup hs := by
    cases hv : vw st d <;> rw [hv] at hd <;> first | (cases hd; simp) | cases hd
  have hi : intsB st d = hs.all isIntB := by
    unfold intsB
    have : hs.all (fun x => isIntB (vw st x)) = hs.all isIntB := by
      rw [Bool.eq_iff_iff, List.all_eq_true, List.all_eq_true]
      exact forall_congr' fun x => forall_congr' fun hx => by rw [vw_okK (hk x hx)]
    rcases hv with hv | hv <;> rw [hv] <;> exact this
  simp [-List.map_map]
  refine are_integers_spec (by rcases hv with hv | hv <;> rw [hv] <;> trivial) (fun l e => ?_) ?_
  · rw [hd] at e
    cases e
    exact ⟨by omega, fun x hx => by rw [vw_okK (hk x hx)]; exact hk x hx⟩
  rw [hi]
  cases ha : hs.all isIntB with
  | false => simp [-List.map_map]; exact h1 ha
  | true =>
    obtain ⟨ns, rfl⟩ := ints_of_all ha
    have h2 := h2 ns rfl
    have hle : lenD (vw st d) = some ns.length := by rw [lenD_items hd]; simp
    simp [-List.map_map, hle]
    by_cases hn : ns.length = n
    · rw [if_pos (by omega)]
      refine ⟨_, hd, ?_⟩
      refine lc_of (G := fun w => .bl (decide (0 ≤ w))) gdOk_of ns (fun w hw P1 P2 hp1 => by simpa using hp1) (by simp at hl ⊢; omega) ?_
      refine ⟨ns.map fun w => decide (0 ≤ w), by simp, ?_⟩
      rw [show (ns.map fun w => decide (0 ≤ w)).all id = ns.all fun w => decide (0 ≤ w) from by rw [List.all_map]; rfl]
      simp only [hn, decide_true, Bool.true_and] at h2
      cases hb : ns.all fun w => decide (0 ≤ w) with
      | false =>
        rw [hb] at h2
        simpa using h2
      | true =>
        rw [hb] at h2
        simp [-List.map_map]
        rcases hv with hv | hv
        · rw [hv]
          simp [-List.map_map]
          refine ⟨ns, rfl, ?_⟩
          simpa using h2
        · rw [hv]
          simp [-List.map_map]
          refine ⟨ns, rfl, ?_⟩
          simpa using h2
    · rw [if_neg (by omega)]
      simpa [hn] using h2
def hA (a : List Nat × List Int) : D := hintD a.1 a.2
/-- hints of one shape, their shares -/
structure BlOk (sh : List Nat) (As : List (List Int)) (ns : List Int) : Prop where
  ok : ShapeOk sh
  ne : As ≠ []
  la : As.length ≤ 30
  each : ∀ p ∈ As, POk sh p
  bd : ∀ p ∈ As, p.sum.natAbs < 2 ^ 100
  len : ns.length = As.length
  pos : ∀ w ∈ ns, 0 ≤ w
  nb : ∀ w ∈ ns, w.natAbs < 2 ^ 50
  sum : 0 < ns.sum
theorem mem_le_sum {ps : List Int} (h : ∀ w ∈ ps, 0 ≤ w) {w : Int} (hw : w ∈ ps) : w ≤ ps.sum := sum_pos_mem h hw
theorem BlOk.lok {As : List (List Int)} (h : BlOk sh As ns) : LOk (prodU As) (cellsN sh).length (As.zip ns) :=
  ⟨fun x hx => (h.each _ (List.of_mem_zip hx).1).len, fun x hx => (h.each _ (List.of_mem_zip hx).1).pos, fun x hx => (h.each _ (List.of_mem_zip hx).1).sum, fun x hx => prodU_dvd (List.of_mem_zip hx).1, fun x hx => h.pos _ (List.of_mem_zip hx).2⟩
def blz (sh : List Nat) : List Int := (cellsN sh).map fun _ => 0
def blend (sh : List Nat) (As : List (List Int)) (ns : List Int) : List Int := blendF (prodU As) (blz sh) (As.zip ns)
theorem blz_sum : (blz sh).sum = 0 := by
  unfold blz
  induction cellsN sh with
  | nil => rfl
  | cons c cs ih => simpa using ih
theorem BlOk.base {As : List (List Int)} (h : BlOk sh As ns) : 0 < prodU As ∧ (prodU As).natAbs < 2 ^ 3001 := ⟨prodU_pos fun p hp => (h.each p hp).sum, bd_le (prodU_bd h.bd) (by have := h.la; omega)⟩
theorem zip_snd_sum {α : Type} : ∀ {a : List α} {b : List Int}, b.length = a.length → ((a.zip b).map (·.2)) = b
  | [], [], _ => rfl
  | [], _ :: _, h => by simp at h
  | _ :: _, [], h => by simp at h
  | x :: a, y :: b, h => by simp [zip_snd_sum (a := a) (b := b) (by simpa using h)]
theorem BlOk.mix {As : List (List Int)} (h : BlOk sh As ns) : MixOk' sh (blend sh As ns) := by
  have hb := h.base
  have hl : (blz sh).length = (cellsN sh).length := by simp [blz]
  have hnn : ∀ w ∈ blend sh As ns, 0 ≤ w := blend_nonneg (Int.le_of_lt hb.1) h.lok (fun w hw => by obtain ⟨_, _, rfl⟩ := List.mem_map.mp hw; decide)
  have hs : (blend sh As ns).sum = prodU As * ns.sum := by
    unfold blend
    rw [blend_sum h.lok hl, blz_sum, zip_snd_sum h.len]; omega
  refine ⟨blend_len h.lok hl, hnn, by rw [hs]; exact Int.mul_pos hb.1 h.sum, fun w hw => ?_⟩
  have h1 := mem_le_sum hnn hw
  have h2 := hnn w hw
  have h3 : ns.sum.natAbs < 2 ^ 60 := by
    have := abs_sum (B := 2 ^ 50) fun n hn => Nat.le_of_lt (h.nb n hn)
    have hle := h.len
    have hla := h.la
    have : ns.length * 2 ^ 50 ≤ 30 * 2 ^ 50 := Nat.mul_le_mul_right _ (by omega)
    have : 30 * 2 ^ 50 < 2 ^ 60 := by decide
    omega
  have h4 := mul_bd hb.2 h3
  rw [← hs] at h4
  have h5 : w.natAbs ≤ (blend sh As ns).sum.natAbs := by omega
  exact Nat.lt_of_le_of_lt h5 (Nat.lt_of_lt_of_le h4 (Nat.pow_le_pow_right (by decide) (by decide)))
end
end LW
set_option Elab.async false
set_option linter.all false
set_option maxRecDepth 100000
set_option maxHeartbeats 2000000
namespace LW
open PySem L2 AM
section
variable {st : S} {q : Rs → S → Prop} {er : QX} {d e : D} {sh sh2 pn : List Nat} {rows : List (List Int)} {ws ps ns : List Int} {pl : Nat}
theorem iD_inj {a b : List Int} (h : iD a = iD b) : a = b := by
  have := congrArg (List.map fun x => match x with | D.int i => i | _ => 0) h
  simpa [iD, Function.comp_def] using this
theorem is_mix_ok {n : Nat} (he : isInts st e ns) (hl : ns.length ≤ 100) (hn : ns.length = n) (hpos : ∀ w ∈ ns, 0 ≤ w) (hsum : 0 < ns.sum) (h : q (.d (.bl true)) st) : m_is_mix [e, .int n] st q er := by
  refine is_mix_any (hs := iD ns) he (fun x hx => by obtain ⟨_, _, rfl⟩ := List.mem_map.mp hx; trivial) (by simpa using hl) (fun z => ?_) (fun ms hm => ?_)
  · exfalso
    rw [List.all_eq_false] at z
    obtain ⟨x, hx, hz⟩ := z
    obtain ⟨_, _, rfl⟩ := List.mem_map.mp hx
    exact hz rfl
  · have := iD_inj hm
    subst this
    rw [show (decide (ns.length = n) && (ns.all (fun w => decide (0 ≤ w)) && decide (0 < ns.sum))) = true from by
      rw [decide_eq_true hn, decide_eq_true hsum, show ns.all (fun w => decide (0 ≤ w)) = true from List.all_eq_true.mpr fun w hw => decide_eq_true (hpos w hw)]; rfl]
    exact h
theorem zipD_hs {As : List (List Int)} {ns : List Int} : zipD (As.map fun p => hintD sh p) (iD ns) = (As.zip ns).map fun x => D.tup [hintD sh x.1, .int x.2] := by
  induction As generalizing ns with
  | nil => simp [zipD]
  | cons a As ih =>
    cases ns with
    | nil => simp [zipD]
    | cons n ns =>
      have := ih (ns := ns)
      simp [zipD] at this ⊢
      exact this
end
end LW
set_option Elab.async false
set_option linter.all false
set_option maxRecDepth 100000
set_option maxHeartbeats 2000000
namespace LW
open PySem L2 AM
/-! ### values that are no cells, hints that are refused, == -/
def inB : D → Nat → Bool
  | .int i, n => decide (0 ≤ i) && decide (i < (n : Int))
  | _, _ => false
def cellB (sh : List Nat) : D → Bool
  | .tup l => decide (l.length = sh.length) && (l.all isIntB && (l.zip sh).all fun p => inB p.1 p.2)
  | _ => false
theorem mem_ext {α : Type} {b : Bool} {l : List α} {f : α → Bool} (h : ∀ x ∈ l, f x = b) : l.map f = l.map fun _ => b := List.map_congr_left h
section
variable {st : S} {q : Rs → S → Prop} {er : QX} {d e : D} {sh sh2 : List Nat} {ws ps ps2 : List Int} {rows : List (List Int)} {n : Nat} {p : D → S → Prop}
theorem is_cell_any (hk : okK d) (hi : ∀ l, d = .tup l → l.length ≤ 100 ∧ ∀ x ∈ l, okK x) (hl : sh.length ≤ 100) (h : q (.d (.bl (cellB sh d))) st) : m_is_cell [shT sh, d] st q er := by
  refine ⟨rfl, ?_⟩
  show a_is_cell [.d (shT sh), .d d, .no, .no] st _
  unfold a_is_cell
  cases d with
  | tup l =>
    obtain ⟨h1, h2⟩ := hi l rfl
    simp [-List.map_map]
    by_cases hle : l.length = sh.length
    · simp [-List.map_map, hle]
      refine are_integers_spec (by trivial) (fun l' e => ?_) ?_
      · cases e
        exact ⟨by omega, fun x hx => by rw [vw_okK (h2 x hx)]; exact h2 x hx⟩
      have e1 : intsB st (.tup l) = l.all isIntB := by
        show l.all (fun x => isIntB (vw st x)) = _
        rw [Bool.eq_iff_iff, List.all_eq_true, List.all_eq_true]
        exact forall_congr' fun x => forall_congr' fun hx => by rw [vw_okK (h2 x hx)]
      rw [e1]
      rw [show cellB sh (.tup l) = (decide (l.length = sh.length) && (l.all isIntB && (l.zip sh).all fun p => inB p.1 p.2)) from rfl, decide_eq_true hle, Bool.true_and] at h
      cases ha : l.all isIntB with
      | false => rw [ha] at h; simp [-List.map_map]; simpa using h
      | true =>
        rw [ha, Bool.true_and] at h
        obtain ⟨ns, rfl⟩ := ints_of_all ha
        simp [-List.map_map]
        rw [show zipD (iD ns) (iD (iN sh)) = (ns.zip sh).map fun p => .tup [.int p.1, .int (p.2 : Nat)] from by
          unfold zipD
          simp only [iD, iN]
          rw [List.map_map, List.zipWith_map, List.zip, List.map_zipWith]
          rfl]
        refine lc_of (α := Int × Nat) (G := fun p => .bl (inB (.int p.1) p.2)) (by simp) _ (fun x hx P1 P2 hp1 => ?_) (by simp at hle ⊢; omega) ?_
        · unfold inB at hp1
          by_cases h0 : 0 ≤ x.1
          · simp [h0] at hp1 ⊢
            exact hp1
          · simp [h0] at hp1 ⊢
            exact hp1
        refine ⟨(ns.zip sh).map fun p => inB (.int p.1) p.2, by simp, ?_⟩
        rw [show ((ns.zip sh).map fun p => inB (.int p.1) p.2).all id = ((iD ns).zip sh).all fun p => inB p.1 p.2 from by
          rw [List.all_map, show (iD ns).zip sh = (ns.zip sh).map fun p => (D.int p.1, p.2) from by rw [List.zip_map_left]; rfl, List.all_map]
          rfl]
        exact h
    · have : ¬ ((l.length : Int) = (sh.length : Int)) := by omega
      simp [-List.map_map, this]
      rw [show cellB sh (.tup l) = (decide (l.length = sh.length) && (l.all isIntB && (l.zip sh).all fun p => inB p.1 p.2)) from rfl, decide_eq_false hle] at h
      exact h
  | _ => first | exact hk.elim | (simp [-List.map_map]; exact h)
/-- the weights are none -/
theorem is_mix_no {n : Nat} (hk : okK (vw st d)) (hi : itemsD (vw st d) = none) (h : q (.d (.bl false)) st) : m_is_mix [d, .int n] st q er := by
  refine ⟨rfl, ?_⟩
  show a_is_mix [.d d, .d (.int n), .no] st _
  unfold a_is_mix
  simp [-List.map_map]
  refine are_integers_spec hk (fun l e => by rw [hi] at e; cases e) ?_
  have : intsB st d = false := by
    unfold intsB
    cases hv : vw st d <;> rw [hv] at hi <;> first | rfl | cases hi
  rw [this]
  simp [-List.map_map]
  exact h
/-- what Hint asks of its weights -/
def mixB (n : Nat) : D → Bool := fun v => match itemsD v with
  | some hs => hs.all isIntB && (decide (hs.length = n) && ((hs.all fun x => decide (0 ≤ intOf x)) && decide (0 < (hs.map intOf).sum)))
  | none => false
where intOf : D → Int
  | .int i => i
  | _ => 0
theorem is_mix_B {n : Nat} (hk : okK (vw st d)) (hi : ∀ l, itemsD (vw st d) = some l → l.length ≤ 100 ∧ ∀ x ∈ l, okK x) (h : q (.d (.bl (mixB n (vw st d)))) st) : m_is_mix [d, .int n] st q er := by
  unfold mixB at h
  cases hv : itemsD (vw st d) with
  | none => rw [hv] at h; exact is_mix_no hk hv h
  | some hs =>
    rw [hv] at h
    obtain ⟨h1, h2⟩ := hi hs hv
    refine is_mix_any hv h2 h1 (fun z => ?_) fun ns e => ?_
    · simp [z] at h
      exact h
    · subst e
      have e1 : (iD ns).all isIntB = true := by rw [List.all_eq_true]; intro x hx; obtain ⟨i, _, rfl⟩ := List.mem_map.mp hx; rfl
      have e2 : (iD ns).map mixB.intOf = ns := by rw [List.map_map]; exact List.map_id'' (fun _ => rfl) ns
      have e3 : ((iD ns).all fun x => decide (0 ≤ mixB.intOf x)) = ns.all fun w => decide (0 ≤ w) := by rw [List.all_map]; rfl
      simp only [e1, e2, e3, List.length_map, Bool.true_and] at h
      exact h
theorem hint_init_shape (hn : st[n]? = some (.obj "Hint" [])) (hk : okK (vw st d)) (hi : ∀ l, itemsD (vw st d) = some l → l.length ≤ 1000 ∧ ∀ x ∈ l, okK (vw st x)) (hb : intsB st d = false ∨ ∃ ns, isInts st d ns ∧ shapeB ns = false) (h : er ⟨"BadShape", none⟩ st) : m_Hint___init__ [.ref n, d, e] st q er := by
  refine ⟨rfl, ?_⟩
  show a_Hint___init__ [.d (.ref n), .d d, .d e] st _
  unfold a_Hint___init__
  simp [-List.map_map]
  exact checked_bad hk hi hb h
theorem hint_init_B (hn : st[n]? = some (.obj "Hint" [])) (hs : isInts st d (iN sh)) (ok : ShapeOk sh) (hk : ∀ x, okK (vw (st.set n x) e)) (hv : ∀ x, vw (st.set n x) e = vw st e) (hi : ∀ l, itemsD (vw st e) = some l → l.length ≤ 100 ∧ ∀ x ∈ l, okK x)
    (h0 : mixB (cellsN sh).length (vw st e) = false → ∀ fs, er ⟨"BadWeights", none⟩ (st.set n (.obj "Hint" fs)))
    (h1 : mixB (cellsN sh).length (vw st e) = true → ∀ ws, itemsD (vw st e) = some (iD ws) → (∀ w ∈ ws, w.natAbs < 2 ^ 8000) ∧ q (.d .non) (st.set n (.obj "Hint" (hintF sh (lowL ws))))) : m_Hint___init__ [.ref n, d, e] st q er := by
  refine ⟨rfl, ?_⟩
  show a_Hint___init__ [.d (.ref n), .d d, .d e] st _
  unfold a_Hint___init__
  have f1 : ∀ {fs : List (Str × D)} {f : Str} {v : D}, fs.lookup f = some v → ∀ {p : D → S → Prop}, fldQ ["Hint"] f p (.ref n) (st.set n (.obj "Hint" fs)) = p v (st.set n (.obj "Hint" fs)) := fun {fs f v} e p => fldQ_of (by rw [vw_refO (set_get hn), fldAt_H]; exact e)
  have hc : (cellsN sh).length ≤ 16 := by rw [cellsN_len]; exact ok.all
  simp [-List.map_map]
  refine checked_shape_spec hs ok ?_
  simp [-List.map_map, hn]
  rw [show putD "shape" (shT sh) [] = hs1 sh from rfl]
  rw [f1 (v := shT sh) rfl]
  refine cells_of_spec (sh := sh) isInts_tup ok.l3 (fun m hm => (ok.each m hm).2) ?_
  simp [-List.map_map, set_get hn]
  rw [show putD "places" (D.lst ((cellsN sh).map cD)) (hs1 sh) = hs2 sh from rfl]
  refine And.intro (by show 1 < 1000; decide) ?_
  rw [f1 (v := placesD sh) rfl]
  simp [-List.map_map, placesD]
  refine is_mix_B (hk _) (fun l e => hi l (by rw [← hv]; exact e)) ?_
  rw [hv]
  cases hb : mixB (cellsN sh).length (vw st e) with
  | false =>
    simp [-List.map_map]
    exact h0 hb _
  | true =>
    have hb' := hb
    unfold mixB at hb'
    cases hit : itemsD (vw st e) with
    | none => rw [hit] at hb'; cases hb'
    | some hs =>
      rw [hit] at hb'
      simp only [Bool.and_eq_true, decide_eq_true_eq] at hb'
      obtain ⟨ws, rfl⟩ := ints_of_all hb'.1
      obtain ⟨hbd, hq⟩ := h1 hb ws hit
      have ml : ws.length = (cellsN sh).length := by simpa using hb'.2.1
      have ie : ∀ x, isInts (st.set n x) e ws := fun x => by unfold isInts; rw [hv]; exact hit
      simp [-List.map_map]
      refine lowest_spec (ie _) (by omega) hbd ?_
      simp [-List.map_map, set_get hn]
      rw [show putD "parts" (D.lst ((lowL ws).map D.int)) (hs2 sh) = hs3 sh (lowL ws) from rfl]
      refine And.intro (by show 2 < 1000; decide) ?_
      rw [f1 (v := .lst (iD (lowL ws))) rfl]
      refine ⟨lowL ws, rfl, ?_⟩
      simp [-List.map_map, set_get hn]
      rw [show putD "unit" (D.int (lowL ws).sum) (hs3 sh (lowL ws)) = hs4 sh (lowL ws) from rfl]
      refine And.intro (by show 3 < 1000; decide) ?_
      rw [f1 (v := placesD sh) rfl, f1 (v := .lst (iD (lowL ws))) rfl]
      simp [-List.map_map, placesD, lowL_len, ml, zip_partOf]
      refine ⟨fun _ _ => cD_key, cD_nodup, ?_⟩
      simp [-List.map_map, set_get hn]
      rw [show putD "part_of" (D.dic (partOf sh (lowL ws))) (hs4 sh (lowL ws)) = hintF sh (lowL ws) from rfl]
      exact And.intro (by show 4 < 1000; decide) hq
@[simp] theorem hq2_shape : fldQ ["Game", "Hint"] "shape" p (hintD sh ps) st = p (shT sh) st := fldQ_of (by unfold hintD; rw [vw_obj]; rfl)
@[simp] theorem hq2_parts : fldQ ["Game", "Hint"] "parts" p (hintD sh ps) st = p (.lst (iD ps)) st := fldQ_of (by unfold hintD; rw [vw_obj]; rfl)
theorem hint_eq_spec (h : q (.d (.bl (decide (sh = sh2 ∧ ps = ps2)))) st) : m_Hint___eq__ [hintD sh ps, hintD sh2 ps2] st q er := by
  refine ⟨rfl, ?_⟩
  show a_Hint___eq__ [.d (hintD sh ps), .d (hintD sh2 ps2)] st _
  unfold a_Hint___eq__
  have hi : ∀ {q : D → Prop}, bIsiO ioT itT [hintD sh2 ps2, .fn "Hint"] q = q (.bl true) := propext ⟨fun ⟨b, e, w⟩ => by cases e; exact w, fun w => ⟨true, rfl, w⟩⟩
  simp [-List.map_map, hi, eq_rT]
  by_cases hs : sh = sh2
  · subst hs
    simp [-List.map_map]
    rw [eq_rL]
    simpa using h
  · have : ¬ iN sh = iN sh2 := by rw [iN_inj]; exact hs
    simp [-List.map_map, this]
    simpa [hs] using h
theorem hint_eq_lst {l : List D} (h : q (.d (.bl false)) st) : m_Hint___eq__ [hintD sh ps, .lst l] st q er := by
  refine ⟨rfl, ?_⟩
  show a_Hint___eq__ [.d (hintD sh ps), .d (.lst l)] st _
  unfold a_Hint___eq__
  have hi : ∀ {q : D → Prop}, bIsiO ioT itT [.lst l, .fn "Hint"] q = q (.bl false) := propext ⟨fun ⟨b, e, w⟩ => by cases e; exact w, fun w => ⟨false, rfl, w⟩⟩
  simp [-List.map_map, hi]
  exact h
end
end LW
set_option Elab.async false
set_option linter.all false
set_option maxRecDepth 100000
set_option maxHeartbeats 2000000
namespace LW
open PySem L2 AM
/-! ### bets judged, rows of balances -/
def isBetB (sh : List Nat) (v : D) : Bool := match v with
  | .tup l => l.all isIntB && ((betsN sh).map betD).any fun z => D.eqv z v
  | _ => false
/-- a value that is asked about: plain, its items too -/
structure Asked (v : D) : Prop where
  k : okK v
  shp : v.shp
  len : ∀ l, v = .tup l → l.length ≤ 100
  items : ∀ l, v = .tup l → ∀ x ∈ l, okK x
section
variable {st : S} {q : Rs → S → Prop} {er : QX} {d e : D} {sh sh2 pn : List Nat} {rows : List (List Int)} {ws ps : List Int} {pl : Nat} {b : Nat × Nat × Nat}
theorem game_items : itemsO "Game" "places" (gameD sh rows) = some ((cellsN sh).map cD) := itemsO_obj rfl
theorem asked_bet : Asked (betD b) := ⟨trivial, ⟨rfl, by show (1 : Nat) ≤ 64; decide⟩, fun l e => by cases e; show (3 : Nat) ≤ 100; decide, fun l e x hx => by
  cases e
  simp at hx
  rcases hx with rfl | rfl | rfl <;> trivial⟩
theorem eqv_bet {b b' : Nat × Nat × Nat} : D.eqv (betD b) (betD b') = decide (b = b') := by
  obtain ⟨x, y, z⟩ := b
  obtain ⟨x', y', z'⟩ := b'
  unfold betD
  rw [Bool.eq_iff_iff]
  simp [D.eqv, D.eqvs]
  omega
theorem isBet_in (hb : b ∈ betsN sh) : isBetB sh (betD b) = true := by
  unfold isBetB
  show (List.all [_, _, _] isIntB && List.any _ _) = true
  rw [Bool.and_eq_true]
  refine ⟨rfl, ?_⟩
  rw [List.any_eq_true]
  refine ⟨betD b, List.mem_map.mpr ⟨b, hb, rfl⟩, ?_⟩
  exact eqv_bet.trans (decide_eq_true rfl)
end
end LW
set_option Elab.async false
set_option linter.all false
set_option maxRecDepth 100000
set_option maxHeartbeats 2000000
namespace LW
open PySem L2 AM
section
variable {st : S} {q : Rs → S → Prop} {er : QX} {d e : D} {sh sh2 : List Nat} {ws ps ps2 : List Int} {rows : List (List Int)} {n : Nat} {p : D → S → Prop}
theorem new_hint_B (hs : isInts st d (iN sh)) (ok : ShapeOk sh) (hk : okK (vw st e)) (hi : ∀ l, itemsD (vw st e) = some l → l.length ≤ 100 ∧ ∀ x ∈ l, okK x)
    (h0 : mixB (cellsN sh).length (vw st e) = false → er ⟨"BadWeights", none⟩ st)
    (h1 : mixB (cellsN sh).length (vw st e) = true → ∀ ws, itemsD (vw st e) = some (iD ws) → (∀ w ∈ ws, w.natAbs < 2 ^ 8000) ∧ p (hintD sh (lowL ws)) st) :
    ltL st.length [d, e] → ltS st.length st → m_Hint___init__ [.ref st.length, d, e] (st ++ [.obj "Hint" []]) (newQ "Hint" st.length p) (newX st.length er) := fun l1 l2 => by
  have hd := ltL_mem l1 d (by simp)
  have he := ltL_mem l1 e (by simp)
  have es : ∀ x, (st ++ [C.obj "Hint" []]).set st.length x = st ++ [x] := fun x => by simp
  refine hint_init_B (by simp) (isInts_app hd hs) ok (fun x => by rw [es, vw_app he]; exact hk) (fun x => by rw [es, vw_app he, vw_app he]) (by rw [vw_app he]; exact hi) (fun hb fs => ?_) (fun hb ws hw => ?_)
  · rw [vw_app he] at hb
    rw [es]
    refine ⟨trivial, ?_, ?_⟩
    · rw [List.take_left' rfl]; exact l2
    · rw [List.take_left' rfl]; exact h0 hb
  · rw [vw_app he] at hb hw
    obtain ⟨h2, h3⟩ := h1 hb ws hw
    refine ⟨h2, rfl, hintF sh (lowL ws), ?_, ltF_hint, ?_, ?_⟩
    · simp
    · simpa using l2
    · simp; exact h3
theorem new_hint_shape (hk : okK d) (hi : ∀ l, itemsD d = some l → l.length ≤ 1000 ∧ ∀ x ∈ l, okK x) (hb : intsB st d = false ∨ ∃ ns, isInts st d ns ∧ shapeB ns = false) (h : er ⟨"BadShape", none⟩ st) :
    ltL st.length [d, e] → ltS st.length st → m_Hint___init__ [.ref st.length, d, e] (st ++ [.obj "Hint" []]) (newQ "Hint" st.length p) (newX st.length er) := fun l1 l2 => by
  refine hint_init_shape (by simp) (by rw [vw_okK hk]; exact hk) (fun l hl => ?_) ?_ ?_
  · rw [vw_okK hk] at hl
    obtain ⟨h1, h2⟩ := hi l hl
    exact ⟨h1, fun x hx => by rw [vw_okK (h2 x hx)]; exact h2 x hx⟩
  · rcases hb with hb | ⟨ns, h1, h2⟩
    · left
      rw [← hb]
      unfold intsB
      rw [vw_okK hk, vw_okK hk]
      cases d <;> try rfl
      all_goals
        rename_i l
        obtain ⟨_, h2⟩ := hi l rfl
        show (l.all fun x => isIntB (vw _ x)) = l.all fun x => isIntB (vw _ x)
        rw [Bool.eq_iff_iff, List.all_eq_true, List.all_eq_true]
        exact forall_congr' fun x => forall_congr' fun hx => by rw [vw_okK (h2 x hx), vw_okK (h2 x hx)]
    · refine .inr ⟨ns, ?_, h2⟩
      unfold isInts at h1 ⊢
      rw [vw_okK hk] at h1 ⊢
      exact h1
  · refine ⟨trivial, ?_, ?_⟩
    · rw [List.take_left' rfl]; exact l2
    · rw [List.take_left' rfl]; exact h
end
structure Flat (x : D) : Prop where
  k : okK x
  p : x.plain = true
  d : x.dep ≤ 1
theorem flat_int {i : Int} : Flat (.int i) := ⟨trivial, rfl, Nat.zero_le _⟩
theorem shp_flat {hs : List D} (h : ∀ x ∈ hs, Flat x) : (D.lst hs).shp := by
  refine ⟨?_, ?_⟩
  · unfold D.plain; exact plains_of fun x hx => (h x hx).p
  · unfold D.dep
    have := deps_of (k := 1) (l := hs) fun x hx => (h x hx).d
    omega
/-! ### what spoils a mix -/
theorem mixB_len {n : Nat} {hs : List D} (h : hs.length ≠ n) : mixB n (.lst hs) = false := by
  show (hs.all isIntB && (decide (hs.length = n) && _)) = false
  rw [decide_eq_false h]
  simp
theorem mixB_mem {n : Nat} {hs : List D} {x : D} (hx : x ∈ hs) (h : isIntB x = false ∨ mixB.intOf x < 0) : mixB n (.lst hs) = false := by
  show (hs.all isIntB && (_ && ((hs.all fun x => decide (0 ≤ mixB.intOf x)) && _))) = false
  rcases h with h | h
  · rw [List.all_eq_false.mpr ⟨x, hx, by rw [h]; simp⟩]; rfl
  · rw [show (hs.all fun x => decide (0 ≤ mixB.intOf x)) = false from List.all_eq_false.mpr ⟨x, hx, by simp; omega⟩]
    simp
theorem mixB_sum {n : Nat} {hs : List D} (h : (hs.map mixB.intOf).sum ≤ 0) : mixB n (.lst hs) = false := by
  show (hs.all isIntB && (_ && (_ && decide (0 < (hs.map mixB.intOf).sum)))) = false
  rw [decide_eq_false (show ¬ 0 < (hs.map mixB.intOf).sum by omega)]
  simp
section
variable {st : S} {q : Rs → S → Prop} {er : QX} {d e : D} {sh sh2 : List Nat} {ws ps ps2 ns : List Int} {rows : List (List Int)} {n m : Nat} {p : D → S → Prop}
end
structure Odd (sh : List Nat) (x : D) : Prop where
  k : okK x
  it : ∀ l, x = .tup l → l.length ≤ 100 ∧ ∀ y ∈ l, okK y
  no : cellB sh x = false
  shp : (D.lst [x]).shp
theorem odd_ints {sh : List Nat} {ns : List Int} (hl : ns.length ≤ 100) (hb : cellB sh (.tup (iD ns)) = false) : Odd sh (.tup (iD ns)) := by
  refine ⟨trivial, fun l e => ?_, hb, ?_⟩
  · cases e
    exact ⟨by simpa using hl, fun y hy => by obtain ⟨i, _, rfl⟩ := List.mem_map.mp hy; trivial⟩
  · refine ⟨?_, ?_⟩
    · unfold D.plain; exact plains_of fun x hx => by rw [List.mem_singleton.mp hx]; exact plain_rT
    · unfold D.dep
      have := deps_of (k := 1) (l := [D.tup (iD ns)]) fun x hx => by rw [List.mem_singleton.mp hx]; exact dep_rT
      omega
theorem cellB_len {sh : List Nat} {l : List D} (h : l.length ≠ sh.length) : cellB sh (.tup l) = false := by
  show (decide (l.length = sh.length) && _) = false
  rw [decide_eq_false h]
  rfl
theorem cellB_at {sh : List Nat} {l : List D} {x : D} {n i : Nat} (h1 : l[i]? = some x) (h2 : sh[i]? = some n) (h : inB x n = false) : cellB sh (.tup l) = false := by
  show (_ && (_ && (l.zip sh).all fun p => inB p.1 p.2)) = false
  have : (l.zip sh).all (fun p => inB p.1 p.2) = false := List.all_eq_false.mpr ⟨(x, n), List.mem_iff_getElem?.mpr ⟨i, by rw [List.getElem?_zip_eq_some]; exact ⟨h1, h2⟩⟩, by rw [h]; simp⟩
  rw [this]
  simp
theorem cutL_front {α : Type} {l : List α} : cutL l none (some (-1)) = l.dropLast := by
  show (l.drop 0).take ((if (-1 : Int) < 0 then ((-1 : Int) + (l.length : Int)).toNat else min (-1 : Int).toNat l.length) - 0) = _
  rw [if_pos (by decide), List.drop_zero, List.dropLast_eq_take]
  congr 1
  omega
theorem cutL_tail {α : Type} {l : List α} : cutL l (some 1) none = l.tail := by
  show (l.drop (if (1 : Int) < 0 then ((1 : Int) + (l.length : Int)).toNat else min (1 : Int).toNat l.length)).take (l.length - _) = _
  rw [if_neg (by decide)]
  cases l with
  | nil => rfl
  | cons a l => simp [HT.sIx]
theorem atI_back {α : Type} {l : List α} (h : 1 ≤ l.length) : atI l (-1) = some (l[l.length - 1]'(by omega)) := by
  have e : ixN l.length (-1) = some (l.length - 1) := by
    unfold ixN
    rw [if_neg (by omega), if_pos (by omega)]
    congr 1
    omega
  unfold atI
  rw [e]
  exact List.getElem?_eq_getElem (by omega)
theorem iD_dropLast {l : List Int} : (iD l).dropLast = iD l.dropLast := by simp [iD, List.map_dropLast]
theorem iN_dropLast {l : List Nat} : (iN l).dropLast = iN l.dropLast := by simp [iN, List.map_dropLast]
theorem iD_tail {l : List Int} : (iD l).tail = iD l.tail := by simp [iD, List.map_tail]
theorem iN_tail {l : List Nat} : (iN l).tail = iN l.tail := by simp [iN, List.map_tail]
section
variable {st : S} {q : Rs → S → Prop} {er : QX} {d e : D} {sh sh2 : List Nat} {ws ps ps2 ns : List Int} {rows : List (List Int)} {n m : Nat} {p : D → S → Prop}
end
end LW
set_option Elab.async false
set_option linter.all false
set_option maxRecDepth 100000
set_option maxHeartbeats 2000000
namespace LW
open PySem L2 AM
/-! ### logs -/
def logC (sh : List Nat) (k : Nat) : C := .obj "Log" [("shape", shT sh), ("made", .ref k)]
def logD (sh : List Nat) (k : Nat) : D := .obj "Log" [("shape", shT sh), ("made", .ref k)]
structure LogAt (st : S) (n k : Nat) (sh : List Nat) (cs : List (List Nat)) : Prop where
  o : st[n]? = some (logC sh k)
  m : st[k]? = some (.lst (cs.map cD))
structure Plays (sh : List Nat) (cs : List (List Nat)) : Prop where
  ok : ShapeOk sh
  len : cs.length ≤ 1000
  each : ∀ c ∈ cs, c ∈ cellsN sh
def cnt (cs : List (List Nat)) (c : List Nat) : Nat := cs.countP fun z => decide (z = c)
def cnts (sh : List Nat) (cs : List (List Nat)) : List Int := (cellsN sh).map fun c => (cnt cs c : Int)
def hintL (sh : List Nat) (cs : List (List Nat)) : D := if cs = [] then .non else hintD sh (lowL (cnts sh cs))
theorem cnts_mix {sh : List Nat} {cs : List (List Nat)} (h : Plays sh cs) (hne : cs ≠ []) : MixOk' sh (cnts sh cs) := by
  have nn : ∀ w ∈ cnts sh cs, 0 ≤ w := fun w hw => by
    obtain ⟨c, _, rfl⟩ := List.mem_map.mp hw
    omega
  refine ⟨by simp [cnts], nn, ?_, fun w hw => ?_⟩
  · obtain ⟨c, hc⟩ := List.exists_mem_of_ne_nil _ hne
    have h1 := mem_sum_le nn (List.mem_map.mpr ⟨c, h.each c hc, rfl⟩)
    have h2 : 0 < cnt cs c := List.countP_pos_iff.mpr ⟨c, hc, by simp⟩
    omega
  · obtain ⟨c, _, rfl⟩ := List.mem_map.mp hw
    have h1 : cnt cs c ≤ cs.length := List.countP_le_length
    have h2 := h.len
    exact Nat.lt_of_le_of_lt (m := 1000) (by omega) (Nat.lt_of_lt_of_le (m := 2 ^ 100) (by decide) (Nat.pow_le_pow_right (by decide) (by decide)))
@[simp ↓] theorem slD_lst {l : List D} {lo hi : Option Int} {q : D → Prop} : slD (.lst l) lo hi q = q (.lst (cutL l lo hi)) := propext Iff.rfl
theorem eqv_cD {a b : List Nat} : D.eqv (cD a) (cD b) = decide (a = b) := by
  show D.eqv (rT (iN a)) (rT (iN b)) = _
  rw [eqv_rT]
  simp [iN_inj]
theorem shp_cells {cs : List (List Nat)} : (D.lst (cs.map cD)).shp := by
  refine ⟨?_, ?_⟩
  · unfold D.plain; exact plains_of fun x hx => by obtain ⟨c, _, rfl⟩ := List.mem_map.mp hx; exact plain_rT
  · unfold D.dep
    have := deps_of (k := 1) (l := cs.map cD) fun x hx => by obtain ⟨c, _, rfl⟩ := List.mem_map.mp hx; exact dep_rT
    omega
theorem shp_cD {c : List Nat} : (cD c).shp := shp_rT
theorem cnt_eqv {cs : List (List Nat)} {c : List Nat} : (cs.map cD).countP (fun z => D.eqv z (cD c)) = cnt cs c := by
  rw [List.countP_map]
  exact List.countP_congr fun z _ => by simp [eqv_cD]
section
variable {st : S} {q : Rs → S → Prop} {er : QX} {d e : D} {sh : List Nat} {n k : Nat} {cs : List (List Nat)} {p : D → S → Prop}
theorem LogAt.vw_ (h : LogAt st n k sh cs) : vw st (.ref n) = logD sh k := vw_refO h.o
theorem lg_shape (h : LogAt st n k sh cs) : fldQ ["Log"] "shape" p (.ref n) st = p (shT sh) st := fldQ_of (by rw [h.vw_]; rfl)
theorem lg_made (h : LogAt st n k sh cs) : fldQ ["Log"] "made" p (.ref n) st = p (.ref k) st := fldQ_of (by rw [h.vw_]; rfl)
theorem LogAt.obj_ (h : LogAt st n k sh cs) {m : Str} (hm : ([("shape", shT sh), ("made", D.ref k)] : List (Str × D)).lookup m = none := by rfl) : isObj "Log" m (vw st (.ref n)) := by rw [h.vw_]; exact ⟨rfl, hm⟩
theorem LogAt.app (h : LogAt st n k sh cs) (x : List C) : LogAt (st ++ x) n k sh cs := ⟨by rw [List.getElem?_append_left (List.getElem?_eq_some_iff.mp h.o).1]; exact h.o, by rw [List.getElem?_append_left (List.getElem?_eq_some_iff.mp h.m).1]; exact h.m⟩
theorem LogAt.set_ (h : LogAt st n k sh cs) {i : Nat} {x : C} (h1 : i ≠ n) (h2 : i ≠ k) : LogAt (st.set i x) n k sh cs := ⟨by rw [List.getElem?_set_ne h1]; exact h.o, by rw [List.getElem?_set_ne h2]; exact h.m⟩
theorem LogAt.ne (h : LogAt st n k sh cs) : n ≠ k := fun e => by
  have h1 := h.o
  have h2 := h.m
  rw [e, h2] at h1
  cases h1
theorem LogAt.put (h : LogAt st n k sh cs) {cs2 : List (List Nat)} : LogAt (st.set k (.lst (cs2.map cD))) n k sh cs2 := ⟨by rw [List.getElem?_set_ne (Ne.symm h.ne)]; exact h.o, List.getElem?_set_self (List.getElem?_eq_some_iff.mp h.m).1⟩
theorem log_init (hs : isInts st d (iN sh)) (ok : ShapeOk sh) (hd : d.lt st.length) (h : q (.d .non) (st ++ [logC sh (st.length + 1), .lst []])) : m_Log___init__ [.ref st.length, d] (st ++ [.obj "Log" []]) q er := by
  refine ⟨rfl, ?_⟩
  show a_Log___init__ [.d (.ref st.length), .d d] (st ++ [.obj "Log" []]) _
  unfold a_Log___init__
  simp [-List.map_map]
  refine checked_shape_spec (isInts_app hd hs) ok ?_
  simp [-List.map_map]
  refine ⟨by show 1 < 1000; decide, ?_⟩
  exact h
theorem log_bad (hk : okK d) (hi : ∀ l, itemsD d = some l → l.length ≤ 1000 ∧ ∀ x ∈ l, okK x) (hb : ∀ st, intsB st d = false ∨ ∃ ns, isInts st d ns ∧ shapeB ns = false) (h : er ⟨"BadShape", none⟩ (st ++ [.obj "Log" []])) : m_Log___init__ [.ref st.length, d] (st ++ [.obj "Log" []]) q er := by
  refine ⟨rfl, ?_⟩
  show a_Log___init__ [.d (.ref st.length), .d d] (st ++ [.obj "Log" []]) _
  unfold a_Log___init__
  simp [-List.map_map]
  refine checked_bad (by rw [vw_okK hk]; exact hk) (fun l e => ?_) (hb _) h
  rw [vw_okK hk] at e
  obtain ⟨h1, h2⟩ := hi l e
  exact ⟨h1, fun x hx => by rw [vw_okK (h2 x hx)]; exact h2 x hx⟩
theorem play_spec {c : List Nat} (hl : LogAt st n k sh cs) (hp : Plays sh cs) (hc : c ∈ cellsN sh) (h : q (.d .non) (st.set k (.lst ((cs ++ [c]).map cD)))) : m_Log_play [.ref n, cD c] st q er := by
  refine ⟨rfl, ?_⟩
  show a_Log_play [.d (.ref n), .d (cD c)] st _
  unfold a_Log_play
  have h3 := hp.ok.l3
  have hlen := hp.len
  simp [-List.map_map]
  rw [lg_shape hl]
  refine is_cell_spec (inSh_cells c hc) (by omega) ?_
  simp [-List.map_map]
  rw [lg_made hl]
  refine ⟨k, rfl, ⟨_, hl.m⟩, _, hl.m, by simp; omega, ?_⟩
  simpa [-List.map_map] using h
theorem play_bad (hl : LogAt st n k sh cs) (hk : okK d) (hi : ∀ l, d = .tup l → l.length ≤ 100 ∧ ∀ x ∈ l, okK x) (ok : ShapeOk sh) (hb : cellB sh d = false) (h : er ⟨"NoCell", some ("cell", d)⟩ st) : m_Log_play [.ref n, d] st q er := by
  refine ⟨rfl, ?_⟩
  show a_Log_play [.d (.ref n), .d d] st _
  unfold a_Log_play
  have h3 := ok.l3
  simp [-List.map_map]
  rw [lg_shape hl]
  refine is_cell_any hk hi (by omega) ?_
  rw [hb]
  simp [-List.map_map]
  exact h
theorem len_spec (hl : LogAt st n k sh cs) (h : q (.d (.int cs.length)) st) : m_Log___len__ [.ref n] st q er := by
  refine ⟨rfl, ?_⟩
  show a_Log___len__ [.d (.ref n)] st _
  unfold a_Log___len__
  simp [-List.map_map]
  rw [lg_made hl]
  rw [vw_ref hl.m]
  exact ⟨cs.length, by simp, h⟩
theorem plays_spec (hl : LogAt st n k sh cs) (h : q (.own (cs.map cD)) st) : m_Log_plays [.ref n] st q er := by
  refine ⟨rfl, ?_⟩
  show a_Log_plays [.d (.ref n)] st _
  unfold a_Log_plays
  simp [-List.map_map]
  rw [lg_made hl]
  rw [vw_ref hl.m]
  exact ⟨_, rfl, h⟩
theorem log_hint_spec (hl : LogAt st n k sh cs) (hp : Plays sh cs) (h : q (.d (hintL sh cs)) st) : m_Log_hint [.ref n] st q er := by
  refine ⟨rfl, ?_⟩
  show a_Log_hint [.d (.ref n), .no] st _
  unfold a_Log_hint
  have hc := cells_le hp.ok
  simp [-List.map_map]
  rw [lg_made hl, trQ_ref hl.m]
  unfold hintL at h
  by_cases hz : cs = []
  · subst hz
    simp at h ⊢
    exact h
  · rw [if_neg hz] at h
    have he : (cs.map cD).isEmpty = false := by
      cases cs with
      | nil => exact absurd rfl hz
      | cons => rfl
    rw [he]
    simp [-List.map_map]
    rw [lg_shape hl, lg_shape hl]
    refine cells_of_spec (sh := sh) isInts_tup hp.ok.l3 (fun m hm => (hp.ok.each m hm).2) ?_
    simp [-List.map_map]
    refine lc_of (α := List Nat) (T := cD) (G := fun c => .int (cnt cs c : Nat)) (by simp) _ (fun c hcm P1 P2 hp1 => ?_) (by simp; omega) ?_
    · simp [-List.map_map]
      rw [lg_made hl]
      refine ⟨⟨_, vw_ref hl.m⟩, ?_⟩
      refine ⟨_, vw_ref hl.m, shp_cells, shp_cD, ?_⟩
      rw [vw_cD, cnt_eqv]
      exact hp1
    · rw [List.nil_append, show ((cellsN sh).map fun c => D.int (cnt cs c : Nat)) = iD (cnts sh cs) from by unfold cnts iD; rw [List.map_map]; rfl]
      exact new_hint (p := fun d s => q (.d d) s) (sh := sh) isInts_tup hp.ok rfl (cnts_mix hp hz) h
theorem behind_spec {c : Nat} (hl : LogAt st n k sh cs) (hp : Plays sh cs) (hc : c ≤ cs.length) (h : q (.d (.ref st.length)) (st ++ [logC sh (st.length + 1), .lst ((cs.take c).map cD)])) : m_Log_behind [.ref n, .int c] st q er := by
  refine ⟨rfl, ?_⟩
  show a_Log_behind [.d (.ref n), .d (.int c), .no, .no] st _
  unfold a_Log_behind
  have hlen := hp.len
  simp [-List.map_map]
  refine is_integer_spec trivial ?_
  simp [-List.map_map, isIntB]
  rw [lg_made hl]
  refine ⟨cs.length, by rw [vw_ref hl.m]; simp, ?_⟩
  simp [-List.map_map, hc]
  rw [lg_shape hl]
  refine log_init isInts_tup hp.ok lt_rT ?_
  simp [-List.map_map]
  have hl2 := hl.app [logC sh (st.length + 1), .lst []]
  rw [lg_made hl2]
  rw [vw_ref hl2.m]
  simp only [slD_lst]
  rw [cut_take (by simpa using hc), ← List.map_take]
  refine ⟨_, rfl, ?_⟩
  have hle : st.length + 1 < (st ++ [logC sh (st.length + 1), C.lst []]).length := by simp
  refine for_of (T := cD) (P := fun l env s => ∃ dn e3, dn ++ l = cs.take c ∧ s = st ++ [logC sh (st.length + 1), .lst (dn.map cD)] ∧ env = [.d (.ref n), .d (.int c), .d (.ref st.length), e3]) ?_ ?_ _ _ _ ⟨[], .no, rfl, rfl, rfl⟩
  · rintro env s ⟨dn, e3, hdn, rfl, rfl⟩
    have hdn : dn = cs.take c := by simpa using hdn
    subst hdn
    refine ⟨by simp, ?_⟩
    simp [-List.map_map, -List.map_take]
    exact h
  · rintro x l env s ⟨dn, e3, hdn, rfl, rfl⟩ nx hnx
    refine ⟨by simp, ?_⟩
    have hm : ∀ y ∈ dn ++ [x], y ∈ cs := fun y hy => List.mem_of_mem_take (i := c) (by rw [← hdn]; simp at hy ⊢; rcases hy with h | h <;> simp [h])
    have hl3 : LogAt (st ++ [logC sh (st.length + 1), .lst (dn.map cD)]) st.length (st.length + 1) sh dn := ⟨by simp, by simp⟩
    have hdl : dn.length ≤ 1000 := by have := congrArg List.length hdn; simp at this; omega
    simp [-List.map_map]
    refine ⟨hl3.obj_, ?_⟩
    refine play_spec hl3 ⟨hp.ok, hdl, fun y hy => hp.each y (hm y (by simp [hy]))⟩ (hp.each x (hm x (by simp))) ?_
    simp only [rsQ_d]
    refine hnx _ _ ⟨dn ++ [x], _, by simpa using hdn, ?_, rfl⟩
    rw [List.set_append_right _ _ (by omega)]
    simp
theorem behind_bad (hl : LogAt st n k sh cs) (hk : okK d) (hb : isIntB d = false ∨ ∃ i, d = .int i ∧ (i < 0 ∨ (cs.length : Int) < i)) (h : er ⟨"BadShares", none⟩ st) : m_Log_behind [.ref n, d] st q er := by
  refine ⟨rfl, ?_⟩
  show a_Log_behind [.d (.ref n), .d d, .no, .no] st _
  unfold a_Log_behind
  simp [-List.map_map]
  refine is_integer_spec (by rw [vw_okK hk]; exact hk) ?_
  rw [vw_okK hk]
  rcases hb with hb | ⟨i, rfl, hi⟩
  · simp [hb]
    exact h
  · simp [-List.map_map, isIntB]
    by_cases h0 : 0 ≤ i
    · rw [if_pos h0, lg_made hl]
      refine ⟨cs.length, by rw [vw_ref hl.m]; simp, ?_⟩
      rw [if_neg (by omega)]
      exact h
    · rw [if_neg h0]
      exact h
end
end LW
set_option Elab.async false
set_option linter.all false
set_option maxRecDepth 100000
set_option maxHeartbeats 2000000
namespace LW
open PySem L2 AM
theorem shp_strL {z : Str} (h : PyData.strOk z = true) : (D.lst [.str z]).shp := by
  refine ⟨?_, by unfold D.dep; unfold D.deps; unfold D.deps; unfold D.dep; decide⟩
  unfold D.plain; unfold D.plains; rw [Bool.and_eq_true]
  exact ⟨h, by unfold D.plains; rfl⟩
theorem shp_str {z : Str} (h : PyData.strOk z = true) : (D.str z).shp := ⟨h, Nat.zero_le _⟩
theorem shp_cellv {v : D} (h : (D.lst [v]).shp) : (D.lst [.str "cell", v]).shp := by
  obtain ⟨h1, h2⟩ := h
  refine ⟨?_, ?_⟩
  · unfold D.plain at h1 ⊢
    unfold D.plains at h1 ⊢
    rw [Bool.and_eq_true]
    refine ⟨?_, ?_⟩
    · show PyData.strOk _ = true; decide +kernel
    · unfold D.plains; exact h1
  · unfold D.dep at h2 ⊢
    unfold D.deps at h2 ⊢
    unfold D.dep
    simp [D.deps] at h2 ⊢
    omega
theorem shp_nil : (D.lst []).shp := ⟨rfl, by unfold D.dep; decide⟩
theorem eq_cD {a b : List Nat} {q : D → Prop} : oEq (cD a) (cD b) q = q (.bl (decide (a = b))) := by
  show oEq (rT (iN a)) (rT (iN b)) q = _
  rw [eq_rT]
  simp [iN_inj]
theorem eq_nil {l : List D} {q : D → Prop} (h : (D.lst l).shp) : oEq (.lst l) (.lst []) q = q (.bl l.isEmpty) := by
  unfold oEq
  have e : D.eqv (.lst l) (.lst []) = l.isEmpty := by
    cases l with
    | nil => simp [D.eqv, D.eqvs]
    | cons x l => simp [D.eqv, D.eqvs]
  rw [e]
  simp [h, shp_nil]
section
variable {st : S} {q : Rs → S → Prop} {er : QX} {d e : D} {sh : List Nat} {n k : Nat} {cs : List (List Nat)} {p : D → S → Prop}
theorem refused_play (hl : LogAt st n k sh cs) (ok : ShapeOk sh) (hO : Odd sh d) (h : q (.d (.lst [.str "cell", d])) st) : m__law_refused [.int 0, .ref n, d] st q er := by
  refine ⟨rfl, ?_⟩
  show a__law_refused [.d (.int 0), .d (.ref n), .d d, .no] st _
  unfold a__law_refused
  simp [-List.map_map]
  refine ⟨hl.obj_, ?_⟩
  refine play_bad hl hO.k hO.it ok hO.no ?_
  rw [erMix_yes rfl]
  intro a c dx
  simp [-List.map_map]
  rw [ev_aXf (x := d) rfl]
  exact h
theorem refused_behind (hl : LogAt st n k sh cs) (hk : okK d) (hb : isIntB d = false ∨ ∃ i, d = .int i ∧ (i < 0 ∨ (cs.length : Int) < i)) (h : q (.d (.lst [.str "shares"])) st) : m__law_refused [.int 1, .ref n, d] st q er := by
  refine ⟨rfl, ?_⟩
  show a__law_refused [.d (.int 1), .d (.ref n), .d d, .no] st _
  unfold a__law_refused
  simp [-List.map_map]
  refine ⟨hl.obj_, ?_⟩
  refine behind_bad hl hk hb ?_
  rw [erMix_no rfl, erMix_yes rfl]
  intro a c dx
  simp [-List.map_map]
  exact h
theorem refused_new {x : D} (hk : okK d) (hi : ∀ l, itemsD d = some l → l.length ≤ 1000 ∧ ∀ x ∈ l, okK x) (hb : ∀ st, intsB st d = false ∨ ∃ ns, isInts st d ns ∧ shapeB ns = false) (h : q (.d (.lst [.str "shape"])) (st ++ [.obj "Log" []])) : m__law_refused [.int 2, x, d] st q er := by
  refine ⟨rfl, ?_⟩
  show a__law_refused [.d (.int 2), .d x, .d d, .no] st _
  unfold a__law_refused
  simp [-List.map_map]
  refine log_bad hk hi hb ?_
  rw [erMix_no rfl, erMix_no rfl, erMix_yes rfl]
  intro a c dx
  simp [-List.map_map]
  exact h
theorem same_spec (hl : LogAt st n k sh cs) (hp : Plays sh cs) (h : ∀ x, q (.d (.bl true)) (st ++ [x])) : m__law_same [.ref n, shL sh, .lst (cs.map cD)] st q er := by
  refine ⟨rfl, ?_⟩
  show a__law_same [.d (.ref n), .d (shL sh), .d (.lst (cs.map cD)), .no, .no, .no, .no] st _
  unfold a__law_same
  have hc := cells_le hp.ok
  have hlen := hp.len
  simp [-List.map_map]
  rw [lg_shape hl]
  simp only [vw_tup]
  rw [show D.tup (iD (iN sh)) = shT sh from rfl, ne_self shp_rT]
  simp [-List.map_map]
  refine ⟨by rw [hl.vw_]; rfl, ?_⟩
  refine len_spec hl ?_
  simp [-List.map_map]
  refine ⟨by omega, ?_⟩
  refine ⟨hl.obj_, ?_⟩
  refine plays_spec hl ?_
  simp only [rsQ_own, vw_lst]
  rw [ne_self shp_cells]
  simp [-List.map_map]
  refine ⟨hl.obj_, ?_⟩
  refine plays_spec hl ?_
  simp [-List.map_map]
  refine ⟨by omega, ?_⟩
  have hl2 := hl.app [C.lst (cs.map cD ++ [.tup [.int 0, .int 0]])]
  refine ⟨hl2.obj_, ?_⟩
  refine log_hint_spec hl2 hp ?_
  simp only [rsQ_d]
  rw [eq_nil shp_cells]
  unfold hintL
  by_cases hz : cs = []
  · subst hz
    simp
    exact .inr ⟨rfl, h _⟩
  · have he : (cs.map cD).isEmpty = false := by
      cases cs with
      | nil => exact absurd rfl hz
      | cons => rfl
    rw [he, if_neg hz]
    simp [-List.map_map]
    refine law_cells_spec (sh := sh) isInts_lst hp.ok.l3 (fun m hm => (hp.ok.each m hm).2) ?_
    simp [-List.map_map]
    refine lc_of (α := List Nat) (T := cD) (G := fun c => .int (cnt cs c : Nat)) (by simp) _ (fun c hcm P1 P2 hp1 => ?_) (by simp; omega) ?_
    · simp [-List.map_map]
      refine lc_ofP (α := List Nat) (T := cD) (G := cD) (p := fun z => decide (z = c)) (by simp) cs (fun z hz P3 P4 hp3 => ?_) (by simp; omega) ?_
      · simp [-List.map_map]
        rw [eq_cD]
        simpa [-List.map_map] using hp3
      · simp [-List.map_map]
        rw [show (cs.filter fun z => decide (z = c)).length = cnt cs c from (List.countP_eq_length_filter).symm]
        exact hp1
    · rw [List.nil_append, show ((cellsN sh).map fun c => D.int (cnt cs c : Nat)) = iD (cnts sh cs) from by unfold cnts iD; rw [List.map_map]; rfl]
      have mok := cnts_mix hp hz
      refine new_hint (d := shT sh) (e := .lst (iD (cnts sh cs))) isInts_tup hp.ok rfl mok ?_
      simp only [vw_hint, isCls_hint, true_and]
      refine hint_eq_spec ?_
      simp [-List.map_map]
      refine weights_spec ?_
      simp [-List.map_map]
      refine least_spec isInts_lst (by simp [cnts]; omega) (fun w hw => bd_le (mok.bd w hw) (by decide)) ?_
      simp only [rsQ_own, vw_lst]
      rw [show D.lst ((lowL (cnts sh cs)).map D.int) = rL (lowL (cnts sh cs)) from rfl, eq_self shp_rL]
      exact h _
/-! ### values that are no cells -/
def odd67 (sh c1 c0 : List Nat) : List D := [.tup (iD (iN c1) ++ [.int 0]), .tup (iD (iN c1.tail)), .lst (iD (iN c0)), .tup (List.replicate sh.length (.int (-1))), .non, .int 0, .tup (List.replicate sh.length (.bl true)), .tup (List.replicate sh.length (.bl false))]
theorem odd67_all {c1 c0 : List Nat} (ok : ShapeOk sh) (hc1 : InSh c1 sh) (hc0 : InSh c0 sh) : ∀ x ∈ odd67 sh c1 c0, Odd sh x := by
  have hl3 := ok.l3
  have hl1 := ok.l1
  have hcl := hc1.1
  have hg0 : sh[0]? = some (gN sh 0) := by unfold gN; rw [List.getElem?_eq_getElem (by omega)]; rfl
  have bls : ∀ b, Odd sh (.tup (List.replicate sh.length (.bl b))) := fun b => by
    refine ⟨trivial, fun l e => ?_, ?_, ?_⟩
    · cases e
      exact ⟨by simp; omega, fun y hy => by rw [List.eq_of_mem_replicate hy]; trivial⟩
    · refine cellB_at (x := .bl b) (i := 0) ?_ hg0 rfl
      rw [List.getElem?_replicate, if_pos (by omega)]
    · have : sh.length = 1 ∨ sh.length = 2 ∨ sh.length = 3 := by omega
      rcases this with e | e | e <;> rw [e] <;> exact ⟨rfl, by show (2 : Nat) ≤ 64; decide⟩
  intro x hx
  unfold odd67 at hx
  simp only [List.mem_cons, List.not_mem_nil, or_false] at hx
  rcases hx with rfl | rfl | rfl | rfl | rfl | rfl | rfl | rfl
  · rw [show iD (iN c1) ++ [D.int 0] = iD (iN c1 ++ [0]) by simp]
    exact odd_ints (by simp; omega) (cellB_len (by simp; omega))
  · exact odd_ints (by simp; omega) (cellB_len (by simp; omega))
  · refine ⟨trivial, (fun l e => by cases e), rfl, ?_⟩
    refine ⟨?_, ?_⟩
    · unfold D.plain; exact plains_of fun x hx => by rw [List.mem_singleton.mp hx]; exact plain_rL
    · unfold D.dep
      have := deps_of (k := 1) (l := [D.lst (iD (iN c0))]) fun x hx => by rw [List.mem_singleton.mp hx]; exact dep_rL
      omega
  · rw [show List.replicate sh.length (D.int (-1)) = iD (List.replicate sh.length (-1)) by simp]
    refine odd_ints (by simp; omega) (cellB_at (x := .int (-1)) (i := 0) ?_ hg0 (by simp [inB]))
    rw [List.getElem?_map, List.getElem?_replicate, if_pos (by omega)]; rfl
  · exact ⟨trivial, (fun l e => by cases e), rfl, rfl, by show (1 : Nat) ≤ 64; decide⟩
  · exact ⟨trivial, (fun l e => by cases e), rfl, rfl, by show (1 : Nat) ≤ 64; decide⟩
  · exact bls true
  · exact bls false
theorem odd_cells_spec (ok : ShapeOk sh) (h : ∀ c1 c0, InSh c1 sh → InSh c0 sh → q (.d (.lst (odd67 sh c1 c0))) st) : m__law_odd_cells [shL sh, .lst ((cellsN sh).map cD)] st q er := by
  refine ⟨rfl, ?_⟩
  show a__law_odd_cells [.d (shL sh), .d (.lst ((cellsN sh).map cD)), .no] st _
  unfold a__law_odd_cells
  have hl3 := ok.l3
  have hl1 := ok.l1
  have hb1 : 1 ≤ (cellsN sh).length := List.length_pos_iff.mpr (prod_pos ok)
  have hi1 := inSh_cells (cellsN sh)[(cellsN sh).length - 1] (List.getElem_mem _)
  have hi0 := inSh_cells (cellsN sh)[0] (List.getElem_mem _)
  have eb : atI ((cellsN sh).map cD) (-1) = some (cD (cellsN sh)[(cellsN sh).length - 1]) := by
    rw [atI_back (by simpa using hb1)]
    simp
  have e0 : atI ((cellsN sh).map cD) 0 = some (cD (cellsN sh)[0]) := by
    have := atI_nat (l := (cellsN sh).map cD) (k := 0) (by simpa using (show 0 < (cellsN sh).length from hb1))
    simpa using this
  have h := h _ _ hi1 hi0
  generalize (cellsN sh)[(cellsN sh).length - 1] = c1 at hi1 eb h
  generalize (cellsN sh)[0] = c0 at hi0 e0 h
  have hcl := hi1.1
  have ecD : ∀ c, cD c = .tup (iD (iN c)) := fun c => rfl
  simp [-List.map_map, eb, e0, ecD, cutL_tail, iD_tail, iN_tail, -List.map_tail, hcl]
  refine ⟨by omega, by omega, by omega, by omega, by omega, by omega, by omega, ?_⟩
  exact h
/-! ### the hints that were told -/
def Seen (y : D) : Prop := ∃ sh ps, y = .tup [hintD sh ps, .lst (iD ps)]
def LogOr (st : S) (sh : List Nat) (y : D) : Prop := y = .non ∨ ∃ b k cs, y = .ref b ∧ LogAt st b k sh cs ∧ Plays sh cs
theorem ltL_hint {k : Nat} {ps : List Int} : ltL k [hintD sh ps, .lst (iD ps)] := by
  unfold ltL ltL ltL
  exact ⟨by unfold hintD D.lt; exact ltF_hint, lt_rL, trivial⟩
theorem seen_lt {k : Nat} {L : List D} (h : ∀ y ∈ L, Seen y) : ltL k L := ltL_of fun y hy => by
  obtain ⟨sh, ps, rfl⟩ := h y hy
  unfold D.lt
  exact ltL_hint
theorem hints_spec {x y : D} (hx : LogOr st sh x) (hy : LogOr st sh y) (h : ∀ L : List D, L.length ≤ 2 → (∀ y ∈ L, Seen y) → q (.own L) st) : m__law_hints [.lst [x, y]] st q er := by
  refine ⟨rfl, fun _ hw => ?_⟩
  show a__law_hints [.d (.lst [x, y]), .no, .no, .no] st _
  unfold a__law_hints
  have gL : ∀ (L : List D), (st ++ [C.lst L])[st.length]? = some (C.lst L) := fun L => by simp
  have gS : ∀ (L L' : List D), (st ++ [C.lst L]).set st.length (C.lst L') = st ++ [C.lst L'] := fun L L' => by simp
  simp [-List.map_map]
  refine for_ind (P := fun xs env s => ∃ acc e2 e3, s = st ++ [.lst acc] ∧ env = [.d (.lst [x, y]), .d (.ref st.length), e2, e3] ∧ (∀ z ∈ xs, LogOr st sh z) ∧ (∀ z ∈ acc, Seen z) ∧ acc.length + xs.length ≤ 2) ?_ ?_ _ _ _ ⟨[], .no, .no, rfl, rfl, ?_, (fun z h => by cases h), by simp⟩
  · rintro env s ⟨acc, e2, e3, rfl, rfl, _, hs, hl⟩
    refine ⟨by simp, ?_⟩
    simp [-List.map_map]
    refine ⟨by rw [List.take_left' rfl]; exact hw, .inr ⟨st.length, acc, rfl, Nat.le_refl _, gL _, seen_lt hs, ?_⟩⟩
    rw [List.take_left' rfl]
    exact h acc (by simpa using hl) hs
  · rintro z xs env s ⟨acc, e2, e3, rfl, rfl, hz, hs, hl⟩ nx hnx
    refine ⟨by simp, ?_⟩
    have hl' : acc.length + xs.length + 1 ≤ 2 := by simpa [Nat.add_assoc] using hl
    rcases hz z (by simp) with rfl | ⟨b, k, cs, rfl, hL, hP⟩
    · simp [-List.map_map]
      exact .inr ⟨rfl, hnx _ _ ⟨acc, _, _, rfl, rfl, fun z h => hz z (by simp [h]), hs, by omega⟩⟩
    · have hL2 := hL.app [C.lst acc]
      simp [-List.map_map]
      refine .inl ⟨by rw [hL2.vw_]; rfl, hL2.obj_, ?_⟩
      refine log_hint_spec hL2 hP ?_
      simp only [rsQ_d]
      unfold hintL
      by_cases he : cs = []
      · rw [if_pos he]
        exact .inr ⟨rfl, hnx _ _ ⟨acc, _, _, rfl, rfl, fun z h => hz z (by simp [h]), hs, by omega⟩⟩
      · rw [if_neg he]
        refine .inl ⟨rfl, hL2.obj_, ?_⟩
        refine log_hint_spec hL2 hP ?_
        simp only [rsQ_d]
        unfold hintL
        rw [if_neg he]
        simp [-List.map_map]
        refine weights_spec ?_
        simp [-List.map_map]
        refine ⟨by omega, ?_⟩
        refine hnx _ _ ⟨acc ++ [.tup [hintD sh (lowL (cnts sh cs)), .lst (iD (lowL (cnts sh cs)))]], _, _, rfl, rfl, fun z h => hz z (by simp [h]), fun z h => ?_, by simp; omega⟩
        rcases List.mem_append.mp h with h | h
        · exact hs z h
        · rw [List.mem_singleton.mp h]; exact ⟨_, _, rfl⟩
  · intro z hz
    rcases List.mem_cons.mp hz with rfl | hz
    · exact hx
    · rw [List.mem_singleton.mp hz]; exact hy
/-! ### at the end -/
structure BadS (d : D) : Prop where
  k : okK d
  i : ∀ l, itemsD d = some l → l.length ≤ 1000 ∧ ∀ x ∈ l, okK x
  b : ∀ st, intsB st d = false ∨ ∃ ns, isInts st d ns ∧ shapeB ns = false
def bads : List D := [.lst [], .tup [.int 5], .tup [.int 0, .int 1], .tup [.int 4, .int 4, .int 2], .tup [.bl true], .non, .int 3]
theorem bads_all : ∀ x ∈ bads, BadS x := by
  intro x hx
  unfold bads at hx
  simp only [List.mem_cons, List.not_mem_nil, or_false] at hx
  have hin : ∀ ns : List Int, ns.length ≤ 10 → ∀ l, l = iD ns → l.length ≤ 1000 ∧ ∀ x ∈ l, okK x := fun ns h l e => by
    subst e
    exact ⟨by simp; omega, fun x hx => by obtain ⟨i, _, rfl⟩ := List.mem_map.mp hx; trivial⟩
  rcases hx with rfl | rfl | rfl | rfl | rfl | rfl | rfl
  · exact ⟨trivial, fun l e => by cases e; exact hin [] (by decide) _ rfl, fun st => .inr ⟨[], rfl, by decide⟩⟩
  · exact ⟨trivial, fun l e => by cases e; exact hin [5] (by decide) _ rfl, fun st => .inr ⟨[5], rfl, by decide⟩⟩
  · exact ⟨trivial, fun l e => by cases e; exact hin [0, 1] (by decide) _ rfl, fun st => .inr ⟨[0, 1], rfl, by decide⟩⟩
  · exact ⟨trivial, fun l e => by cases e; exact hin [4, 4, 2] (by decide) _ rfl, fun st => .inr ⟨[4, 4, 2], rfl, by decide⟩⟩
  · exact ⟨trivial, fun l e => by cases e; exact ⟨by decide, fun x hx => by rw [List.mem_singleton.mp hx]; trivial⟩, fun st => .inl rfl⟩
  · exact ⟨trivial, (fun l e => by cases e), fun st => .inl rfl⟩
  · exact ⟨trivial, (fun l e => by cases e), fun st => .inl rfl⟩
theorem kept_spec {L : List D} (hl : LogAt st n k sh cs) (hp : Plays sh cs) (hL : L.length ≤ 100) (hS : ∀ y ∈ L, Seen y) (h : ∀ s, q (.d (.bl true)) s) : m__law_kept [.ref n, .lst (cs.map cD), .lst L] st q er := by
  refine ⟨rfl, ?_⟩
  show a__law_kept [.d (.ref n), .d (.lst (cs.map cD)), .d (.lst L), .no, .no, .no] st _
  unfold a__law_kept
  have hlen := hp.len
  simp [-List.map_map]
  refine lc_imp (G := id) (p := fun _ => false) (by simp) L [] (fun y hy P1 P2 hp1 => ?_) (by simp; omega) ?_
  · obtain ⟨sh', ps, rfl⟩ := hS y hy
    simp [-List.map_map]
    refine weights_spec ?_
    simp only [rsQ_own, vw_lst]
    rw [ne_self shp_rL]
    simpa using hp1
  · rw [List.nil_append, List.filter_eq_nil_iff.mpr (fun _ _ => by simp), List.map_nil, ne_self shp_nil]
    simp [-List.map_map]
    refine lc_ind (P := fun xs acc s => ∃ (bs : List Bool) (ext : List C), acc = bs.map D.bl ∧ s = st ++ ext ∧ (∀ b ∈ bs, b = true) ∧ bs.length + xs.length = 7 ∧ ∀ x ∈ xs, BadS x) ?_ ?_ _ _ _ ⟨[], [], rfl, by simp, (fun b h => by cases h), rfl, bads_all⟩
    · rintro acc s ⟨bs, ext, rfl, rfl, hb, _, _⟩
      refine ⟨by simp, ?_⟩
      refine ⟨bs, rfl, ?_⟩
      rw [show bs.all id = true from List.all_eq_true.mpr fun b hb' => hb b hb']
      have hl2 := hl.app ext
      simp [-List.map_map]
      refine ⟨hl2.obj_, ?_⟩
      refine behind_spec hl2 hp (Nat.le_refl _) ?_
      simp only [rsQ_d]
      rw [List.take_length]
      generalize hs1 : st ++ ext = s1 at hl2
      have hl3 : LogAt (s1 ++ [logC sh (s1.length + 1), .lst (cs.map cD)]) s1.length (s1.length + 1) sh cs := ⟨by simp, by simp⟩
      refine ⟨hl3.obj_, ?_⟩
      refine plays_spec hl3 ?_
      simp only [rsQ_own, vw_lst]
      rw [eq_self shp_cells]
      have hl4 := hl2.app [logC sh (s1.length + 1), .lst (cs.map cD)]
      simp [-List.map_map]
      refine ⟨hl4.obj_, ?_⟩
      refine behind_spec (c := 0) hl4 hp (by omega) ?_
      generalize hs2 : s1 ++ [logC sh (s1.length + 1), C.lst (cs.map cD)] = s2
      simp only [rsQ_d, List.take_zero, List.map_nil]
      have hl5 : LogAt (s2 ++ [logC sh (s2.length + 1), .lst []]) s2.length (s2.length + 1) sh [] := ⟨by simp, by simp⟩
      refine ⟨hl5.obj_, ?_⟩
      refine log_hint_spec hl5 ⟨hp.ok, by simp, fun c h => by cases h⟩ ?_
      simp [hintL]
      exact .inr ⟨rfl, h _⟩
    · rintro x xs acc s ⟨bs, ext, rfl, rfl, hb, hn, hx⟩ P1 P2 hp1 _
      have hn' : bs.length + xs.length + 1 = 7 := by simpa [Nat.add_assoc] using hn
      refine ⟨by simp, by simp; omega, ?_⟩
      have hB := hx x (by simp)
      simp [-List.map_map]
      refine refused_new hB.k hB.i hB.b ?_
      simp only [rsQ_d, vw_lst]
      rw [eq_self (shp_strL (by decide +kernel))]
      refine hp1 _ _ ⟨bs ++ [true], ext ++ [.obj "Log" []], by simp, by simp, fun b h => ?_, by simp; omega, fun y hy => hx y (by simp [hy])⟩
      rcases List.mem_append.mp h with h | h
      · exact hb b h
      · exact List.mem_singleton.mp h
end
end LW
set_option Elab.async false
set_option linter.all false
set_option maxRecDepth 100000
set_option maxHeartbeats 2000000
namespace LW
open PySem L2 AM
def tail67 : AS := (sSeq (sIf (aOr (aNot (aTruth (aCall m__law_same (aCons (aVar 4) (aCons (aVar 2) (aCons (aVar 5) (aNil)))) []))) (aAnd (aTest (aOp oIsNot (aVar 6) (aC .non))) (aNot (aTruth (aCall m__law_same (aCons (aVar 6) (aCons (aVar 2) (aCons (aVar 7) (aNil)))) []))))) (sRet (aC (.bl false))) (sNext))
  (sAsg (aOp oAdd (aVar 8) (aCall m__law_hints (aCons (aLst (aCons (aVar 4) (aCons (aVar 6) (aNil)))) (aNil)) [])) (agName 8)))
theorem tail67_eq : tail67 = (sSeq (sIf (aOr (aNot (aTruth (aCall m__law_same (aCons (aVar 4) (aCons (aVar 2) (aCons (aVar 5) (aNil)))) []))) (aAnd (aTest (aOp oIsNot (aVar 6) (aC .non))) (aNot (aTruth (aCall m__law_same (aCons (aVar 6) (aCons (aVar 2) (aCons (aVar 7) (aNil)))) []))))) (sRet (aC (.bl false))) (sNext))
  (sAsg (aOp oAdd (aVar 8) (aCall m__law_hints (aCons (aLst (aCons (aVar 4) (aCons (aVar 6) (aNil)))) (aNil)) [])) (agName 8))) := rfl
theorem law67_eq : a_law = sSeq (sAsg (aCall m__law_shape (aCons (aVar 1) (aCons (aC (.int 16)) (aNil))) []) (agName 2))
  (sSeq (sAsg (aCall m__law_cells (aCons (aVar 2) (aNil)) []) (agName 3))
  (sSeq (sAsg (aNewM "Log" m_Log___init__ (aCons (aOp oIxA (aLst (aCons (aB bTuple (aCons (aVar 2) (aNil))) (aCons (aVar 2) (aNil)))) (aCall m__law_take (aCons (aVar 1) (aCons (aC (.int 2)) (aNil))) [])) (aNil)) []) (agName 4))
  (sSeq (sAsg (aLst (aNil)) (agName 5))
  (sSeq (sAsg (aC .non) (agName 6))
  (sSeq (sAsg (aLst (aNil)) (agName 7))
  (sSeq (sAsg (aLst (aNil)) (agName 8))
  (sSeq (sFor (aRng1 (aCall m__law_take (aCons (aVar 1) (aCons (aC (.int 13)) (aNil))) [])) (agName 9) (sSeq (sAsg (aCall m__law_take (aCons (aVar 1) (aCons (aC (.int 6)) (aNil))) []) (agName 10))
  (sSeq (sIf (aTest (aOp oEq (aVar 10) (aC (.int 0)))) (sSeq (sAsg (aOp oIxA (aCall m__law_odd_cells (aCons (aVar 2) (aCons (aVar 3) (aNil))) []) (aCall m__law_take (aCons (aVar 1) (aCons (aC (.int 8)) (aNil))) [])) (agName 11))
  (sIf (aTest (aOp oNe (aCall m__law_refused (aCons (aC (.int 0)) (aCons (aVar 4) (aCons (aVar 11) (aNil)))) []) (aLst (aCons (aC (.str "cell")) (aCons (aVar 11) (aNil)))))) (sRet (aC (.bl false))) (sNext))) (sIf (aTest (aOp oEq (aVar 10) (aC (.int 1)))) (sSeq (sAsg (aOp oIxA (aLst (aCons (aUn oNeg (aC (.int 1))) (aCons (aOp oAdd (aB bLen (aCons (aVar 5) (aNil))) (aC (.int 1))) (aCons (aC (.bl true)) (aCons (aC .non) (aCons (aC (.str "1")) (aNil))))))) (aCall m__law_take (aCons (aVar 1) (aCons (aC (.int 5)) (aNil))) [])) (agName 11))
  (sIf (aTest (aOp oNe (aCall m__law_refused (aCons (aC (.int 1)) (aCons (aVar 4) (aCons (aVar 11) (aNil)))) []) (aLst (aCons (aC (.str "shares")) (aNil))))) (sRet (aC (.bl false))) (sNext))) (sIf (aTest (aOp oEq (aVar 10) (aC (.int 2)))) (sSeq (sAsg (aCall m__law_take (aCons (aVar 1) (aCons (aOp oAdd (aB bLen (aCons (aVar 5) (aNil))) (aC (.int 1))) (aNil))) []) (agName 12))
  (sSeq (sAsg (aMeth "Log" "behind" m_Log_behind (aVar 4) (aCons (aVar 12) (aNil)) []) (agName 6))
  (sAsg (aSl (aVar 5) (oNo) (oAt (aVar 12))) (agName 7)))) (sIf (aAnd (aTest (aOp oEq (aVar 10) (aC (.int 3)))) (aTest (aOp oIsNot (aVar 6) (aC .non)))) (sSeq (sAsg (aOp oIxA (aVar 3) (aCall m__law_take (aCons (aVar 1) (aCons (aB bLen (aCons (aVar 3) (aNil))) (aNil))) [])) (agName 13))
  (sSeq (sIf (aTest (aOp oIsNot (aMeth "Log" "play" m_Log_play (aVar 6) (aCons (aVar 13) (aNil)) []) (aC .non))) (sRet (aC (.bl false))) (sNext))
  (sAsg (aOp oAdd (aVar 7) (aLst (aCons (aVar 13) (aNil)))) (agName 7)))) (sSeq (sAsg (aOp oIxA (aVar 3) (aCall m__law_take (aCons (aVar 1) (aCons (aB bLen (aCons (aVar 3) (aNil))) (aNil))) [])) (agName 13))
  (sSeq (sIf (aTest (aOp oIsNot (aMeth "Log" "play" m_Log_play (aVar 4) (aCons (aVar 13) (aNil)) []) (aC .non))) (sRet (aC (.bl false))) (sNext))
  (sAsg (aOp oAdd (aVar 5) (aLst (aCons (aVar 13) (aNil)))) (agName 5))))))))
  tail67)))
  (sRet (aCall m__law_kept (aCons (aVar 4) (aCons (aVar 5) (aCons (aVar 8) (aNil)))) []))))))))) := rfl
section
variable {ns : List Int} {sh : List Nat}
/-- the log beside -/
def Bes (s : S) (sh : List Nat) (x : D) (bs : List (List Nat)) : Prop := (x = .non ∧ bs = []) ∨ ∃ b k, x = .ref b ∧ 3 ≤ b ∧ 3 ≤ k ∧ LogAt s b k sh bs
theorem Bes.app {s : S} {x : D} {bs : List (List Nat)} (h : Bes s sh x bs) (y : List C) : Bes (s ++ y) sh x bs := by
  rcases h with h | ⟨b, k, e, h1, h2, h3⟩
  · exact .inl h
  · exact .inr ⟨b, k, e, h1, h2, h3.app y⟩
theorem Bes.set_ {s : S} {x : D} {bs : List (List Nat)} (h : Bes s sh x bs) {i : Nat} {y : C} (hi : i < 3) : Bes (s.set i y) sh x bs := by
  rcases h with h | ⟨b, k, e, h1, h2, h3⟩
  · exact .inl h
  · exact .inr ⟨b, k, e, h1, h2, h3.set_ (by omega) (by omega)⟩
theorem Bes.or {s : S} {x : D} {bs : List (List Nat)} (h : Bes s sh x bs) (hp : Plays sh bs) : LogOr s sh x := by
  rcases h with ⟨h, _⟩ | ⟨b, k, e, h1, h2, h3⟩
  · exact .inl h
  · exact .inr ⟨b, k, bs, e, h3, hp⟩
structure St67 (ns : List Int) (sh : List Nat) (r : Nat) (s : S) (own : List (List Nat)) (x : D) (bs : List (List Nat)) (seen : List D) : Prop where
  pool : ∃ m, s[0]? = some (.pool m ns) ∧ m + 4 * r ≤ 100
  log : LogAt s 1 2 sh own
  po : Plays sh own
  pb : Plays sh bs
  bes : Bes s sh x bs
  lo : own.length + r ≤ 20
  lb : bs.length + r ≤ 20
  sl : seen.length + 2 * r ≤ 50
  se : ∀ y ∈ seen, Seen y
theorem St67.weak {r r2 : Nat} {s : S} {own bs : List (List Nat)} {x : D} {seen : List D} (h : St67 ns sh r s own x bs seen) (hr : r2 ≤ r) : St67 ns sh r2 s own x bs seen := by
  obtain ⟨⟨m, h1, h2⟩, a, b, c, d, e, f, g, i⟩ := h
  exact ⟨⟨m, h1, by omega⟩, a, b, c, d, by omega, by omega, by omega, i⟩
theorem pool_app {s : S} {m : Nat} (h : s[0]? = some (C.pool m ns)) (x : List C) : (s ++ x)[0]? = some (C.pool m ns) := by rw [List.getElem?_append_left (List.getElem?_eq_some_iff.mp h).1]; exact h
theorem St67.app {r : Nat} {s : S} {own bs : List (List Nat)} {x : D} {seen : List D} (h : St67 ns sh r s own x bs seen) (y : List C) : St67 ns sh r (s ++ y) own x bs seen := by
  obtain ⟨⟨m, h1, h2⟩, a, b, c, d, e, f, g, i⟩ := h
  exact ⟨⟨m, pool_app h1 y, h2⟩, a.app y, b, c, d.app y, e, f, g, i⟩
theorem St67.draw {r : Nat} {s : S} {own bs : List (List Nat)} {x : D} {seen : List D} (h : St67 ns sh r s own x bs seen) {m : Nat} (hm : m + 4 * r ≤ 100) : St67 ns sh r (s.set 0 (.pool m ns)) own x bs seen := by
  obtain ⟨⟨m0, h1, h2⟩, a, b, c, d, e, f, g, i⟩ := h
  exact ⟨⟨m, set_get h1, hm⟩, a.set_ (by decide) (by decide), b, c, d.set_ (by decide), e, f, g, i⟩
abbrev env67 (ns : List Int) (sh : List Nat) (own bs : List (List Nat)) (x : D) (seen : List D) (e9 e10 e11 e12 e13 : A) : List A := [.d (.scr ns), .d (.ref 0), .d (shL sh), .d (.lst ((cellsN sh).map cD)), .d (.ref 1), .d (.lst (own.map cD)), .d x, .d (.lst (bs.map cD)), .d (.lst seen), e9, e10, e11, e12, e13]
theorem tail_ok {r : Nat} {s : S} {own bs : List (List Nat)} {x : D} {seen : List D} {e9 e10 e11 e12 e13 : A} {k : AK} (h : St67 ns sh r s own x bs seen) (hs : seen.length + 2 * (r + 1) ≤ 50) (hk : ∀ s2 seen2, St67 ns sh r s2 own x bs seen2 → k.nx (env67 ns sh own bs x seen2 e9 e10 e11 e12 e13) s2) : tail67 (env67 ns sh own bs x seen e9 e10 e11 e12 e13) s k := by
  rw [tail67_eq]
  have fin : ∀ s2, St67 ns sh r s2 own x bs seen → m__law_hints [.lst [.ref 1, x]] s2 (rsQ fun y s1 => oAdd (.lst seen) (vw s1 y) fun z => k.nx (env67 ns sh own bs x seen e9 e10 e11 e12 e13 |>.set 8 (.d z)) s1) (fun e s => k.er e (env67 ns sh own bs x seen e9 e10 e11 e12 e13) s) := fun s2 h2 => by
    refine hints_spec (sh := sh) (.inr ⟨1, 2, own, rfl, h2.log, h2.po⟩) (h2.bes.or h2.pb) fun L hL hS => ?_
    have hsl := h2.sl
    simp only [rsQ_own, vw_lst, ev_oAddL]
    refine ⟨by omega, ?_⟩
    obtain ⟨⟨m, h1, hm⟩, a, b, c, d, e, f, g, i⟩ := h2
    refine hk _ _ ⟨⟨m, h1, hm⟩, a, b, c, d, e, f, by simp; omega, fun y hy => ?_⟩
    rcases List.mem_append.mp hy with hy | hy
    · exact i y hy
    · exact hS y hy
  simp [-List.map_map]
  refine same_spec h.log h.po fun y => ?_
  have h2 := h.app [y]
  simp [-List.map_map]
  rcases h2.bes with ⟨rfl, hb⟩ | ⟨b, kk, rfl, h3, h4, h5⟩
  · refine .inr ⟨rfl, ?_⟩
    exact fin _ h2
  · refine .inl ⟨by rw [h5.vw_]; rfl, ?_⟩
    refine same_spec h5 h2.pb fun y2 => ?_
    simp [-List.map_map]
    have := fin _ (h2.app [y2])
    simpa [-List.map_map] using this
theorem law_true (ns : List Int) (hns : ns.length ≤ 63) : a_law (.d (.scr ns) :: .d (.ref 0) :: List.replicate 12 .no) [.pool 0 ns] yes := by
  show a_law [.d (.scr ns), .d (.ref 0), .no, .no, .no, .no, .no, .no, .no, .no, .no, .no, .no, .no] [.pool 0 ns] yes
  rw [law67_eq]
  simp
  refine law_shape_spec (n := 0) (m := 0) (ns := ns) (most := 16) rfl (by decide) (by decide) (by decide) fun sh m1 ok _ _ hm1 => ?_
  have hc := cells_le ok
  have hc1 : 1 ≤ (cellsN sh).length := List.length_pos_iff.mpr (prod_pos ok)
  simp [-List.map_map]
  refine law_cells_spec (sh := sh) isInts_lst ok.l3 (fun m hm => (ok.each m hm).2) ?_
  simp [-List.map_map]
  refine take_spec (n := 0) (m := m1) (ns := ns) rfl (by decide) (by decide) (by omega) fun x m2 x0 x1 _ hm2 => ?_
  obtain ⟨v, hv, hvi, hvl⟩ : ∃ v, atI [D.tup (iD (iN sh)), D.lst (iD (iN sh))] x = some v ∧ (∀ st, isInts st v (iN sh)) ∧ ∀ k, v.lt k := by
    have : x = 0 ∨ x = 1 := by omega
    rcases this with rfl | rfl
    · exact ⟨_, rfl, fun st => isInts_tup, fun k => lt_rT⟩
    · exact ⟨_, rfl, fun st => isInts_lst, fun k => lt_rL⟩
  simp [-List.map_map, hv]
  refine log_init (st := [.pool m2 ns]) (hvi _) ok (hvl _) ?_
  simp [-List.map_map]
  refine take_spec (n := 0) (m := m2) (ns := ns) rfl (by decide) (by decide) (by omega) fun y m3 y0 y1 _ hm3 => ?_
  obtain ⟨R, rfl⟩ : ∃ R : Nat, y = R := ⟨y.toNat, by omega⟩
  simp [-List.map_map]
  refine ⟨by omega, ?_⟩
  refine for_of (T := fun (i : Nat) => D.int (i : Int)) (P := fun l env s => ∃ own bs x seen e9 e10 e11 e12 e13, env = env67 ns sh own bs x seen e9 e10 e11 e12 e13 ∧ St67 ns sh l.length s own x bs seen) ?_ ?_ (List.range R) _ _ ⟨[], [], .non, [], .no, .no, .no, .no, .no, rfl, ⟨m3, rfl, by simp; omega⟩, (⟨rfl, rfl⟩ : LogAt [C.pool m3 ns, logC sh 2, C.lst []] 1 2 sh []), ⟨ok, by simp, fun c h => by cases h⟩, ⟨ok, by simp, fun c h => by cases h⟩, .inl ⟨rfl, rfl⟩, by simp; omega, by simp; omega, by simp; omega, fun y h => by cases h⟩
  · rintro env s ⟨own, bs, x, seen, e9, e10, e11, e12, e13, rfl, h⟩
    refine ⟨by simp, ?_⟩
    have hsl := h.sl
    simp [-List.map_map]
    refine kept_spec h.log h.po (by omega) h.se fun s => ?_
    simp [yes]
  · rintro i l env s ⟨own, bs, x, seen, e9, e10, e11, e12, e13, rfl, h⟩ nx hnx
    refine ⟨by simp, ?_⟩
    have hR : (i :: l).length = l.length + 1 := rfl
    rw [hR] at h
    have hsl := h.sl
    have hlo := h.lo
    have hlb := h.lb
    have hpo := h.po
    have hpb := h.pb
    have tl : ∀ {own bs x e9 e10 e11 e12 e13 s} {kk : AK}, kk.nx = nx → St67 ns sh l.length s own x bs seen → tail67 (env67 ns sh own bs x seen e9 e10 e11 e12 e13) s kk := fun e h => tail_ok h (by omega) fun s2 seen2 h2 => by rw [e]; exact hnx _ _ ⟨_, _, _, _, _, _, _, _, _, rfl, h2⟩
    obtain ⟨ma, hp0, hma⟩ := h.pool
    simp [-List.map_map]
    refine take_spec (n := 0) (m := ma) (ns := ns) hp0 (by decide) (by decide) (by omega) fun z mb z0 z1 _ hmb => ?_
    have hA : St67 ns sh l.length (s.set 0 (.pool mb ns)) own x bs seen := (h.weak (r2 := l.length) (by omega)).draw (by omega)
    have hq0 : (s.set 0 (C.pool mb ns))[0]? = some (.pool mb ns) := set_get hp0
    generalize s.set 0 (C.pool mb ns) = s1 at hA hq0
    have hlen3 : ∀ {s : S} {own x bs}, St67 ns sh l.length s own x bs seen → 3 ≤ s.length := fun h => by have := (List.getElem?_eq_some_iff.mp h.log.m).1; omega
    simp only [rsQ_d]
    have hz : z = 0 ∨ z = 1 ∨ z = 2 ∨ (z = 3 ∧ x ≠ .non) ∨ (z = 3 ∧ x = .non) ∨ z = 4 ∨ z = 5 := by
      rcases Classical.em (x = .non) with hx | hx <;> simp [hx] <;> omega
    rcases hz with rfl | rfl | rfl | ⟨rfl, hx⟩ | hz
    · simp [-List.map_map]
      refine odd_cells_spec ok fun c1 c0 i1 i0 => ?_
      simp [-List.map_map]
      refine take_spec (n := 0) (m := mb) (ns := ns) hq0 (by decide) (by decide) (by omega) fun w mc w0 w1 _ hmc => ?_
      have hB := hA.draw (m := mc) (by omega)
      obtain ⟨kk, rfl⟩ : ∃ kk : Nat, w = kk := ⟨w.toNat, by omega⟩
      have hk8 : kk < (odd67 sh c1 c0).length := by show kk < 8; omega
      have hO := odd67_all ok i1 i0 _ (List.getElem_mem hk8)
      have hat := atI_nat hk8
      generalize (odd67 sh c1 c0)[kk] = v at hO hat
      simp only [rsQ_d, vw_int, vw_lst, ev_oIxA_lst]
      refine ⟨v, hat, ?_⟩
      refine refused_play hB.log ok hO ?_
      simp only [rsQ_d, vw_lst]
      rw [ne_self (shp_cellv hO.shp)]
      simp [-List.map_map]
      exact tl rfl hB
    · simp [-List.map_map]
      refine take_spec (n := 0) (m := mb) (ns := ns) hq0 (by decide) (by decide) (by omega) fun w mc w0 w1 _ hmc => ?_
      have hB := hA.draw (m := mc) (by omega)
      obtain ⟨v, hv, hvk, hvb⟩ : ∃ v, atI [D.int (-1), .int ((own.length : Int) + 1), .bl true, .non, .str "1"] w = some v ∧ okK v ∧ (isIntB v = false ∨ ∃ i, v = .int i ∧ (i < 0 ∨ (own.length : Int) < i)) := by
        have : w = 0 ∨ w = 1 ∨ w = 2 ∨ w = 3 ∨ w = 4 := by omega
        rcases this with rfl | rfl | rfl | rfl | rfl
        · exact ⟨_, rfl, trivial, .inr ⟨_, rfl, .inl (by decide)⟩⟩
        · exact ⟨_, rfl, trivial, .inr ⟨_, rfl, .inr (by omega)⟩⟩
        · exact ⟨_, rfl, trivial, .inl rfl⟩
        · exact ⟨_, rfl, trivial, .inl rfl⟩
        · exact ⟨_, rfl, trivial, .inl rfl⟩
      simp only [rsQ_d, vw_int, vw_lst, ev_oIxA_lst]
      refine ⟨v, hv, ?_⟩
      refine refused_behind hB.log hvk hvb ?_
      simp only [rsQ_d, vw_lst]
      rw [ne_self (shp_strL (by decide +kernel))]
      simp [-List.map_map]
      exact tl rfl hB
    · simp [-List.map_map]
      refine take_spec (n := 0) (m := mb) (ns := ns) (k := (own.length : Int) + 1) hq0 (by omega) (Nat.lt_of_le_of_lt (m := 100) (by omega) (Nat.lt_of_lt_of_le (m := 2 ^ 100) (by decide) (Nat.pow_le_pow_right (by decide) (by decide)))) (by omega) fun w mc w0 w1 _ hmc => ?_
      have hB := hA.draw (m := mc) (by omega)
      obtain ⟨c, rfl⟩ : ∃ c : Nat, w = c := ⟨w.toNat, by omega⟩
      have hcl : c ≤ own.length := by omega
      generalize s1.set 0 (C.pool mc ns) = s2 at hB
      simp only [rsQ_d]
      refine ⟨hB.log.obj_, ?_⟩
      refine behind_spec hB.log hpo hcl ?_
      simp [-List.map_map, -List.map_take]
      rw [cut_take (by simpa using hcl), ← List.map_take]
      have h3 := hlen3 hB
      have hC := hB.app [logC sh (s2.length + 1), .lst ((own.take c).map cD)]
      refine tl rfl ⟨hC.pool, hC.log, hpo, ⟨ok, by simp; omega, fun y hy => hpo.each y (List.mem_of_mem_take hy)⟩, .inr ⟨s2.length, s2.length + 1, rfl, by omega, by omega, ⟨by simp, by simp⟩⟩, hC.lo, by simp; omega, hC.sl, hC.se⟩
    · have hbes : ∃ b k, x = .ref b ∧ 3 ≤ b ∧ 3 ≤ k ∧ LogAt s1 b k sh bs := by
        rcases hA.bes with ⟨e, _⟩ | e
        · exact absurd e hx
        · exact e
      obtain ⟨b, kb, rfl, hb3, hk3, hLb⟩ := hbes
      simp [-List.map_map]
      refine .inl ⟨by rw [hLb.vw_]; rfl, ?_⟩
      refine take_spec (n := 0) (m := mb) (ns := ns) (k := ((cellsN sh).length : Int)) hq0 (by omega) (Nat.lt_of_le_of_lt (m := 100) (by omega) (Nat.lt_of_lt_of_le (m := 2 ^ 100) (by decide) (Nat.pow_le_pow_right (by decide) (by decide)))) (by omega) fun w mc w0 w1 _ hmc => ?_
      have hB := hA.draw (m := mc) (by omega)
      have hLb := hLb.set_ (i := 0) (x := .pool mc ns) (by omega) (by omega)
      generalize s1.set 0 (C.pool mc ns) = s2 at hB hLb
      obtain ⟨c, rfl⟩ : ∃ c : Nat, w = c := ⟨w.toNat, by omega⟩
      have hcl : c < (cellsN sh).length := by omega
      have hat : atI ((cellsN sh).map cD) (c : Int) = some (cD (cellsN sh)[c]) := by rw [atI_nat (by simpa using hcl)]; simp
      have hcm := List.getElem_mem hcl
      generalize (cellsN sh)[c] = cc at hat hcm
      simp only [rsQ_d, vw_int, vw_lst, ev_oIxA_lst]
      refine ⟨cD cc, hat, ?_⟩
      refine ⟨hLb.obj_, ?_⟩
      refine play_spec hLb hpb hcm ?_
      simp [-List.map_map]
      refine .inr ⟨rfl, by omega, ?_⟩
      have hD : St67 ns sh l.length (s2.set kb (.lst ((bs ++ [cc]).map cD))) own (.ref b) (bs ++ [cc]) seen := by
        obtain ⟨m, h1, h2⟩ := hB.pool
        exact ⟨⟨m, by rw [List.getElem?_set_ne (by omega)]; exact h1, h2⟩, hB.log.set_ (by omega) (by omega), hpo, ⟨ok, by simp; omega, fun y hy => by
          rcases List.mem_append.mp hy with hy | hy
          · exact hpb.each y hy
          · rw [List.mem_singleton.mp hy]; exact hcm⟩, .inr ⟨b, kb, rfl, hb3, hk3, hLb.put⟩, hB.lo, by simp; omega, hB.sl, hB.se⟩
      rw [show bs.map cD ++ [cD cc] = (bs ++ [cc]).map cD by simp]
      exact tl rfl hD
    · rcases hz with ⟨rfl, rfl⟩ | rfl | rfl
      all_goals simp [-List.map_map]
      all_goals try refine .inr ⟨rfl, ?_⟩
      all_goals
        refine take_spec (n := 0) (m := mb) (ns := ns) (k := ((cellsN sh).length : Int)) hq0 (by omega) (Nat.lt_of_le_of_lt (m := 100) (by omega) (Nat.lt_of_lt_of_le (m := 2 ^ 100) (by decide) (Nat.pow_le_pow_right (by decide) (by decide)))) (by omega) fun w mc w0 w1 _ hmc => ?_
        have hB := hA.draw (m := mc) (by omega)
        generalize s1.set 0 (C.pool mc ns) = s2 at hB
        obtain ⟨c, rfl⟩ : ∃ c : Nat, w = c := ⟨w.toNat, by omega⟩
        have hcl : c < (cellsN sh).length := by omega
        have hat : atI ((cellsN sh).map cD) (c : Int) = some (cD (cellsN sh)[c]) := by rw [atI_nat (by simpa using hcl)]; simp
        have hcm := List.getElem_mem hcl
        generalize (cellsN sh)[c] = cc at hat hcm
        simp only [rsQ_d, vw_int, vw_lst, ev_oIxA_lst]
        refine ⟨cD cc, hat, ?_⟩
        refine ⟨hB.log.obj_, ?_⟩
        refine play_spec hB.log hpo hcm ?_
        simp [-List.map_map]
        refine .inr ⟨rfl, by omega, ?_⟩
        have hpo2 : Plays sh (own ++ [cc]) := ⟨ok, by simp; omega, fun y hy => by
          rcases List.mem_append.mp hy with hy | hy
          · exact hpo.each y hy
          · rw [List.mem_singleton.mp hy]; exact hcm⟩
        obtain ⟨m, h1, h2⟩ := hB.pool
        rw [show own.map cD ++ [cD cc] = (own ++ [cc]).map cD by simp]
        exact tl rfl ⟨⟨m, by rw [List.getElem?_set_ne (by omega)]; exact h1, h2⟩, hB.log.put, hpo2, hpb, hB.bes.set_ (by decide), by simp; omega, hB.lb, hB.sl, hB.se⟩
end
end LW
set_option Elab.async false
set_option linter.all false
set_option maxRecDepth 100000
set_option maxHeartbeats 0
namespace LW
open PySem PySem.Spec PyProof.Rows L2 AM
def top (i : Nat) : Stmt := PySem.Challenge.pw_everyhint_k67_logs_of_plays.main.body.getD i (.Pass ⟨0, 0, 0, 0⟩)
abbrev s__law_pool : Stmt := top 26
abbrev s__law_size : Stmt := top 30
abbrev s__law_shapes : Stmt := top 29
abbrev s__law_take : Stmt := top 27
abbrev s__law_shape : Stmt := top 31
abbrev s__law_cells : Stmt := top 32
abbrev s_is_integer : Stmt := top 8
abbrev s_are_integers : Stmt := top 9
abbrev s_checked_shape : Stmt := top 17
abbrev s_Log___init__ : Stmt := inClass (top 24) 0
abbrev s__law_odd_cells : Stmt := top 36
abbrev s_is_cell : Stmt := top 19
abbrev s_Log_play : Stmt := inClass (top 24) 3
abbrev s_Log_behind : Stmt := inClass (top 24) 5
abbrev s__law_refused : Stmt := top 34
abbrev s_cells_of : Stmt := top 18
abbrev s_is_mix : Stmt := top 21
abbrev s_divisor : Stmt := top 10
abbrev s_lowest : Stmt := top 11
abbrev s_Hint___init__ : Stmt := inClass (top 22) 0
abbrev s__law_divisor : Stmt := top 28
abbrev s__law_least_terms : Stmt := top 33
abbrev s_Log___len__ : Stmt := inClass (top 24) 1
abbrev s_Log_plays : Stmt := inClass (top 24) 2
abbrev s_Log_hint : Stmt := inClass (top 24) 4
abbrev s_Hint___eq__ : Stmt := inClass (top 22) 4
abbrev s_Hint_weights : Stmt := inClass (top 22) 1
abbrev s__law_same : Stmt := top 35
abbrev s__law_hints : Stmt := top 37
abbrev s__law_kept : Stmt := top 38
abbrev s_law : Stmt := top 39
abbrev sx_BadRatio : Stmt := inClass (top 2) 0
abbrev sx_BadShape : Stmt := inClass (top 3) 0
abbrev sx_BadWeights : Stmt := inClass (top 4) 0
abbrev sx_BadShares : Stmt := inClass (top 5) 0
abbrev sx_NoCell : Stmt := inClass (top 6) 0
structure Fcs (P : Program) (K : PySem.W.Frag) (mg : Str → Option Value) : Prop where
  g__law_pool : mg "_law_pool" = some (.ref (He.ga K "_law_pool"))
  F__law_pool : FunD K "_law_pool" "_law_pool" (defArgs s__law_pool) (defBody s__law_pool) (defScope s__law_pool) [] [] (He.ga K "_law_pool") (fdAt K (He.ga K "_law_pool"))
  g__law_size : mg "_law_size" = some (.ref (He.ga K "_law_size"))
  F__law_size : FunD K "_law_size" "_law_size" (defArgs s__law_size) (defBody s__law_size) (defScope s__law_size) [] [] (He.ga K "_law_size") (fdAt K (He.ga K "_law_size"))
  g__law_shapes : mg "_law_shapes" = some (.ref (He.ga K "_law_shapes"))
  F__law_shapes : FunD K "_law_shapes" "_law_shapes" (defArgs s__law_shapes) (defBody s__law_shapes) (defScope s__law_shapes) [] [] (He.ga K "_law_shapes") (fdAt K (He.ga K "_law_shapes"))
  g__law_take : mg "_law_take" = some (.ref (He.ga K "_law_take"))
  F__law_take : FunD K "_law_take" "_law_take" (defArgs s__law_take) (defBody s__law_take) (defScope s__law_take) [] [] (He.ga K "_law_take") (fdAt K (He.ga K "_law_take"))
  g__law_shape : mg "_law_shape" = some (.ref (He.ga K "_law_shape"))
  F__law_shape : FunD K "_law_shape" "_law_shape" (defArgs s__law_shape) (defBody s__law_shape) (defScope s__law_shape) [] [] (He.ga K "_law_shape") (fdAt K (He.ga K "_law_shape"))
  g__law_cells : mg "_law_cells" = some (.ref (He.ga K "_law_cells"))
  F__law_cells : FunD K "_law_cells" "_law_cells" (defArgs s__law_cells) (defBody s__law_cells) (defScope s__law_cells) [] [] (He.ga K "_law_cells") (fdAt K (He.ga K "_law_cells"))
  g_is_integer : mg "is_integer" = some (.ref (He.ga K "is_integer"))
  F_is_integer : FunD K "is_integer" "is_integer" (defArgs s_is_integer) (defBody s_is_integer) (defScope s_is_integer) [] [] (He.ga K "is_integer") (fdAt K (He.ga K "is_integer"))
  g_are_integers : mg "are_integers" = some (.ref (He.ga K "are_integers"))
  F_are_integers : FunD K "are_integers" "are_integers" (defArgs s_are_integers) (defBody s_are_integers) (defScope s_are_integers) [] [] (He.ga K "are_integers") (fdAt K (He.ga K "are_integers"))
  g_checked_shape : mg "checked_shape" = some (.ref (He.ga K "checked_shape"))
  F_checked_shape : FunD K "checked_shape" "checked_shape" (defArgs s_checked_shape) (defBody s_checked_shape) (defScope s_checked_shape) [] [] (He.ga K "checked_shape") (fdAt K (He.ga K "checked_shape"))
  F_Log___init__ : FunD K "__init__" "Log.__init__" (defArgs s_Log___init__) (defBody s_Log___init__) (defScope s_Log___init__) [] [] (He.ma K (He.ga K "Log") "__init__") (fdAt K (He.ma K (He.ga K "Log") "__init__"))
  g__law_odd_cells : mg "_law_odd_cells" = some (.ref (He.ga K "_law_odd_cells"))
  F__law_odd_cells : FunD K "_law_odd_cells" "_law_odd_cells" (defArgs s__law_odd_cells) (defBody s__law_odd_cells) (defScope s__law_odd_cells) [] [] (He.ga K "_law_odd_cells") (fdAt K (He.ga K "_law_odd_cells"))
  g_is_cell : mg "is_cell" = some (.ref (He.ga K "is_cell"))
  F_is_cell : FunD K "is_cell" "is_cell" (defArgs s_is_cell) (defBody s_is_cell) (defScope s_is_cell) [] [] (He.ga K "is_cell") (fdAt K (He.ga K "is_cell"))
  F_Log_play : FunD K "play" "Log.play" (defArgs s_Log_play) (defBody s_Log_play) (defScope s_Log_play) [] [] (He.ma K (He.ga K "Log") "play") (fdAt K (He.ma K (He.ga K "Log") "play"))
  F_Log_behind : FunD K "behind" "Log.behind" (defArgs s_Log_behind) (defBody s_Log_behind) (defScope s_Log_behind) [] [] (He.ma K (He.ga K "Log") "behind") (fdAt K (He.ma K (He.ga K "Log") "behind"))
  g__law_refused : mg "_law_refused" = some (.ref (He.ga K "_law_refused"))
  F__law_refused : FunD K "_law_refused" "_law_refused" (defArgs s__law_refused) (defBody s__law_refused) (defScope s__law_refused) [] [] (He.ga K "_law_refused") (fdAt K (He.ga K "_law_refused"))
  g_cells_of : mg "cells_of" = some (.ref (He.ga K "cells_of"))
  F_cells_of : FunD K "cells_of" "cells_of" (defArgs s_cells_of) (defBody s_cells_of) (defScope s_cells_of) [] [] (He.ga K "cells_of") (fdAt K (He.ga K "cells_of"))
  g_is_mix : mg "is_mix" = some (.ref (He.ga K "is_mix"))
  F_is_mix : FunD K "is_mix" "is_mix" (defArgs s_is_mix) (defBody s_is_mix) (defScope s_is_mix) [] [] (He.ga K "is_mix") (fdAt K (He.ga K "is_mix"))
  g_divisor : mg "divisor" = some (.ref (He.ga K "divisor"))
  F_divisor : FunD K "divisor" "divisor" (defArgs s_divisor) (defBody s_divisor) (defScope s_divisor) [] [] (He.ga K "divisor") (fdAt K (He.ga K "divisor"))
  g_lowest : mg "lowest" = some (.ref (He.ga K "lowest"))
  F_lowest : FunD K "lowest" "lowest" (defArgs s_lowest) (defBody s_lowest) (defScope s_lowest) [] [] (He.ga K "lowest") (fdAt K (He.ga K "lowest"))
  F_Hint___init__ : FunD K "__init__" "Hint.__init__" (defArgs s_Hint___init__) (defBody s_Hint___init__) (defScope s_Hint___init__) [] [] (He.ma K (He.ga K "Hint") "__init__") (fdAt K (He.ma K (He.ga K "Hint") "__init__"))
  g__law_divisor : mg "_law_divisor" = some (.ref (He.ga K "_law_divisor"))
  F__law_divisor : FunD K "_law_divisor" "_law_divisor" (defArgs s__law_divisor) (defBody s__law_divisor) (defScope s__law_divisor) [] [] (He.ga K "_law_divisor") (fdAt K (He.ga K "_law_divisor"))
  g__law_least_terms : mg "_law_least_terms" = some (.ref (He.ga K "_law_least_terms"))
  F__law_least_terms : FunD K "_law_least_terms" "_law_least_terms" (defArgs s__law_least_terms) (defBody s__law_least_terms) (defScope s__law_least_terms) [] [] (He.ga K "_law_least_terms") (fdAt K (He.ga K "_law_least_terms"))
  F_Log___len__ : FunD K "__len__" "Log.__len__" (defArgs s_Log___len__) (defBody s_Log___len__) (defScope s_Log___len__) [] [] (He.ma K (He.ga K "Log") "__len__") (fdAt K (He.ma K (He.ga K "Log") "__len__"))
  F_Log_plays : FunD K "plays" "Log.plays" (defArgs s_Log_plays) (defBody s_Log_plays) (defScope s_Log_plays) [] [] (He.ma K (He.ga K "Log") "plays") (fdAt K (He.ma K (He.ga K "Log") "plays"))
  F_Log_hint : FunD K "hint" "Log.hint" (defArgs s_Log_hint) (defBody s_Log_hint) (defScope s_Log_hint) [] [] (He.ma K (He.ga K "Log") "hint") (fdAt K (He.ma K (He.ga K "Log") "hint"))
  F_Hint___eq__ : FunD K "__eq__" "Hint.__eq__" (defArgs s_Hint___eq__) (defBody s_Hint___eq__) (defScope s_Hint___eq__) [] [] (He.ma K (He.ga K "Hint") "__eq__") (fdAt K (He.ma K (He.ga K "Hint") "__eq__"))
  F_Hint_weights : FunD K "weights" "Hint.weights" (defArgs s_Hint_weights) (defBody s_Hint_weights) (defScope s_Hint_weights) [] [] (He.ma K (He.ga K "Hint") "weights") (fdAt K (He.ma K (He.ga K "Hint") "weights"))
  g__law_same : mg "_law_same" = some (.ref (He.ga K "_law_same"))
  F__law_same : FunD K "_law_same" "_law_same" (defArgs s__law_same) (defBody s__law_same) (defScope s__law_same) [] [] (He.ga K "_law_same") (fdAt K (He.ga K "_law_same"))
  g__law_hints : mg "_law_hints" = some (.ref (He.ga K "_law_hints"))
  F__law_hints : FunD K "_law_hints" "_law_hints" (defArgs s__law_hints) (defBody s__law_hints) (defScope s__law_hints) [] [] (He.ga K "_law_hints") (fdAt K (He.ga K "_law_hints"))
  g__law_kept : mg "_law_kept" = some (.ref (He.ga K "_law_kept"))
  F__law_kept : FunD K "_law_kept" "_law_kept" (defArgs s__law_kept) (defBody s__law_kept) (defScope s__law_kept) [] [] (He.ga K "_law_kept") (fdAt K (He.ga K "_law_kept"))
  g_law : mg "law" = some (.ref (He.ga K "law"))
  F_law : FunD K "law" "law" (defArgs s_law) (defBody s_law) (defScope s_law) [] [] (He.ga K "law") (fdAt K (He.ga K "law"))
  n_list : mg "list" = none
  n_range : mg "range" = none
  n_int : mg "int" = none
  n_len : mg "len" = none
  n_max : mg "max" = none
  n_tuple : mg "tuple" = none
  n_isinstance : mg "isinstance" = none
  n_bool : mg "bool" = none
  n_all : mg "all" = none
  k_MOST_CELLS : ∃ t, mg "MOST_CELLS" = some (.int 16 t)
  g_BadShape : mg "BadShape" = some (.ref (He.ga K "BadShape"))
  X_BadShape : XC P K mg (He.ga K "BadShape") (He.ma K (He.ga K "BadShape") "__init__") (fdAt K (He.ma K (He.ga K "BadShape") "__init__")) (defArgs sx_BadShape) (defBody sx_BadShape) (defScope sx_BadShape)
  k_MOST_MOVES : ∃ t, mg "MOST_MOVES" = some (.int 4 t)
  k_MOST_PLAYERS : ∃ t, mg "MOST_PLAYERS" = some (.int 3 t)
  C_Log : Cls K (He.ga K "Log")
  NA_Log_made : NoAttr K (He.ga K "Log") "made"
  NA_Log_shape : NoAttr K (He.ga K "Log") "shape"
  n_zip : mg "zip" = none
  g_NoCell : mg "NoCell" = some (.ref (He.ga K "NoCell"))
  X_NoCell : XC P K mg (He.ga K "NoCell") (He.ma K (He.ga K "NoCell") "__init__") (fdAt K (He.ma K (He.ga K "NoCell") "__init__")) (defArgs sx_NoCell) (defBody sx_NoCell) (defScope sx_NoCell)
  NX_NoCell : PySem.W.findIn K (.ref (He.ga K "NoCell")) "cell" = some none
  Me_Log_play : Meth K (He.ga K "Log") "play" (He.ma K (He.ga K "Log") "play")
  Me_Log___init__ : Meth K (He.ga K "Log") "__init__" (He.ma K (He.ga K "Log") "__init__")
  Mk_Log : Mk K (He.ga K "Log") (He.ma K (He.ga K "Log") "__init__")
  g_Log : mg "Log" = some (.ref (He.ga K "Log"))
  g_BadShares : mg "BadShares" = some (.ref (He.ga K "BadShares"))
  X_BadShares : XC P K mg (He.ga K "BadShares") (He.ma K (He.ga K "BadShares") "__init__") (fdAt K (He.ma K (He.ga K "BadShares") "__init__")) (defArgs sx_BadShares) (defBody sx_BadShares) (defScope sx_BadShares)
  M_BadShape_NoCell : PySem.W.exmOne K (.ref (He.ga K "BadShape")) (.ref (He.ga K "NoCell")) = some false
  M_NoCell_NoCell : PySem.W.exmOne K (.ref (He.ga K "NoCell")) (.ref (He.ga K "NoCell")) = some true
  M_BadShares_NoCell : PySem.W.exmOne K (.ref (He.ga K "BadShares")) (.ref (He.ga K "NoCell")) = some false
  M_BadWeights_NoCell : PySem.W.exmOne K (.ref (He.ga K "BadWeights")) (.ref (He.ga K "NoCell")) = some false
  M_BadShape_BadShares : PySem.W.exmOne K (.ref (He.ga K "BadShape")) (.ref (He.ga K "BadShares")) = some false
  M_NoCell_BadShares : PySem.W.exmOne K (.ref (He.ga K "NoCell")) (.ref (He.ga K "BadShares")) = some false
  M_BadShares_BadShares : PySem.W.exmOne K (.ref (He.ga K "BadShares")) (.ref (He.ga K "BadShares")) = some true
  M_BadWeights_BadShares : PySem.W.exmOne K (.ref (He.ga K "BadWeights")) (.ref (He.ga K "BadShares")) = some false
  M_BadShape_BadShape : PySem.W.exmOne K (.ref (He.ga K "BadShape")) (.ref (He.ga K "BadShape")) = some true
  M_NoCell_BadShape : PySem.W.exmOne K (.ref (He.ga K "NoCell")) (.ref (He.ga K "BadShape")) = some false
  M_BadShares_BadShape : PySem.W.exmOne K (.ref (He.ga K "BadShares")) (.ref (He.ga K "BadShape")) = some false
  M_BadWeights_BadShape : PySem.W.exmOne K (.ref (He.ga K "BadWeights")) (.ref (He.ga K "BadShape")) = some false
  Me_Log_behind : Meth K (He.ga K "Log") "behind" (He.ma K (He.ga K "Log") "behind")
  XF_NoCell : XfC K (He.ga K "NoCell")
  NF_NoCell_cell : PySem.W.findIn K (.ref (He.ga K "NoCell")) "cell" = some none
  n_sum : mg "sum" = none
  n_abs : mg "abs" = none
  C_Hint : Cls K (He.ga K "Hint")
  NA_Hint_part_of : NoAttr K (He.ga K "Hint") "part_of"
  NA_Hint_places : NoAttr K (He.ga K "Hint") "places"
  NA_Hint_parts : NoAttr K (He.ga K "Hint") "parts"
  n_dict : mg "dict" = none
  NA_Hint_unit : NoAttr K (He.ga K "Hint") "unit"
  g_BadWeights : mg "BadWeights" = some (.ref (He.ga K "BadWeights"))
  X_BadWeights : XC P K mg (He.ga K "BadWeights") (He.ma K (He.ga K "BadWeights") "__init__") (fdAt K (He.ma K (He.ga K "BadWeights") "__init__")) (defArgs sx_BadWeights) (defBody sx_BadWeights) (defScope sx_BadWeights)
  NA_Hint_shape : NoAttr K (He.ga K "Hint") "shape"
  Me_Hint___init__ : Meth K (He.ga K "Hint") "__init__" (He.ma K (He.ga K "Hint") "__init__")
  Mk_Hint : Mk K (He.ga K "Hint") (He.ma K (He.ga K "Hint") "__init__")
  g_Hint : mg "Hint" = some (.ref (He.ga K "Hint"))
  IC_Hint : IsiC K (He.ga K "Hint")
  IC_Log : IsiC K (He.ga K "Log")
  IO_Hint_Log : PySem.W.kitOne K (.ref (He.ga K "Hint")) (.ref (He.ga K "Log")) = some false
  IT_NoneType_Hint : PySem.W.kitOne K (.type "NoneType") (.ref (He.ga K "Hint")) = some false
  IT_bool_Hint : PySem.W.kitOne K (.type "bool") (.ref (He.ga K "Hint")) = some false
  IT_int_Hint : PySem.W.kitOne K (.type "int") (.ref (He.ga K "Hint")) = some false
  IT_str_Hint : PySem.W.kitOne K (.type "str") (.ref (He.ga K "Hint")) = some false
  IT_list_Hint : PySem.W.kitOne K (.type "list") (.ref (He.ga K "Hint")) = some false
  IT_tuple_Hint : PySem.W.kitOne K (.type "tuple") (.ref (He.ga K "Hint")) = some false
  IT_dict_Hint : PySem.W.kitOne K (.type "dict") (.ref (He.ga K "Hint")) = some false
  IO_Log_Hint : PySem.W.kitOne K (.ref (He.ga K "Log")) (.ref (He.ga K "Hint")) = some false
  IT_NoneType_Log : PySem.W.kitOne K (.type "NoneType") (.ref (He.ga K "Log")) = some false
  IT_bool_Log : PySem.W.kitOne K (.type "bool") (.ref (He.ga K "Log")) = some false
  IT_int_Log : PySem.W.kitOne K (.type "int") (.ref (He.ga K "Log")) = some false
  IT_str_Log : PySem.W.kitOne K (.type "str") (.ref (He.ga K "Log")) = some false
  IT_list_Log : PySem.W.kitOne K (.type "list") (.ref (He.ga K "Log")) = some false
  IT_tuple_Log : PySem.W.kitOne K (.type "tuple") (.ref (He.ga K "Log")) = some false
  IT_dict_Log : PySem.W.kitOne K (.type "dict") (.ref (He.ga K "Log")) = some false
  Me_Hint___eq__ : Meth K (He.ga K "Hint") "__eq__" (He.ma K (He.ga K "Hint") "__eq__")
  NF_Hint : PySem.W.notFirst K (He.ga K "Hint") (.ref (He.ga K "Hint")) = true
  Me_Hint_weights : Meth K (He.ga K "Hint") "weights" (He.ma K (He.ga K "Hint") "weights")
  Me_Log_hint : Meth K (He.ga K "Log") "hint" (He.ma K (He.ga K "Log") "hint")
  Me_Log_plays : Meth K (He.ga K "Log") "plays" (He.ma K (He.ga K "Log") "plays")
  Me_Log___len__ : Meth K (He.ga K "Log") "__len__" (He.ma K (He.ga K "Log") "__len__")
section
variable {P : Program} {w : World} {K : PySem.W.Frag} {mg : Str → Option Value} {base : Heap}
theorem okx_BadShape (T : Fcs P K mg) : FnOk P w K mg base CX0 1 (He.ma K (He.ga K "BadShape") "__init__") (fdAt K (He.ma K (He.ga K "BadShape") "__init__")) ["self"] (spX0 (He.ga K "BadShape")) := xfn0 T.X_BadShape (fun env => ⟨_, rfl⟩) rfl rfl rfl rfl rfl rfl (by decide +kernel) rfl rfl
theorem bx_BadShape (T : Fcs P K mg) : Binds K (fdAt K (He.ma K (He.ga K "BadShape") "__init__")) ["self"] [] := T.X_BadShape.binds fun _ _ _ _ _ _ _ _ us hl => match us, hl with | [_], _ => rfl
theorem okx_NoCell (T : Fcs P K mg) : FnOk P w K mg base CX0 1 (He.ma K (He.ga K "NoCell") "__init__") (fdAt K (He.ma K (He.ga K "NoCell") "__init__")) ["self", "cell"] (spX1 (He.ga K "NoCell") "cell") := xfn1 T.X_NoCell (fun env => ⟨_, rfl⟩) rfl rfl rfl rfl rfl rfl rfl (by decide +kernel) rfl rfl T.NX_NoCell (by decide) (by decide) (fun _ => rfl)
theorem bx_NoCell (T : Fcs P K mg) : Binds K (fdAt K (He.ma K (He.ga K "NoCell") "__init__")) ["self", "cell"] [] := T.X_NoCell.binds fun _ _ _ _ _ _ _ _ us hl => match us, hl with | [_, _], _ => rfl
theorem okx_BadShares (T : Fcs P K mg) : FnOk P w K mg base CX0 1 (He.ma K (He.ga K "BadShares") "__init__") (fdAt K (He.ma K (He.ga K "BadShares") "__init__")) ["self"] (spX0 (He.ga K "BadShares")) := xfn0 T.X_BadShares (fun env => ⟨_, rfl⟩) rfl rfl rfl rfl rfl rfl (by decide +kernel) rfl rfl
theorem bx_BadShares (T : Fcs P K mg) : Binds K (fdAt K (He.ma K (He.ga K "BadShares") "__init__")) ["self"] [] := T.X_BadShares.binds fun _ _ _ _ _ _ _ _ us hl => match us, hl with | [_], _ => rfl
theorem okx_BadWeights (T : Fcs P K mg) : FnOk P w K mg base CX0 1 (He.ma K (He.ga K "BadWeights") "__init__") (fdAt K (He.ma K (He.ga K "BadWeights") "__init__")) ["self"] (spX0 (He.ga K "BadWeights")) := xfn0 T.X_BadWeights (fun env => ⟨_, rfl⟩) rfl rfl rfl rfl rfl rfl (by decide +kernel) rfl rfl
theorem bx_BadWeights (T : Fcs P K mg) : Binds K (fdAt K (He.ma K (He.ga K "BadWeights") "__init__")) ["self"] [] := T.X_BadWeights.binds fun _ _ _ _ _ _ _ _ us hl => match us, hl with | [_], _ => rfl
theorem xm_NoCell_ok (T : Fcs P K mg) : ∀ c b, xm_NoCell c = some b → PySem.W.exmOne K (.ref (He.ga K c)) (.ref (He.ga K "NoCell")) = some b := fun c b h => by
  unfold xm_NoCell at h
  split at h
  · rename_i e; subst e; rw [T.M_BadShape_NoCell]; exact h
  split at h
  · rename_i e; subst e; rw [T.M_NoCell_NoCell]; exact h
  split at h
  · rename_i e; subst e; rw [T.M_BadShares_NoCell]; exact h
  split at h
  · rename_i e; subst e; rw [T.M_BadWeights_NoCell]; exact h
  cases h
theorem xm_BadShares_ok (T : Fcs P K mg) : ∀ c b, xm_BadShares c = some b → PySem.W.exmOne K (.ref (He.ga K c)) (.ref (He.ga K "BadShares")) = some b := fun c b h => by
  unfold xm_BadShares at h
  split at h
  · rename_i e; subst e; rw [T.M_BadShape_BadShares]; exact h
  split at h
  · rename_i e; subst e; rw [T.M_NoCell_BadShares]; exact h
  split at h
  · rename_i e; subst e; rw [T.M_BadShares_BadShares]; exact h
  split at h
  · rename_i e; subst e; rw [T.M_BadWeights_BadShares]; exact h
  cases h
theorem xm_BadShape_ok (T : Fcs P K mg) : ∀ c b, xm_BadShape c = some b → PySem.W.exmOne K (.ref (He.ga K c)) (.ref (He.ga K "BadShape")) = some b := fun c b h => by
  unfold xm_BadShape at h
  split at h
  · rename_i e; subst e; rw [T.M_BadShape_BadShape]; exact h
  split at h
  · rename_i e; subst e; rw [T.M_NoCell_BadShape]; exact h
  split at h
  · rename_i e; subst e; rw [T.M_BadShares_BadShape]; exact h
  split at h
  · rename_i e; subst e; rw [T.M_BadWeights_BadShape]; exact h
  cases h
theorem io_ok (T : Fcs P K mg) : ∀ c' c b, ioT c' c = some b → IsiC K (He.ga K c') ∧ PySem.W.kitOne K (.ref (He.ga K c')) (.ref (He.ga K c)) = some b := fun c' c b h => by
  unfold ioT at h
  split at h
  · rename_i e; obtain ⟨rfl, rfl⟩ := e; cases h; exact ⟨T.IC_Hint, kit_self⟩
  split at h
  · rename_i e; obtain ⟨rfl, rfl⟩ := e; cases h; exact ⟨T.IC_Hint, T.IO_Hint_Log⟩
  split at h
  · rename_i e; obtain ⟨rfl, rfl⟩ := e; cases h; exact ⟨T.IC_Log, T.IO_Log_Hint⟩
  split at h
  · rename_i e; obtain ⟨rfl, rfl⟩ := e; cases h; exact ⟨T.IC_Log, kit_self⟩
  cases h
theorem it_ok (T : Fcs P K mg) : ∀ t c b, itT t c = some b → PySem.W.kitOne K (.type t) (.ref (He.ga K c)) = some b := fun t c b h => by
  unfold itT at h
  by_cases e : t = "NoneType" ∧ c = "Hint"
  · rw [if_pos e] at h; obtain ⟨rfl, rfl⟩ := e; cases h; exact T.IT_NoneType_Hint
  rw [if_neg e] at h; clear e
  by_cases e : t = "NoneType" ∧ c = "Log"
  · rw [if_pos e] at h; obtain ⟨rfl, rfl⟩ := e; cases h; exact T.IT_NoneType_Log
  rw [if_neg e] at h; clear e
  by_cases e : t = "bool" ∧ c = "Hint"
  · rw [if_pos e] at h; obtain ⟨rfl, rfl⟩ := e; cases h; exact T.IT_bool_Hint
  rw [if_neg e] at h; clear e
  by_cases e : t = "bool" ∧ c = "Log"
  · rw [if_pos e] at h; obtain ⟨rfl, rfl⟩ := e; cases h; exact T.IT_bool_Log
  rw [if_neg e] at h; clear e
  by_cases e : t = "int" ∧ c = "Hint"
  · rw [if_pos e] at h; obtain ⟨rfl, rfl⟩ := e; cases h; exact T.IT_int_Hint
  rw [if_neg e] at h; clear e
  by_cases e : t = "int" ∧ c = "Log"
  · rw [if_pos e] at h; obtain ⟨rfl, rfl⟩ := e; cases h; exact T.IT_int_Log
  rw [if_neg e] at h; clear e
  by_cases e : t = "str" ∧ c = "Hint"
  · rw [if_pos e] at h; obtain ⟨rfl, rfl⟩ := e; cases h; exact T.IT_str_Hint
  rw [if_neg e] at h; clear e
  by_cases e : t = "str" ∧ c = "Log"
  · rw [if_pos e] at h; obtain ⟨rfl, rfl⟩ := e; cases h; exact T.IT_str_Log
  rw [if_neg e] at h; clear e
  by_cases e : t = "list" ∧ c = "Hint"
  · rw [if_pos e] at h; obtain ⟨rfl, rfl⟩ := e; cases h; exact T.IT_list_Hint
  rw [if_neg e] at h; clear e
  by_cases e : t = "list" ∧ c = "Log"
  · rw [if_pos e] at h; obtain ⟨rfl, rfl⟩ := e; cases h; exact T.IT_list_Log
  rw [if_neg e] at h; clear e
  by_cases e : t = "tuple" ∧ c = "Hint"
  · rw [if_pos e] at h; obtain ⟨rfl, rfl⟩ := e; cases h; exact T.IT_tuple_Hint
  rw [if_neg e] at h; clear e
  by_cases e : t = "tuple" ∧ c = "Log"
  · rw [if_pos e] at h; obtain ⟨rfl, rfl⟩ := e; cases h; exact T.IT_tuple_Log
  rw [if_neg e] at h; clear e
  by_cases e : t = "dict" ∧ c = "Hint"
  · rw [if_pos e] at h; obtain ⟨rfl, rfl⟩ := e; cases h; exact T.IT_dict_Hint
  rw [if_neg e] at h; clear e
  by_cases e : t = "dict" ∧ c = "Log"
  · rw [if_pos e] at h; obtain ⟨rfl, rfl⟩ := e; cases h; exact T.IT_dict_Log
  rw [if_neg e] at h; clear e
  cases h
theorem b__law_size_0 (T : Fcs P K mg) : BindsD K (fdAt K (He.ga K "_law_size")) ["_law_shape_here"] [] := .no (T.F__law_size.bindsN fun _ _ _ _ _ _ us hl => match us, hl with | [_], _ => rfl)
theorem b__law_take_0 (T : Fcs P K mg) : BindsD K (fdAt K (He.ga K "_law_take")) ["_law_pool_here", "_law_many"] [] := .no (T.F__law_take.bindsN fun _ _ _ _ _ _ us hl => match us, hl with | [_, _], _ => rfl)
theorem b__law_shapes_0 (T : Fcs P K mg) : BindsD K (fdAt K (He.ga K "_law_shapes")) ["_law_most"] [] := .no (T.F__law_shapes.bindsN fun _ _ _ _ _ _ us hl => match us, hl with | [_], _ => rfl)
theorem b_is_integer_0 (T : Fcs P K mg) : BindsD K (fdAt K (He.ga K "is_integer")) ["value"] [] := .no (T.F_is_integer.bindsN fun _ _ _ _ _ _ us hl => match us, hl with | [_], _ => rfl)
theorem b_are_integers_0 (T : Fcs P K mg) : BindsD K (fdAt K (He.ga K "are_integers")) ["value"] [] := .no (T.F_are_integers.bindsN fun _ _ _ _ _ _ us hl => match us, hl with | [_], _ => rfl)
theorem b_checked_shape_0 (T : Fcs P K mg) : BindsD K (fdAt K (He.ga K "checked_shape")) ["shape"] [] := .no (T.F_checked_shape.bindsN fun _ _ _ _ _ _ us hl => match us, hl with | [_], _ => rfl)
theorem b_is_cell_0 (T : Fcs P K mg) : BindsD K (fdAt K (He.ga K "is_cell")) ["shape", "value"] [] := .no (T.F_is_cell.bindsN fun _ _ _ _ _ _ us hl => match us, hl with | [_, _], _ => rfl)
theorem b_Log_play_0 (T : Fcs P K mg) : BindsD K (fdAt K (He.ma K (He.ga K "Log") "play")) ["self", "cell"] [] := .no (T.F_Log_play.bindsN fun _ _ _ _ _ _ us hl => match us, hl with | [_, _], _ => rfl)
theorem b_Log___init___0 (T : Fcs P K mg) : BindsD K (fdAt K (He.ma K (He.ga K "Log") "__init__")) ["self", "shape"] [] := .no (T.F_Log___init__.bindsN fun _ _ _ _ _ _ us hl => match us, hl with | [_, _], _ => rfl)
theorem b_Log_behind_0 (T : Fcs P K mg) : BindsD K (fdAt K (He.ma K (He.ga K "Log") "behind")) ["self", "count"] [] := .no (T.F_Log_behind.bindsN fun _ _ _ _ _ _ us hl => match us, hl with | [_, _], _ => rfl)
theorem b_divisor_0 (T : Fcs P K mg) : BindsD K (fdAt K (He.ga K "divisor")) ["numbers"] [] := .no (T.F_divisor.bindsN fun _ _ _ _ _ _ us hl => match us, hl with | [_], _ => rfl)
theorem b_lowest_0 (T : Fcs P K mg) : BindsD K (fdAt K (He.ga K "lowest")) ["numbers"] [] := .no (T.F_lowest.bindsN fun _ _ _ _ _ _ us hl => match us, hl with | [_], _ => rfl)
theorem b_is_mix_0 (T : Fcs P K mg) : BindsD K (fdAt K (He.ga K "is_mix")) ["value", "count"] [] := .no (T.F_is_mix.bindsN fun _ _ _ _ _ _ us hl => match us, hl with | [_, _], _ => rfl)
theorem b_cells_of_0 (T : Fcs P K mg) : BindsD K (fdAt K (He.ga K "cells_of")) ["shape"] [] := .no (T.F_cells_of.bindsN fun _ _ _ _ _ _ us hl => match us, hl with | [_], _ => rfl)
theorem b__law_divisor_0 (T : Fcs P K mg) : BindsD K (fdAt K (He.ga K "_law_divisor")) ["_law_numbers"] [] := .no (T.F__law_divisor.bindsN fun _ _ _ _ _ _ us hl => match us, hl with | [_], _ => rfl)
theorem b_Hint___init___0 (T : Fcs P K mg) : BindsD K (fdAt K (He.ma K (He.ga K "Hint") "__init__")) ["self", "shape", "weights"] [] := .no (T.F_Hint___init__.bindsN fun _ _ _ _ _ _ us hl => match us, hl with | [_, _, _], _ => rfl)
theorem b_Hint___eq___0 (T : Fcs P K mg) : BindsD K (fdAt K (He.ma K (He.ga K "Hint") "__eq__")) ["self", "other"] [] := .no (T.F_Hint___eq__.bindsN fun _ _ _ _ _ _ us hl => match us, hl with | [_, _], _ => rfl)
theorem b_Hint_weights_0 (T : Fcs P K mg) : BindsD K (fdAt K (He.ma K (He.ga K "Hint") "weights")) ["self"] [] := .no (T.F_Hint_weights.bindsN fun _ _ _ _ _ _ us hl => match us, hl with | [_], _ => rfl)
theorem b__law_least_terms_0 (T : Fcs P K mg) : BindsD K (fdAt K (He.ga K "_law_least_terms")) ["_law_numbers"] [] := .no (T.F__law_least_terms.bindsN fun _ _ _ _ _ _ us hl => match us, hl with | [_], _ => rfl)
theorem b__law_cells_0 (T : Fcs P K mg) : BindsD K (fdAt K (He.ga K "_law_cells")) ["_law_shape_here"] [] := .no (T.F__law_cells.bindsN fun _ _ _ _ _ _ us hl => match us, hl with | [_], _ => rfl)
theorem b_Log_hint_0 (T : Fcs P K mg) : BindsD K (fdAt K (He.ma K (He.ga K "Log") "hint")) ["self"] [] := .no (T.F_Log_hint.bindsN fun _ _ _ _ _ _ us hl => match us, hl with | [_], _ => rfl)
theorem b_Log_plays_0 (T : Fcs P K mg) : BindsD K (fdAt K (He.ma K (He.ga K "Log") "plays")) ["self"] [] := .no (T.F_Log_plays.bindsN fun _ _ _ _ _ _ us hl => match us, hl with | [_], _ => rfl)
theorem b_Log___len___0 (T : Fcs P K mg) : BindsD K (fdAt K (He.ma K (He.ga K "Log") "__len__")) ["self"] [] := .no (T.F_Log___len__.bindsN fun _ _ _ _ _ _ us hl => match us, hl with | [_], _ => rfl)
theorem b__law_refused_0 (T : Fcs P K mg) : BindsD K (fdAt K (He.ga K "_law_refused")) ["_law_which", "_law_log", "_law_value"] [] := .no (T.F__law_refused.bindsN fun _ _ _ _ _ _ us hl => match us, hl with | [_, _, _], _ => rfl)
theorem b__law_kept_0 (T : Fcs P K mg) : BindsD K (fdAt K (He.ga K "_law_kept")) ["_law_log", "_law_own", "_law_seen"] [] := .no (T.F__law_kept.bindsN fun _ _ _ _ _ _ us hl => match us, hl with | [_, _, _], _ => rfl)
theorem b__law_hints_0 (T : Fcs P K mg) : BindsD K (fdAt K (He.ga K "_law_hints")) ["_law_logs"] [] := .no (T.F__law_hints.bindsN fun _ _ _ _ _ _ us hl => match us, hl with | [_], _ => rfl)
theorem b__law_same_0 (T : Fcs P K mg) : BindsD K (fdAt K (He.ga K "_law_same")) ["_law_log", "_law_shape_here", "_law_own"] [] := .no (T.F__law_same.bindsN fun _ _ _ _ _ _ us hl => match us, hl with | [_, _, _], _ => rfl)
theorem b__law_odd_cells_0 (T : Fcs P K mg) : BindsD K (fdAt K (He.ga K "_law_odd_cells")) ["_law_shape_here", "_law_listed"] [] := .no (T.F__law_odd_cells.bindsN fun _ _ _ _ _ _ us hl => match us, hl with | [_, _], _ => rfl)
theorem b__law_shape_0 (T : Fcs P K mg) : BindsD K (fdAt K (He.ga K "_law_shape")) ["_law_pool_here", "_law_most"] [] := .no (T.F__law_shape.bindsN fun _ _ _ _ _ _ us hl => match us, hl with | [_, _], _ => rfl)
theorem b__law_pool_0 (T : Fcs P K mg) : BindsD K (fdAt K (He.ga K "_law_pool")) ["_law_script"] [] := .no (T.F__law_pool.bindsN fun _ _ _ _ _ _ us hl => match us, hl with | [_], _ => rfl)
theorem sc__law_pool : FnScope ["_law_script"] ["_law_script"] (defScope s__law_pool) := ⟨rfl, rfl, rfl, by decide +kernel, rfl, by decide +kernel, by decide +kernel⟩
theorem ok__law_pool (T : Fcs P K mg) : FnOk P w K mg base (L2N.CX P w) 1 (He.ga K "_law_pool") (fdAt K (He.ga K "_law_pool")) ["_law_script"] (SpA K m__law_pool) :=
  fn_ok (k := 0) T.F__law_pool sc__law_pool leadsP fun cdv A outer s H E C =>
    axb_one (axs_retF (axf_lst (axa_cons (ax_int) (axa_cons (ax_int) (axa_cons (ax_listScr 0 T.n_list) (axa_nil))))))
theorem sc__law_size : FnScope ["_law_shape_here", "_law_size_here", "_law_count"] ["_law_shape_here"] (defScope s__law_size) := ⟨rfl, rfl, rfl, by decide +kernel, rfl, by decide +kernel, by decide +kernel⟩
theorem ok__law_size (T : Fcs P K mg) : FnOk P w K mg base (L2N.CX P w) 1 (He.ga K "_law_size") (fdAt K (He.ga K "_law_size")) ["_law_shape_here"] (SpA K m__law_size) :=
  fn_ok (k := 0) T.F__law_size sc__law_size leadsP fun cdv A outer s H E C =>
    axb_cons (axs_set (i := 1) C.nd (ax_int))
    (axb_cons (axs_for C (axi_seq (ax_var 0)) (axg_name (i := 2) C.toCxE.nd) (axb_one (axs_set (i := 1) C.nd (ax_op op_Mul (ax_var 1) (ax_var 2)))))
    (axb_one (axs_ret (ax_var 1))))
theorem sc__law_shapes : FnScope ["_law_most", "_law_found", "_law_a", "_law_b", "_law_shape_here", "_law_c"] ["_law_most"] (defScope s__law_shapes) := ⟨rfl, rfl, rfl, by decide +kernel, rfl, by decide +kernel, by decide +kernel⟩
theorem ok__law_shapes (T : Fcs P K mg) : FnOk P w K mg base (L2N.CX P w) 2 (He.ga K "_law_shapes") (fdAt K (He.ga K "_law_shapes")) ["_law_most"] (SpA K m__law_shapes) :=
  fn_ok (k := 1) T.F__law_shapes sc__law_shapes leadsP fun cdv A outer s H E C =>
    axb_cons ((axs_setLc (i := 1) [("_law_a", 2)] C.toCxE (blk_of rfl) (axi_rng2 T.n_range (ax_int) (ax_int)) (fun s0 H0 _ _ fp0 => axgc_name (i := 2) (CxE.blk C.toCxE s0 H0 _ _ fp0).nd) (fun s0 H0 _ _ fp0 => axts_nil) (fun s0 H0 _ _ fp0 => ax_lst (axa_cons (ax_var 2) (axa_nil)))).1)
    (axb_cons (axs_for C (axi_rng2 T.n_range (ax_int) (ax_int)) (axg_name (i := 2) C.toCxE.nd) (axb_one (axs_set (i := 1) C.nd (ax_op op_Add (ax_var 1) (axf_e (axf_lc [("_law_b", 3)] C.toCxE (blk_of rfl) (axi_rng2 T.n_range (ax_int) (ax_int)) (fun s0 H0 _ _ fp0 => axgc_name (i := 3) (CxE.blk C.toCxE s0 H0 _ _ fp0).nd) (fun s0 H0 _ _ fp0 => axts_nil) (fun s0 H0 _ _ fp0 => ax_lst (axa_cons (ax_var 2) (axa_cons (ax_var 3) (axa_nil))))))))))
    (axb_cons (axs_for C (axi_rng2 T.n_range (ax_int) (ax_int)) (axg_name (i := 2) C.toCxE.nd) (axb_one (axs_for C (axi_rng2 T.n_range (ax_int) (ax_int)) (axg_name (i := 3) C.toCxE.nd) (axb_one (axs_set (i := 1) C.nd (ax_op op_Add (ax_var 1) (axf_e (axf_lc [("_law_c", 5)] C.toCxE (blk_of rfl) (axi_rng2 T.n_range (ax_int) (ax_int)) (fun s0 H0 _ _ fp0 => axgc_name (i := 5) (CxE.blk C.toCxE s0 H0 _ _ fp0).nd) (fun s0 H0 _ _ fp0 => axts_nil) (fun s0 H0 _ _ fp0 => ax_lst (axa_cons (ax_var 2) (axa_cons (ax_var 3) (axa_cons (ax_var 5) (axa_nil)))))))))))))
    (axb_one (axs_retF (axf_lc [("_law_shape_here", 4)] C.toCxE (blk_of rfl) (axi_seq (ax_var 1)) (fun s0 H0 _ _ fp0 => axgc_name (i := 4) (CxE.blk C.toCxE s0 H0 _ _ fp0).nd) (fun s0 H0 _ _ fp0 => axts_one (axt_cmp op_Le (ax_call (CxE.blk C.toCxE s0 H0 _ _ fp0) (ok__law_size T) T.g__law_size T.F__law_size.kp (b__law_size_0 T) (fun _ => .nil) (axa_cons (ax_var 4) (axa_nil)) (by decide)) (ax_var 0))) (fun s0 H0 _ _ fp0 => ax_var 4))))))
theorem sc__law_take : FnScope ["_law_pool_here", "_law_many", "_law_digit", "_law_at", "_law_drawn", "_law_mixed"] ["_law_pool_here", "_law_many"] (defScope s__law_take) := ⟨rfl, rfl, rfl, by decide +kernel, rfl, by decide +kernel, by decide +kernel⟩
theorem ok__law_take (T : Fcs P K mg) : FnOk P w K mg base (L2N.CX P w) 1 (He.ga K "_law_take") (fdAt K (He.ga K "_law_take")) ["_law_pool_here", "_law_many"] (SpA K m__law_take) :=
  FnOk.weak (m := fnP 2 6 aTake) (fn_ok (k := 0) T.F__law_take sc__law_take leadsP fun cdv A outer s H E C =>
    axb_cons (axs_if (axt_cmp (op_Eq C.toCxE) (ax_poolIx (c := 1) 0) (ax_int)) (axb_cons (axs_set (i := 3) C.nd (ax_poolIx (c := 0) 0))
    (axb_cons (axs_poolSet (c := 0) 0 (ax_op op_Add (ax_var 3) (ax_int)))
    (axb_cons (axs_set (i := 4) C.nd (ax_ix op_Ix (ax_op op_Add (ax_poolIx (c := 2) 0) (ax_lst (axa_cons (ax_int) (axa_nil)))) (ax_op op_Mod (ax_callTy cb_int T.n_int rfl (axa_cons (ax_var 3) (axa_nil))) (ax_callB (cb_max2 C.toCxE) T.n_max rfl (axa_cons (ax_int) (axa_cons (ax_callB cb_len T.n_len rfl (axa_cons (ax_poolIx (c := 2) 0) (axa_nil))) (axa_nil)))))))
    (axb_cons (axs_set (i := 5) C.nd (ax_op op_Mod (ax_op op_Pow (ax_op op_Add (ax_op op_Add (ax_op op_Mod (ax_callTy cb_int T.n_int rfl (axa_cons (ax_var 4) (axa_nil))) (ax_int)) (ax_op op_Mul (ax_int) (ax_var 3))) (ax_int)) (ax_int)) (ax_int)))
    (axb_cons (axs_set (i := 5) C.nd (ax_op op_Mod (ax_op op_Pow (ax_op op_Add (ax_op op_Add (ax_var 5) (ax_op op_Mul (ax_int) (ax_var 3))) (ax_int)) (ax_int)) (ax_int)))
    (axb_cons (axs_if (axt_cmp op_Lt (ax_var 4) (ax_op op_Pow (ax_int) (ax_int))) (axb_one (axs_ret (ax_op op_Mod (ax_op op_Fdiv (ax_var 5) (ax_int)) (ax_var 1)))) (axb_nil))
    (axb_one (axs_poolSet (c := 1) 0 (ax_var 4))))))))) (axb_nil))
    (axb_cons (axs_set (i := 2) C.nd (ax_op op_Mod (ax_callTy cb_int T.n_int rfl (axa_cons (ax_poolIx (c := 1) 0) (axa_nil))) (ax_var 1)))
    (axb_cons (axs_poolSet (c := 1) 0 (ax_op op_Fdiv (ax_poolIx (c := 1) 0) (ax_var 1)))
    (axb_one (axs_ret (ax_var 2)))))) take_ok
theorem sc__law_shape : FnScope ["_law_pool_here", "_law_most", "_law_found"] ["_law_pool_here", "_law_most"] (defScope s__law_shape) := ⟨rfl, rfl, rfl, by decide +kernel, rfl, by decide +kernel, by decide +kernel⟩
theorem ok__law_shape (T : Fcs P K mg) : FnOk P w K mg base (L2N.CX P w) 3 (He.ga K "_law_shape") (fdAt K (He.ga K "_law_shape")) ["_law_pool_here", "_law_most"] (SpA K m__law_shape) :=
  fn_ok (k := 2) T.F__law_shape sc__law_shape leadsP fun cdv A outer s H E C =>
    axb_cons (axs_set (i := 2) C.nd (ax_call C.toCxE (ok__law_shapes T) T.g__law_shapes T.F__law_shapes.kp (b__law_shapes_0 T) (fun _ => .nil) (axa_cons (ax_var 1) (axa_nil)) (by decide)))
    (axb_one (axs_ret (ax_ix (op_IxA C.toCxE) (ax_var 2) (ax_call C.toCxE (ok__law_take T) T.g__law_take T.F__law_take.kp (b__law_take_0 T) (fun _ => .nil) (axa_cons (ax_var 0) (axa_cons (ax_callB cb_len T.n_len rfl (axa_cons (ax_var 2) (axa_nil))) (axa_nil))) (by decide)))))
theorem sc__law_cells : FnScope ["_law_shape_here", "_law_found", "_law_count", "_law_longer", "_law_cell", "_law_move"] ["_law_shape_here"] (defScope s__law_cells) := ⟨rfl, rfl, rfl, by decide +kernel, rfl, by decide +kernel, by decide +kernel⟩
theorem ok__law_cells (T : Fcs P K mg) : FnOk P w K mg base (L2N.CX P w) 1 (He.ga K "_law_cells") (fdAt K (He.ga K "_law_cells")) ["_law_shape_here"] (SpA K m__law_cells) :=
  fn_ok (k := 0) T.F__law_cells sc__law_cells leadsP fun cdv A outer s H E C =>
    axb_cons (axs_set (i := 1) C.nd (ax_lst (axa_cons (ax_lst (axa_nil)) (axa_nil))))
    (axb_cons (axs_for C (axi_seq (ax_var 0)) (axg_name (i := 2) C.toCxE.nd) (axb_cons (axs_set (i := 3) C.nd (ax_lst (axa_nil)))
    (axb_cons (axs_for C (axi_seq (ax_var 1)) (axg_name (i := 4) C.toCxE.nd) (axb_one (axs_set (i := 3) C.nd (ax_op op_Add (ax_var 3) (axf_e (axf_lc [("_law_move", 5)] C.toCxE (blk_of rfl) (axi_rng1 T.n_range (ax_var 2)) (fun s0 H0 _ _ fp0 => axgc_name (i := 5) (CxE.blk C.toCxE s0 H0 _ _ fp0).nd) (fun s0 H0 _ _ fp0 => axts_nil) (fun s0 H0 _ _ fp0 => ax_op op_Add (ax_var 4) (ax_lst (axa_cons (ax_var 5) (axa_nil))))))))))
    (axb_one (axs_set (i := 1) C.nd (ax_var 3))))))
    (axb_one (axs_retF (axf_lc [("_law_cell", 4)] C.toCxE (blk_of rfl) (axi_seq (ax_var 1)) (fun s0 H0 _ _ fp0 => axgc_name (i := 4) (CxE.blk C.toCxE s0 H0 _ _ fp0).nd) (fun s0 H0 _ _ fp0 => axts_nil) (fun s0 H0 _ _ fp0 => ax_callTy cb_tuple T.n_tuple rfl (axa_cons (ax_var 4) (axa_nil)))))))
theorem sc_is_integer : FnScope ["value"] ["value"] (defScope s_is_integer) := ⟨rfl, rfl, rfl, by decide +kernel, rfl, by decide +kernel, by decide +kernel⟩
theorem ok_is_integer (T : Fcs P K mg) : FnOk P w K mg base (L2N.CX P w) 1 (He.ga K "is_integer") (fdAt K (He.ga K "is_integer")) ["value"] (SpA K m_is_integer) :=
  fn_ok (k := 0) T.F_is_integer sc_is_integer leadsP fun cdv A outer s H E C =>
    axb_one (axs_ret (ax_and (ax_callB cb_isi T.n_isinstance rfl (axa_cons (ax_var 0) (axa_cons (ax_ty T.n_int rfl) (axa_nil)))) (ax_one (ax_not (ax_callB cb_isi T.n_isinstance rfl (axa_cons (ax_var 0) (axa_cons (ax_ty T.n_bool rfl) (axa_nil))))))))
theorem sc_are_integers : FnScope ["value", "item"] ["value"] (defScope s_are_integers) := ⟨rfl, rfl, rfl, by decide +kernel, rfl, by decide +kernel, by decide +kernel⟩
theorem ok_are_integers (T : Fcs P K mg) : FnOk P w K mg base (L2N.CX P w) 2 (He.ga K "are_integers") (fdAt K (He.ga K "are_integers")) ["value"] (SpA K m_are_integers) :=
  fn_ok (k := 1) T.F_are_integers sc_are_integers leadsP fun cdv A outer s H E C =>
    axb_one (axs_ret (ax_and (ax_callB cb_isi T.n_isinstance rfl (axa_cons (ax_var 0) (axa_cons (ax_tup (axa_cons (ax_ty T.n_list rfl) (axa_cons (ax_ty T.n_tuple rfl) (axa_nil)))) (axa_nil)))) (ax_one (ax_callB (cb_all C.toCxE) T.n_all rfl (axa_cons (axf_e (axf_lc [("item", 1)] C.toCxE (blk_of rfl) (axi_seq (ax_var 0)) (fun s0 H0 _ _ fp0 => axgc_name (i := 1) (CxE.blk C.toCxE s0 H0 _ _ fp0).nd) (fun s0 H0 _ _ fp0 => axts_nil) (fun s0 H0 _ _ fp0 => ax_call (CxE.blk C.toCxE s0 H0 _ _ fp0) (ok_is_integer T) T.g_is_integer T.F_is_integer.kp (b_is_integer_0 T) (fun _ => .nil) (axa_cons (ax_var 1) (axa_nil)) (by decide)))) (axa_nil))))))
theorem sc_checked_shape : FnScope ["shape", "size", "count"] ["shape"] (defScope s_checked_shape) := ⟨rfl, rfl, rfl, by decide +kernel, rfl, by decide +kernel, by decide +kernel⟩
theorem ok_checked_shape (T : Fcs P K mg) : FnOk P w K mg base (L2N.CX P w) 3 (He.ga K "checked_shape") (fdAt K (He.ga K "checked_shape")) ["shape"] (SpA K m_checked_shape) :=
  fn_ok (k := 2) T.F_checked_shape sc_checked_shape leadsP fun cdv A outer s H E C =>
    axb_cons (axs_if (axt_w (axw_or (axt_not (axt_val (ax_call C.toCxE (ok_are_integers T) T.g_are_integers T.F_are_integers.kp (b_are_integers_0 T) (fun _ => .nil) (axa_cons (ax_var 0) (axa_nil)) (by decide)))) (axw_or1 (axt_not (axt_chain op_Le op_Le (ax_int) (ax_callB cb_len T.n_len rfl (axa_cons (ax_var 0) (axa_nil))) (ax_gInt T.k_MOST_PLAYERS)))))) (axb_one (axs_raise0 (k := 1) (C.mono (by decide)) T.X_BadShape.ox T.X_BadShape.ini T.X_BadShape.tyf (okx_BadShape T) (bx_BadShape T) T.g_BadShape)) (axb_nil))
    (axb_cons (axs_set (i := 1) C.nd (ax_int))
    (axb_cons (axs_for C (axi_seq (ax_var 0)) (axg_name (i := 2) C.toCxE.nd) (axb_cons (axs_if (axt_not (axt_chain op_Le op_Le (ax_int) (ax_var 2) (ax_gInt T.k_MOST_MOVES))) (axb_one (axs_raise0 (k := 1) (C.mono (by decide)) T.X_BadShape.ox T.X_BadShape.ini T.X_BadShape.tyf (okx_BadShape T) (bx_BadShape T) T.g_BadShape)) (axb_nil))
    (axb_one (axs_set (i := 1) C.nd (ax_op op_Mul (ax_var 1) (ax_var 2))))))
    (axb_cons (axs_if (axt_cmp op_Gt (ax_var 1) (ax_gInt T.k_MOST_CELLS)) (axb_one (axs_raise0 (k := 1) (C.mono (by decide)) T.X_BadShape.ox T.X_BadShape.ini T.X_BadShape.tyf (okx_BadShape T) (bx_BadShape T) T.g_BadShape)) (axb_nil))
    (axb_one (axs_ret (ax_callTy cb_tuple T.n_tuple rfl (axa_cons (ax_var 0) (axa_nil))))))))
theorem sc_Log___init__ : FnScope ["self", "shape"] ["self", "shape"] (defScope s_Log___init__) := ⟨rfl, rfl, rfl, by decide +kernel, rfl, by decide +kernel, by decide +kernel⟩
theorem ok_Log___init__ (T : Fcs P K mg) : FnOk P w K mg base (L2N.CX P w) 4 (He.ma K (He.ga K "Log") "__init__") (fdAt K (He.ma K (He.ga K "Log") "__init__")) ["self", "shape"] (SpA K m_Log___init__) :=
  fn_ok (k := 3) T.F_Log___init__ sc_Log___init__ leadsP fun cdv A outer s H E C =>
    axb_cons (axs_fld (ax_var 0) (ax_call C.toCxE (ok_checked_shape T) T.g_checked_shape T.F_checked_shape.kp (b_checked_shape_0 T) (fun _ => .nil) (axa_cons (ax_var 1) (axa_nil)) (by decide)) T.C_Log T.NA_Log_shape)
    (axb_one (axs_fld (ax_var 0) (ax_cellL (axf_lst (axa_nil))) T.C_Log T.NA_Log_made))
theorem sc__law_odd_cells : FnScope ["_law_shape_here", "_law_listed", "_law_odd"] ["_law_shape_here", "_law_listed"] (defScope s__law_odd_cells) := ⟨rfl, rfl, rfl, by decide +kernel, rfl, by decide +kernel, by decide +kernel⟩
theorem ok__law_odd_cells (T : Fcs P K mg) : FnOk P w K mg base (L2N.CX P w) 1 (He.ga K "_law_odd_cells") (fdAt K (He.ga K "_law_odd_cells")) ["_law_shape_here", "_law_listed"] (SpA K m__law_odd_cells) :=
  fn_ok (k := 0) T.F__law_odd_cells sc__law_odd_cells leadsP fun cdv A outer s H E C =>
    axb_cons (axs_set (i := 2) C.nd (ax_lst (axa_cons (ax_op op_Add (ax_ix (op_IxA C.toCxE) (ax_var 1) (ax_un op_Neg (ax_int))) (ax_tup (axa_cons (ax_int) (axa_nil)))) (axa_cons (ax_sl (ax_ix (op_IxA C.toCxE) (ax_var 1) (ax_un op_Neg (ax_int))) (axp_at (ax_int)) (axp_no)) (axa_cons (ax_callTy cb_list T.n_list rfl (axa_cons (ax_ix (op_IxA C.toCxE) (ax_var 1) (ax_int)) (axa_nil))) (axa_cons (ax_op op_RepT (ax_tup (axa_cons (ax_un op_Neg (ax_int)) (axa_nil))) (ax_callB cb_len T.n_len rfl (axa_cons (ax_var 0) (axa_nil)))) (axa_cons (ax_non) (axa_cons (ax_int) (axa_nil)))))))))
    (axb_one (axs_ret (ax_op op_Add (ax_var 2) (ax_lst (axa_cons (ax_op op_RepT (ax_tup (axa_cons (ax_bl) (axa_nil))) (ax_callB cb_len T.n_len rfl (axa_cons (ax_var 0) (axa_nil)))) (axa_cons (ax_op op_RepT (ax_tup (axa_cons (ax_bl) (axa_nil))) (ax_callB cb_len T.n_len rfl (axa_cons (ax_var 0) (axa_nil)))) (axa_nil)))))))
theorem sc_is_cell : FnScope ["shape", "value", "move", "count"] ["shape", "value"] (defScope s_is_cell) := ⟨rfl, rfl, rfl, by decide +kernel, rfl, by decide +kernel, by decide +kernel⟩
theorem ok_is_cell (T : Fcs P K mg) : FnOk P w K mg base (L2N.CX P w) 3 (He.ga K "is_cell") (fdAt K (He.ga K "is_cell")) ["shape", "value"] (SpA K m_is_cell) :=
  fn_ok (k := 2) T.F_is_cell sc_is_cell leadsP fun cdv A outer s H E C =>
    axb_cons (axs_if (axt_w (axw_or (axt_not (axt_val (ax_callB cb_isi T.n_isinstance rfl (axa_cons (ax_var 1) (axa_cons (ax_ty T.n_tuple rfl) (axa_nil)))))) (axw_or (axt_cmp (op_Ne C.toCxE) (ax_callB cb_len T.n_len rfl (axa_cons (ax_var 1) (axa_nil))) (ax_callB cb_len T.n_len rfl (axa_cons (ax_var 0) (axa_nil)))) (axw_or1 (axt_not (axt_val (ax_call C.toCxE (ok_are_integers T) T.g_are_integers T.F_are_integers.kp (b_are_integers_0 T) (fun _ => .nil) (axa_cons (ax_var 1) (axa_nil)) (by decide)))))))) (axb_one (axs_ret (ax_bl))) (axb_nil))
    (axb_one (axs_ret (ax_callB (cb_all C.toCxE) T.n_all rfl (axa_cons (axf_e (axf_lc [("move", 2), ("count", 3)] C.toCxE (blk_of rfl) (axi_zip T.n_zip (ax_var 1) (ax_var 0)) (fun s0 H0 _ _ fp0 => axgc_tup (n := 2) (CxE.blk C.toCxE s0 H0 _ _ fp0).calm (axgcs_cons (axgc_name (i := 2) (CxE.blk C.toCxE s0 H0 _ _ fp0).nd) (axgcs_cons (axgc_name (i := 3) (CxE.blk C.toCxE s0 H0 _ _ fp0).nd) (axgcs_nil)))) (fun s0 H0 _ _ fp0 => axts_nil) (fun s0 H0 _ _ fp0 => ax_chain op_Le op_Lt (ax_int) (ax_var 2) (ax_var 3)))) (axa_nil)))))
theorem sc_Log_play : FnScope ["self", "cell"] ["self", "cell"] (defScope s_Log_play) := ⟨rfl, rfl, rfl, by decide +kernel, rfl, by decide +kernel, by decide +kernel⟩
theorem ok_Log_play (T : Fcs P K mg) : FnOk P w K mg base (L2N.CX P w) 4 (He.ma K (He.ga K "Log") "play") (fdAt K (He.ma K (He.ga K "Log") "play")) ["self", "cell"] (SpA K m_Log_play) :=
  fn_ok (k := 3) T.F_Log_play sc_Log_play leadsP fun cdv A outer s H E C =>
    axb_cons (axs_if (axt_not (axt_val (ax_call C.toCxE (ok_is_cell T) T.g_is_cell T.F_is_cell.kp (b_is_cell_0 T) (fun _ => .nil) (axa_cons (ax_fld (ax_var 0) (List.forall_mem_cons.mpr ⟨⟨T.C_Log, T.NA_Log_shape⟩, fun _ h => by cases h⟩)) (axa_cons (ax_var 1) (axa_nil))) (by decide)))) (axb_one (axs_raise1 (k := 1) (C.mono (by decide)) T.X_NoCell.ox T.X_NoCell.ini T.X_NoCell.tyf (okx_NoCell T) (bx_NoCell T) T.g_NoCell (ax_var 1))) (axb_nil))
    (axb_one (axs_expr (ax_app (ax_fld (ax_var 0) (List.forall_mem_cons.mpr ⟨⟨T.C_Log, T.NA_Log_made⟩, fun _ h => by cases h⟩)) (ax_var 1))))
theorem sc_Log_behind : FnScope ["self", "count", "other", "cell"] ["self", "count"] (defScope s_Log_behind) := ⟨rfl, rfl, rfl, by decide +kernel, rfl, by decide +kernel, by decide +kernel⟩
theorem ok_Log_behind (T : Fcs P K mg) : FnOk P w K mg base (L2N.CX P w) 6 (He.ma K (He.ga K "Log") "behind") (fdAt K (He.ma K (He.ga K "Log") "behind")) ["self", "count"] (SpA K m_Log_behind) :=
  fn_ok (k := 5) T.F_Log_behind sc_Log_behind leadsP fun cdv A outer s H E C =>
    axb_cons (axs_if (axt_w (axw_or (axt_not (axt_val (ax_call C.toCxE (ok_is_integer T) T.g_is_integer T.F_is_integer.kp (b_is_integer_0 T) (fun _ => .nil) (axa_cons (ax_var 1) (axa_nil)) (by decide)))) (axw_or1 (axt_not (axt_chain op_Le op_Le (ax_int) (ax_var 1) (ax_callB cb_len T.n_len rfl (axa_cons (ax_fld (ax_var 0) (List.forall_mem_cons.mpr ⟨⟨T.C_Log, T.NA_Log_made⟩, fun _ h => by cases h⟩)) (axa_nil)))))))) (axb_one (axs_raise0 (k := 1) (C.mono (by decide)) T.X_BadShares.ox T.X_BadShares.ini T.X_BadShares.tyf (okx_BadShares T) (bx_BadShares T) T.g_BadShares)) (axb_nil))
    (axb_cons (axs_set (i := 2) C.nd (ax_newC C.toCxE T.Mk_Log (ok_Log___init__ T) T.g_Log (b_Log___init___0 T) (fun _ => .nil) (axa_cons (ax_fld (ax_var 0) (List.forall_mem_cons.mpr ⟨⟨T.C_Log, T.NA_Log_shape⟩, fun _ h => by cases h⟩)) (axa_nil)) (by decide)))
    (axb_cons (axs_for C (axi_seq (ax_sl (ax_fld (ax_var 0) (List.forall_mem_cons.mpr ⟨⟨T.C_Log, T.NA_Log_made⟩, fun _ h => by cases h⟩)) (axp_no) (axp_at (ax_var 1)))) (axg_name (i := 3) C.toCxE.nd) (axb_one (axs_expr (ax_methV C.toCxE (ax_var 2) T.C_Log T.Me_Log_play (ok_Log_play T) (b_Log_play_0 T) (fun _ => .nil) (axa_cons (ax_var 3) (axa_nil)) (by decide)))))
    (axb_one (axs_ret (ax_var 2)))))
theorem sc__law_refused : FnScope ["_law_which", "_law_log", "_law_value", "error"] ["_law_which", "_law_log", "_law_value"] (defScope s__law_refused) := ⟨rfl, rfl, rfl, by decide +kernel, rfl, by decide +kernel, by decide +kernel⟩
theorem ok__law_refused (T : Fcs P K mg) : FnOk P w K mg base (L2N.CX P w) 7 (He.ga K "_law_refused") (fdAt K (He.ga K "_law_refused")) ["_law_which", "_law_log", "_law_value"] (SpA K m__law_refused) :=
  fn_ok (k := 6) T.F__law_refused sc__law_refused leadsP fun cdv A outer s H E C =>
    axb_cons (axs_tryMix C (fun _ _ _ C1 => axb_cons (axs_if (axt_cmp (op_Eq C1.toCxE) (ax_var 0) (ax_int)) (axb_one (axs_expr (ax_methV C1.toCxE (ax_var 1) T.C_Log T.Me_Log_play (ok_Log_play T) (b_Log_play_0 T) (fun _ => .nil) (axa_cons (ax_var 2) (axa_nil)) (by decide)))) (axb_nil))
    (axb_cons (axs_if (axt_cmp (op_Eq C1.toCxE) (ax_var 0) (ax_int)) (axb_one (axs_expr (ax_methV C1.toCxE (ax_var 1) T.C_Log T.Me_Log_behind (ok_Log_behind T) (b_Log_behind_0 T) (fun _ => .nil) (axa_cons (ax_var 2) (axa_nil)) (by decide)))) (axb_nil))
    (axb_one (axs_if (axt_cmp (op_Eq C1.toCxE) (ax_var 0) (ax_int)) (axb_one (axs_expr (ax_newC C1.toCxE T.Mk_Log (ok_Log___init__ T) T.g_Log (b_Log___init___0 T) (fun _ => .nil) (axa_cons (ax_var 2) (axa_nil)) (by decide)))) (axb_nil))))) (axm_named (i := 3) T.g_NoCell (xm_NoCell_ok T) (fun a oe c d pn hz hf => axb_one (axs_ret (ax_lst (axa_cons (ax_str) (axa_cons (ax_xf (i := 3) T.XF_NoCell T.NF_NoCell_cell hz hf) (axa_nil)))))) (axm_bare T.g_BadShares (xm_BadShares_ok T) (fun a oe c d pn hz hf => axb_one (axs_ret (ax_lst (axa_cons (ax_str) (axa_nil))))) (axm_bare T.g_BadShape (xm_BadShape_ok T) (fun a oe c d pn hz hf => axb_one (axs_ret (ax_lst (axa_cons (ax_str) (axa_nil))))) (axm_nil)))))
    (axb_one (axs_retF (axf_lst (axa_nil))))
theorem sc_cells_of : FnScope ["shape", "found", "count", "cell", "move"] ["shape"] (defScope s_cells_of) := ⟨rfl, rfl, rfl, by decide +kernel, rfl, by decide +kernel, by decide +kernel⟩
theorem ok_cells_of (T : Fcs P K mg) : FnOk P w K mg base (L2N.CX P w) 1 (He.ga K "cells_of") (fdAt K (He.ga K "cells_of")) ["shape"] (SpA K m_cells_of) :=
  fn_ok (k := 0) T.F_cells_of sc_cells_of leadsP fun cdv A outer s H E C =>
    axb_cons (axs_set (i := 1) C.nd (ax_lst (axa_cons (ax_tup (axa_nil)) (axa_nil))))
    (axb_cons (axs_for C (axi_seq (ax_var 0)) (axg_name (i := 2) C.toCxE.nd) (axb_one ((axs_setLc2 (i := 1) [("cell", 3), ("move", 4)] [4] C.toCxE (blk_of rfl) (axi_seq (ax_var 1)) (fun s0 H0 _ _ fp0 => axgc_name (i := 3) (CxE.blk C.toCxE s0 H0 _ _ fp0).nd) (fun s0 H0 _ _ fp0 => axts_nil) (fun s0 H0 _ _ fp0 => axi_rng1 T.n_range (ax_var 2)) (fun s0 H0 _ _ fp0 => axgc_name (i := 4) (CxE.blk C.toCxE s0 H0 _ _ fp0).nd) (fun s0 H0 _ _ fp0 => axts_nil) (fun s0 H0 _ _ fp0 => ax_tup (axa_star (ax_var 3) (axa_cons (ax_var 4) (axa_nil))))).1)))
    (axb_one (axs_ret (ax_var 1))))
theorem sc_is_mix : FnScope ["value", "count", "item"] ["value", "count"] (defScope s_is_mix) := ⟨rfl, rfl, rfl, by decide +kernel, rfl, by decide +kernel, by decide +kernel⟩
theorem ok_is_mix (T : Fcs P K mg) : FnOk P w K mg base (L2N.CX P w) 3 (He.ga K "is_mix") (fdAt K (He.ga K "is_mix")) ["value", "count"] (SpA K m_is_mix) :=
  fn_ok (k := 2) T.F_is_mix sc_is_mix leadsP fun cdv A outer s H E C =>
    axb_one (axs_ret (ax_and (ax_call C.toCxE (ok_are_integers T) T.g_are_integers T.F_are_integers.kp (b_are_integers_0 T) (fun _ => .nil) (axa_cons (ax_var 0) (axa_nil)) (by decide)) (ax_and (ax_cmp (op_Eq C.toCxE) (ax_callB cb_len T.n_len rfl (axa_cons (ax_var 0) (axa_nil))) (ax_var 1)) (ax_and (ax_callB (cb_all C.toCxE) T.n_all rfl (axa_cons (axf_e (axf_lc [("item", 2)] C.toCxE (blk_of rfl) (axi_seq (ax_var 0)) (fun s0 H0 _ _ fp0 => axgc_name (i := 2) (CxE.blk C.toCxE s0 H0 _ _ fp0).nd) (fun s0 H0 _ _ fp0 => axts_nil) (fun s0 H0 _ _ fp0 => ax_cmp op_Ge (ax_var 2) (ax_int)))) (axa_nil))) (ax_one (ax_cmp op_Gt (ax_callB (cb_sumA C.toCxE) T.n_sum rfl (axa_cons (ax_var 0) (axa_nil))) (ax_int)))))))
theorem sc_divisor : FnScope ["numbers", "found", "number", "one", "other"] ["numbers"] (defScope s_divisor) := ⟨rfl, rfl, rfl, by decide +kernel, rfl, by decide +kernel, by decide +kernel⟩
theorem ok_divisor (T : Fcs P K mg) : FnOk P w K mg base (L2N.CX P w) 1 (He.ga K "divisor") (fdAt K (He.ga K "divisor")) ["numbers"] (SpA K m_divisor) :=
  fn_ok (k := 0) T.F_divisor sc_divisor leadsP fun cdv A outer s H E C =>
    axb_cons (axs_set (i := 1) C.nd (ax_int))
    (axb_cons (axs_for C (axi_seq (ax_var 0)) (axg_name (i := 2) C.toCxE.nd) (axb_cons (axs_par (i := 3) (j := 4) C.calm C.nd (axa_cons (ax_callB cb_abs T.n_abs rfl (axa_cons (ax_var 2) (axa_nil))) (axa_cons (ax_var 1) (axa_nil))))
    (axb_cons (axs_while C (axt_val (ax_var 4)) (axb_one (axs_par (i := 3) (j := 4) C.calm C.nd (axa_cons (ax_var 4) (axa_cons (ax_op op_Mod (ax_var 3) (ax_var 4)) (axa_nil))))))
    (axb_one (axs_set (i := 1) C.nd (ax_var 3))))))
    (axb_one (axs_ret (ax_var 1))))
theorem sc_lowest : FnScope ["numbers", "part", "number"] ["numbers"] (defScope s_lowest) := ⟨rfl, rfl, rfl, by decide +kernel, rfl, by decide +kernel, by decide +kernel⟩
theorem ok_lowest (T : Fcs P K mg) : FnOk P w K mg base (L2N.CX P w) 2 (He.ga K "lowest") (fdAt K (He.ga K "lowest")) ["numbers"] (SpA K m_lowest) :=
  fn_ok (k := 1) T.F_lowest sc_lowest leadsP fun cdv A outer s H E C =>
    axb_cons (axs_set (i := 1) C.nd (ax_call C.toCxE (ok_divisor T) T.g_divisor T.F_divisor.kp (b_divisor_0 T) (fun _ => .nil) (axa_cons (ax_var 0) (axa_nil)) (by decide)))
    (axb_one (axs_retF (axf_if (axt_val (ax_var 1)) (axf_lc [("number", 2)] C.toCxE (blk_of rfl) (axi_seq (ax_var 0)) (fun s0 H0 _ _ fp0 => axgc_name (i := 2) (CxE.blk C.toCxE s0 H0 _ _ fp0).nd) (fun s0 H0 _ _ fp0 => axts_nil) (fun s0 H0 _ _ fp0 => ax_op op_Fdiv (ax_var 2) (ax_var 1))) (axf_list T.n_list (ax_var 0)))))
theorem sc_Hint___init__ : FnScope ["self", "shape", "weights"] ["self", "shape", "weights"] (defScope s_Hint___init__) := ⟨rfl, rfl, rfl, by decide +kernel, rfl, by decide +kernel, by decide +kernel⟩
theorem ok_Hint___init__ (T : Fcs P K mg) : FnOk P w K mg base (L2N.CX P w) 4 (He.ma K (He.ga K "Hint") "__init__") (fdAt K (He.ma K (He.ga K "Hint") "__init__")) ["self", "shape", "weights"] (SpA K m_Hint___init__) :=
  fn_ok (k := 3) T.F_Hint___init__ sc_Hint___init__ leadsP fun cdv A outer s H E C =>
    axb_cons (axs_fld (ax_var 0) (ax_call C.toCxE (ok_checked_shape T) T.g_checked_shape T.F_checked_shape.kp (b_checked_shape_0 T) (fun _ => .nil) (axa_cons (ax_var 1) (axa_nil)) (by decide)) T.C_Hint T.NA_Hint_shape)
    (axb_cons (axs_fld (ax_var 0) (ax_call C.toCxE (ok_cells_of T) T.g_cells_of T.F_cells_of.kp (b_cells_of_0 T) (fun _ => .nil) (axa_cons (ax_fld (ax_var 0) (List.forall_mem_cons.mpr ⟨⟨T.C_Hint, T.NA_Hint_shape⟩, fun _ h => by cases h⟩)) (axa_nil)) (by decide)) T.C_Hint T.NA_Hint_places)
    (axb_cons (axs_if (axt_not (axt_val (ax_call C.toCxE (ok_is_mix T) T.g_is_mix T.F_is_mix.kp (b_is_mix_0 T) (fun _ => .nil) (axa_cons (ax_var 2) (axa_cons (ax_callB cb_len T.n_len rfl (axa_cons (ax_fld (ax_var 0) (List.forall_mem_cons.mpr ⟨⟨T.C_Hint, T.NA_Hint_places⟩, fun _ h => by cases h⟩)) (axa_nil))) (axa_nil))) (by decide)))) (axb_one (axs_raise0 (k := 1) (C.mono (by decide)) T.X_BadWeights.ox T.X_BadWeights.ini T.X_BadWeights.tyf (okx_BadWeights T) (bx_BadWeights T) T.g_BadWeights)) (axb_nil))
    (axb_cons (axs_fld (ax_var 0) (ax_call C.toCxE (ok_lowest T) T.g_lowest T.F_lowest.kp (b_lowest_0 T) (fun _ => .nil) (axa_cons (ax_var 2) (axa_nil)) (by decide)) T.C_Hint T.NA_Hint_parts)
    (axb_cons (axs_fld (ax_var 0) (ax_callB (cb_sum C.toCxE) T.n_sum rfl (axa_cons (ax_fld (ax_var 0) (List.forall_mem_cons.mpr ⟨⟨T.C_Hint, T.NA_Hint_parts⟩, fun _ h => by cases h⟩)) (axa_nil))) T.C_Hint T.NA_Hint_unit)
    (axb_one (axs_fld (ax_var 0) (axd_e (axd_zip C.toCxE T.n_dict T.n_zip (ax_fld (ax_var 0) (List.forall_mem_cons.mpr ⟨⟨T.C_Hint, T.NA_Hint_places⟩, fun _ h => by cases h⟩)) (ax_fld (ax_var 0) (List.forall_mem_cons.mpr ⟨⟨T.C_Hint, T.NA_Hint_parts⟩, fun _ h => by cases h⟩)))) T.C_Hint T.NA_Hint_part_of))))))
theorem sc__law_divisor : FnScope ["_law_numbers", "_law_found", "_law_number", "_law_one", "_law_other"] ["_law_numbers"] (defScope s__law_divisor) := ⟨rfl, rfl, rfl, by decide +kernel, rfl, by decide +kernel, by decide +kernel⟩
theorem ok__law_divisor (T : Fcs P K mg) : FnOk P w K mg base (L2N.CX P w) 1 (He.ga K "_law_divisor") (fdAt K (He.ga K "_law_divisor")) ["_law_numbers"] (SpA K m__law_divisor) :=
  fn_ok (k := 0) T.F__law_divisor sc__law_divisor leadsP fun cdv A outer s H E C =>
    axb_cons (axs_set (i := 1) C.nd (ax_int))
    (axb_cons (axs_for C (axi_seq (ax_var 0)) (axg_name (i := 2) C.toCxE.nd) (axb_cons (axs_set (i := 3) C.nd (ax_callB cb_abs T.n_abs rfl (axa_cons (ax_var 2) (axa_nil))))
    (axb_cons (axs_set (i := 4) C.nd (ax_var 1))
    (axb_cons (axs_while C (axt_cmp (op_Ne C.toCxE) (ax_var 4) (ax_int)) (axb_one (axs_par (i := 3) (j := 4) C.calm C.nd (axa_cons (ax_var 4) (axa_cons (ax_op op_Mod (ax_callTy cb_int T.n_int rfl (axa_cons (ax_var 3) (axa_nil))) (ax_var 4)) (axa_nil))))))
    (axb_one (axs_set (i := 1) C.nd (ax_var 3)))))))
    (axb_one (axs_ret (ax_var 1))))
theorem sc__law_least_terms : FnScope ["_law_numbers", "_law_part", "_law_number"] ["_law_numbers"] (defScope s__law_least_terms) := ⟨rfl, rfl, rfl, by decide +kernel, rfl, by decide +kernel, by decide +kernel⟩
theorem ok__law_least_terms (T : Fcs P K mg) : FnOk P w K mg base (L2N.CX P w) 2 (He.ga K "_law_least_terms") (fdAt K (He.ga K "_law_least_terms")) ["_law_numbers"] (SpA K m__law_least_terms) :=
  fn_ok (k := 1) T.F__law_least_terms sc__law_least_terms leadsP fun cdv A outer s H E C =>
    axb_cons (axs_set (i := 1) C.nd (ax_call C.toCxE (ok__law_divisor T) T.g__law_divisor T.F__law_divisor.kp (b__law_divisor_0 T) (fun _ => .nil) (axa_cons (ax_var 0) (axa_nil)) (by decide)))
    (axb_cons (axs_if (axt_cmp (op_Eq C.toCxE) (ax_var 1) (ax_int)) (axb_one (axs_retF (axf_list T.n_list (ax_var 0)))) (axb_nil))
    (axb_one (axs_retF (axf_lc [("_law_number", 2)] C.toCxE (blk_of rfl) (axi_seq (ax_var 0)) (fun s0 H0 _ _ fp0 => axgc_name (i := 2) (CxE.blk C.toCxE s0 H0 _ _ fp0).nd) (fun s0 H0 _ _ fp0 => axts_nil) (fun s0 H0 _ _ fp0 => ax_op op_Fdiv (ax_var 2) (ax_var 1))))))
theorem sc_Log___len__ : FnScope ["self"] ["self"] (defScope s_Log___len__) := ⟨rfl, rfl, rfl, by decide +kernel, rfl, by decide +kernel, by decide +kernel⟩
theorem ok_Log___len__ (T : Fcs P K mg) : FnOk P w K mg base (L2N.CX P w) 1 (He.ma K (He.ga K "Log") "__len__") (fdAt K (He.ma K (He.ga K "Log") "__len__")) ["self"] (SpA K m_Log___len__) :=
  fn_ok (k := 0) T.F_Log___len__ sc_Log___len__ leadsP fun cdv A outer s H E C =>
    axb_one (axs_ret (ax_callB cb_len T.n_len rfl (axa_cons (ax_fld (ax_var 0) (List.forall_mem_cons.mpr ⟨⟨T.C_Log, T.NA_Log_made⟩, fun _ h => by cases h⟩)) (axa_nil))))
theorem sc_Log_plays : FnScope ["self"] ["self"] (defScope s_Log_plays) := ⟨rfl, rfl, rfl, by decide +kernel, rfl, by decide +kernel, by decide +kernel⟩
theorem ok_Log_plays (T : Fcs P K mg) : FnOk P w K mg base (L2N.CX P w) 1 (He.ma K (He.ga K "Log") "plays") (fdAt K (He.ma K (He.ga K "Log") "plays")) ["self"] (SpA K m_Log_plays) :=
  fn_ok (k := 0) T.F_Log_plays sc_Log_plays leadsP fun cdv A outer s H E C =>
    axb_one (axs_retF (axf_list T.n_list (ax_fld (ax_var 0) (List.forall_mem_cons.mpr ⟨⟨T.C_Log, T.NA_Log_made⟩, fun _ h => by cases h⟩))))
theorem sc_Log_hint : FnScope ["self", "cell"] ["self"] (defScope s_Log_hint) := ⟨rfl, rfl, rfl, by decide +kernel, rfl, by decide +kernel, by decide +kernel⟩
theorem ok_Log_hint (T : Fcs P K mg) : FnOk P w K mg base (L2N.CX P w) 6 (He.ma K (He.ga K "Log") "hint") (fdAt K (He.ma K (He.ga K "Log") "hint")) ["self"] (SpA K m_Log_hint) :=
  fn_ok (k := 5) T.F_Log_hint sc_Log_hint leadsP fun cdv A outer s H E C =>
    axb_cons (axs_if (axt_not (axt_val (ax_fld (ax_var 0) (List.forall_mem_cons.mpr ⟨⟨T.C_Log, T.NA_Log_made⟩, fun _ h => by cases h⟩)))) (axb_one (axs_ret (ax_non))) (axb_nil))
    (axb_one (axs_ret (ax_newV C.toCxE T.Mk_Hint (ok_Hint___init__ T) T.g_Hint (b_Hint___init___0 T) (fun _ => .nil) (axa_cons (ax_fld (ax_var 0) (List.forall_mem_cons.mpr ⟨⟨T.C_Log, T.NA_Log_shape⟩, fun _ h => by cases h⟩)) (axa_cons (axf_e (axf_lc [("cell", 1)] C.toCxE (blk_of rfl) (axi_seq (ax_call C.toCxE (ok_cells_of T) T.g_cells_of T.F_cells_of.kp (b_cells_of_0 T) (fun _ => .nil) (axa_cons (ax_fld (ax_var 0) (List.forall_mem_cons.mpr ⟨⟨T.C_Log, T.NA_Log_shape⟩, fun _ h => by cases h⟩)) (axa_nil)) (by decide))) (fun s0 H0 _ _ fp0 => axgc_name (i := 1) (CxE.blk C.toCxE s0 H0 _ _ fp0).nd) (fun s0 H0 _ _ fp0 => axts_nil) (fun s0 H0 _ _ fp0 => ax_cnt (CxE.blk C.toCxE s0 H0 _ _ fp0) (ax_fld (ax_var 0) (List.forall_mem_cons.mpr ⟨⟨T.C_Log, T.NA_Log_made⟩, fun _ h => by cases h⟩)) (ax_var 1)))) (axa_nil))) (by decide))))
theorem sc_Hint___eq__ : FnScope ["self", "other"] ["self", "other"] (defScope s_Hint___eq__) := ⟨rfl, rfl, rfl, by decide +kernel, rfl, by decide +kernel, by decide +kernel⟩
theorem ok_Hint___eq__ (T : Fcs P K mg) : FnOk P w K mg base (L2N.CX P w) 1 (He.ma K (He.ga K "Hint") "__eq__") (fdAt K (He.ma K (He.ga K "Hint") "__eq__")) ["self", "other"] (SpA K m_Hint___eq__) :=
  fn_ok (k := 0) T.F_Hint___eq__ sc_Hint___eq__ leadsP fun cdv A outer s H E C =>
    axb_one (axs_ret (ax_and (ax_callB (cb_isiO (io_ok T) (it_ok T)) T.n_isinstance rfl (axa_cons (ax_var 1) (axa_cons (ax_gFn T.g_Hint) (axa_nil)))) (ax_and (ax_cmp (op_Eq C.toCxE) (ax_fld (ax_var 0) (List.forall_mem_cons.mpr ⟨⟨T.C_Hint, T.NA_Hint_shape⟩, fun _ h => by cases h⟩)) (ax_fld (ax_var 1) (List.forall_mem_cons.mpr ⟨⟨T.C_Hint, T.NA_Hint_shape⟩, fun _ h => by cases h⟩))) (ax_one (ax_cmp (op_Eq C.toCxE) (ax_fld (ax_var 0) (List.forall_mem_cons.mpr ⟨⟨T.C_Hint, T.NA_Hint_parts⟩, fun _ h => by cases h⟩)) (ax_fld (ax_var 1) (List.forall_mem_cons.mpr ⟨⟨T.C_Hint, T.NA_Hint_parts⟩, fun _ h => by cases h⟩)))))))
theorem sc_Hint_weights : FnScope ["self"] ["self"] (defScope s_Hint_weights) := ⟨rfl, rfl, rfl, by decide +kernel, rfl, by decide +kernel, by decide +kernel⟩
theorem ok_Hint_weights (T : Fcs P K mg) : FnOk P w K mg base (L2N.CX P w) 1 (He.ma K (He.ga K "Hint") "weights") (fdAt K (He.ma K (He.ga K "Hint") "weights")) ["self"] (SpA K m_Hint_weights) :=
  fn_ok (k := 0) T.F_Hint_weights sc_Hint_weights leadsP fun cdv A outer s H E C =>
    axb_one (axs_retF (axf_list T.n_list (ax_fld (ax_var 0) (List.forall_mem_cons.mpr ⟨⟨T.C_Hint, T.NA_Hint_parts⟩, fun _ h => by cases h⟩))))
theorem sc__law_same : FnScope ["_law_log", "_law_shape_here", "_law_own", "_law_hint", "_law_counts", "_law_place", "_law_cell"] ["_law_log", "_law_shape_here", "_law_own"] (defScope s__law_same) := ⟨rfl, rfl, rfl, by decide +kernel, rfl, by decide +kernel, by decide +kernel⟩
theorem ok__law_same (T : Fcs P K mg) : FnOk P w K mg base (L2N.CX P w) 7 (He.ga K "_law_same") (fdAt K (He.ga K "_law_same")) ["_law_log", "_law_shape_here", "_law_own"] (SpA K m__law_same) :=
  fn_ok (k := 6) T.F__law_same sc__law_same leadsP fun cdv A outer s H E C =>
    axb_cons (axs_if (axt_w (axw_or (axt_cmp (op_Ne C.toCxE) (ax_fld (ax_var 0) (List.forall_mem_cons.mpr ⟨⟨T.C_Log, T.NA_Log_shape⟩, fun _ h => by cases h⟩)) (ax_callTy cb_tuple T.n_tuple rfl (axa_cons (ax_var 1) (axa_nil)))) (axw_or (axt_cmp (op_Ne C.toCxE) (ax_ownLen (c := "Log") C.toCxE (ok_Log___len__ T) (b_Log___len___0 T) T.Me_Log___len__.at_ T.Me_Log___len__.fn T.n_len (ax_var 0) (by decide)) (ax_callB cb_len T.n_len rfl (axa_cons (ax_var 2) (axa_nil)))) (axw_or1 (axt_cmp (op_Ne C.toCxE) (ax_meth0V C.toCxE (ax_var 0) T.C_Log T.Me_Log_plays (ok_Log_plays T) (b_Log_plays_0 T) (fun _ => .nil) (by decide)) (ax_var 2)))))) (axb_one (axs_ret (ax_bl))) (axb_nil))
    (axb_cons (axs_expr (ax_app (ax_cellL (ax_meth0F C.toCxE (ax_var 0) T.C_Log T.Me_Log_plays (ok_Log_plays T) (b_Log_plays_0 T) (fun _ => .nil) (by decide))) (ax_tup (axa_cons (ax_int) (axa_cons (ax_int) (axa_nil))))))
    (axb_cons (axs_set (i := 3) C.nd (ax_meth0V C.toCxE (ax_var 0) T.C_Log T.Me_Log_hint (ok_Log_hint T) (b_Log_hint_0 T) (fun _ => .nil) (by decide)))
    (axb_cons (axs_if (axt_cmp (op_Eq C.toCxE) (ax_var 2) (ax_lst (axa_nil))) (axb_one (axs_ret (ax_cmp op_Is (ax_var 3) (ax_non)))) (axb_nil))
    (axb_cons ((axs_setLc (i := 4) [("_law_place", 5)] C.toCxE (blk_of rfl) (axi_seq (ax_call C.toCxE (ok__law_cells T) T.g__law_cells T.F__law_cells.kp (b__law_cells_0 T) (fun _ => .nil) (axa_cons (ax_var 1) (axa_nil)) (by decide))) (fun s0 H0 _ _ fp0 => axgc_name (i := 5) (CxE.blk C.toCxE s0 H0 _ _ fp0).nd) (fun s0 H0 _ _ fp0 => axts_nil) (fun s0 H0 _ _ fp0 => ax_callB cb_len T.n_len rfl (axa_cons (axf_e (axf_lc [("_law_cell", 6)] (CxE.blk C.toCxE s0 H0 _ _ fp0) (blk_of rfl) (axi_seq (ax_var 2)) (fun s1 H1 _ _ fp1 => axgc_name (i := 6) (CxE.blk (CxE.blk C.toCxE s0 H0 _ _ fp0) s1 H1 _ _ fp1).nd) (fun s1 H1 _ _ fp1 => axts_one (axt_cmp (op_Eq (CxE.blk (CxE.blk C.toCxE s0 H0 _ _ fp0) s1 H1 _ _ fp1)) (ax_var 6) (ax_var 5))) (fun s1 H1 _ _ fp1 => ax_var 6))) (axa_nil)))).1)
    (axb_one (axs_ret (ax_and (ax_ownEq (c := "Hint") C.toCxE (ok_Hint___eq__ T) (b_Hint___eq___0 T) T.NF_Hint T.Me_Hint___eq__.at_ T.Me_Hint___eq__.fn (ax_var 3) (ax_newV C.toCxE T.Mk_Hint (ok_Hint___init__ T) T.g_Hint (b_Hint___init___0 T) (fun _ => .nil) (axa_cons (ax_callTy cb_tuple T.n_tuple rfl (axa_cons (ax_var 1) (axa_nil))) (axa_cons (ax_var 4) (axa_nil))) (by decide)) (by decide)) (ax_one (ax_cmp (op_Eq C.toCxE) (ax_meth0V C.toCxE (ax_var 3) T.C_Hint T.Me_Hint_weights (ok_Hint_weights T) (b_Hint_weights_0 T) (fun _ => .nil) (by decide)) (ax_call C.toCxE (ok__law_least_terms T) T.g__law_least_terms T.F__law_least_terms.kp (b__law_least_terms_0 T) (fun _ => .nil) (axa_cons (ax_var 4) (axa_nil)) (by decide)))))))))))
theorem sc__law_hints : FnScope ["_law_logs", "_law_found", "_law_one", "_law_hint"] ["_law_logs"] (defScope s__law_hints) := ⟨rfl, rfl, rfl, by decide +kernel, rfl, by decide +kernel, by decide +kernel⟩
theorem ok__law_hints (T : Fcs P K mg) : FnOk P w K mg base (L2N.CX P w) 7 (He.ga K "_law_hints") (fdAt K (He.ga K "_law_hints")) ["_law_logs"] (SpA K m__law_hints) :=
  fn_ok (k := 6) T.F__law_hints sc__law_hints leadsC fun cdv A outer s H E C =>
    axb_cons (axs_cell (i := 1) C.nd (axf_lst (axa_nil)))
    (axb_cons (axs_for C (axi_seq (ax_var 0)) (axg_name (i := 2) C.toCxE.nd) (axb_one (axs_if (axt_w (axw_and (axt_cmp op_IsNot (ax_var 2) (ax_non)) (axw_and1 (axt_cmp op_IsNot (ax_meth0V C.toCxE (ax_var 2) T.C_Log T.Me_Log_hint (ok_Log_hint T) (b_Log_hint_0 T) (fun _ => .nil) (by decide)) (ax_non))))) (axb_cons (axs_set (i := 3) C.nd (ax_meth0V C.toCxE (ax_var 2) T.C_Log T.Me_Log_hint (ok_Log_hint T) (b_Log_hint_0 T) (fun _ => .nil) (by decide)))
    (axb_one (axs_expr (ax_app (ax_var 1) (ax_tup (axa_cons (ax_var 3) (axa_cons (ax_meth0V C.toCxE (ax_var 3) T.C_Hint T.Me_Hint_weights (ok_Hint_weights T) (b_Hint_weights_0 T) (fun _ => .nil) (by decide)) (axa_nil)))))))) (axb_nil))))
    (axb_one (axs_ret (ax_var 1))))
theorem sc__law_kept : FnScope ["_law_log", "_law_own", "_law_seen", "_law_hint", "_law_weights", "_law_bad"] ["_law_log", "_law_own", "_law_seen"] (defScope s__law_kept) := ⟨rfl, rfl, rfl, by decide +kernel, rfl, by decide +kernel, by decide +kernel⟩
theorem ok__law_kept (T : Fcs P K mg) : FnOk P w K mg base (L2N.CX P w) 8 (He.ga K "_law_kept") (fdAt K (He.ga K "_law_kept")) ["_law_log", "_law_own", "_law_seen"] (SpA K m__law_kept) :=
  fn_ok (k := 7) T.F__law_kept sc__law_kept leadsP fun cdv A outer s H E C =>
    axb_cons (axs_if (axt_cmp (op_Ne C.toCxE) (axf_e (axf_lc [("_law_hint", 3), ("_law_weights", 4)] C.toCxE (blk_of rfl) (axi_seq (ax_var 2)) (fun s0 H0 _ _ fp0 => axgc_tup (n := 2) (CxE.blk C.toCxE s0 H0 _ _ fp0).calm (axgcs_cons (axgc_name (i := 3) (CxE.blk C.toCxE s0 H0 _ _ fp0).nd) (axgcs_cons (axgc_name (i := 4) (CxE.blk C.toCxE s0 H0 _ _ fp0).nd) (axgcs_nil)))) (fun s0 H0 _ _ fp0 => axts_one (axt_cmp (op_Ne (CxE.blk C.toCxE s0 H0 _ _ fp0)) (ax_meth0V (CxE.blk C.toCxE s0 H0 _ _ fp0) (ax_var 3) T.C_Hint T.Me_Hint_weights (ok_Hint_weights T) (b_Hint_weights_0 T) (fun _ => .nil) (by decide)) (ax_var 4))) (fun s0 H0 _ _ fp0 => ax_var 3))) (ax_lst (axa_nil))) (axb_one (axs_ret (ax_bl))) (axb_nil))
    (axb_cons (axs_if (axt_not (axt_val (ax_callB (cb_all C.toCxE) T.n_all rfl (axa_cons (axf_e (axf_lc [("_law_bad", 5)] C.toCxE (blk_of rfl) (axi_seq (ax_lst (axa_cons (ax_lst (axa_nil)) (axa_cons (ax_tup (axa_cons (ax_int) (axa_nil))) (axa_cons (ax_tup (axa_cons (ax_int) (axa_cons (ax_int) (axa_nil)))) (axa_cons (ax_tup (axa_cons (ax_int) (axa_cons (ax_int) (axa_cons (ax_int) (axa_nil))))) (axa_cons (ax_tup (axa_cons (ax_bl) (axa_nil))) (axa_cons (ax_non) (axa_cons (ax_int) (axa_nil)))))))))) (fun s0 H0 _ _ fp0 => axgc_name (i := 5) (CxE.blk C.toCxE s0 H0 _ _ fp0).nd) (fun s0 H0 _ _ fp0 => axts_nil) (fun s0 H0 _ _ fp0 => ax_cmp (op_Eq (CxE.blk C.toCxE s0 H0 _ _ fp0)) (ax_call (CxE.blk C.toCxE s0 H0 _ _ fp0) (ok__law_refused T) T.g__law_refused T.F__law_refused.kp (b__law_refused_0 T) (fun _ => .nil) (axa_cons (ax_int) (axa_cons (ax_var 0) (axa_cons (ax_var 5) (axa_nil)))) (by decide)) (ax_lst (axa_cons (ax_str) (axa_nil)))))) (axa_nil))))) (axb_one (axs_ret (ax_bl))) (axb_nil))
    (axb_one (axs_ret (ax_and (ax_cmp (op_Eq C.toCxE) (ax_meth0V C.toCxE (ax_methV C.toCxE (ax_var 0) T.C_Log T.Me_Log_behind (ok_Log_behind T) (b_Log_behind_0 T) (fun _ => .nil) (axa_cons (ax_callB cb_len T.n_len rfl (axa_cons (ax_var 1) (axa_nil))) (axa_nil)) (by decide)) T.C_Log T.Me_Log_plays (ok_Log_plays T) (b_Log_plays_0 T) (fun _ => .nil) (by decide)) (ax_var 1)) (ax_one (ax_cmp op_Is (ax_meth0V C.toCxE (ax_methV C.toCxE (ax_var 0) T.C_Log T.Me_Log_behind (ok_Log_behind T) (b_Log_behind_0 T) (fun _ => .nil) (axa_cons (ax_int) (axa_nil)) (by decide)) T.C_Log T.Me_Log_hint (ok_Log_hint T) (b_Log_hint_0 T) (fun _ => .nil) (by decide)) (ax_non)))))))
theorem sc_law : FnScope ["_law_script", "_law_pool_here", "_law_shape_here", "_law_listed", "_law_log", "_law_own", "_law_beside", "_law_beside_own", "_law_seen", "_law_k", "_law_kind", "_law_bad", "_law_count", "_law_cell"] ["_law_script"] (defScope s_law) := ⟨rfl, rfl, rfl, by decide +kernel, rfl, by decide +kernel, by decide +kernel⟩
theorem ok_law (T : Fcs P K mg) (hm : ∀ (ns : List Int), ns.length ≤ 63 → a_law (.d (.scr ns) :: .d (.ref 0) :: List.replicate 12 .no) [.pool 0 ns] yes) : FnOk P w K mg base (L2N.CX P w) 9 (He.ga K "law") (fdAt K (He.ga K "law")) ["_law_script"] (spLaw K) :=
  law_fn (k := 8) T.F_law sc_law (fun cdv A outer s H E C => ⟨axs_cell (i := 1) C.nd (axf_call C.toCxE (ok__law_pool T) T.g__law_pool T.F__law_pool.kp (b__law_pool_0 T) (fun _ => .nil) (axa_cons (ax_var 0) (axa_nil)) (by decide)),
    axb_cons (axs_set (i := 2) C.nd (ax_call C.toCxE (ok__law_shape T) T.g__law_shape T.F__law_shape.kp (b__law_shape_0 T) (fun _ => .nil) (axa_cons (ax_var 1) (axa_cons (ax_int) (axa_nil))) (by decide)))
    (axb_cons (axs_set (i := 3) C.nd (ax_call C.toCxE (ok__law_cells T) T.g__law_cells T.F__law_cells.kp (b__law_cells_0 T) (fun _ => .nil) (axa_cons (ax_var 2) (axa_nil)) (by decide)))
    (axb_cons (axs_set (i := 4) C.nd (ax_newC C.toCxE T.Mk_Log (ok_Log___init__ T) T.g_Log (b_Log___init___0 T) (fun _ => .nil) (axa_cons (ax_ix (op_IxA C.toCxE) (ax_lst (axa_cons (ax_callTy cb_tuple T.n_tuple rfl (axa_cons (ax_var 2) (axa_nil))) (axa_cons (ax_var 2) (axa_nil)))) (ax_call C.toCxE (ok__law_take T) T.g__law_take T.F__law_take.kp (b__law_take_0 T) (fun _ => .nil) (axa_cons (ax_var 1) (axa_cons (ax_int) (axa_nil))) (by decide))) (axa_nil)) (by decide)))
    (axb_cons (axs_set (i := 5) C.nd (ax_lst (axa_nil)))
    (axb_cons (axs_set (i := 6) C.nd (ax_non))
    (axb_cons (axs_set (i := 7) C.nd (ax_lst (axa_nil)))
    (axb_cons (axs_set (i := 8) C.nd (ax_lst (axa_nil)))
    (axb_cons (axs_for C (axi_rng1 T.n_range (ax_call C.toCxE (ok__law_take T) T.g__law_take T.F__law_take.kp (b__law_take_0 T) (fun _ => .nil) (axa_cons (ax_var 1) (axa_cons (ax_int) (axa_nil))) (by decide))) (axg_name (i := 9) C.toCxE.nd) (axb_cons (axs_set (i := 10) C.nd (ax_call C.toCxE (ok__law_take T) T.g__law_take T.F__law_take.kp (b__law_take_0 T) (fun _ => .nil) (axa_cons (ax_var 1) (axa_cons (ax_int) (axa_nil))) (by decide)))
    (axb_cons (axs_if (axt_cmp (op_Eq C.toCxE) (ax_var 10) (ax_int)) (axb_cons (axs_set (i := 11) C.nd (ax_ix (op_IxA C.toCxE) (ax_call C.toCxE (ok__law_odd_cells T) T.g__law_odd_cells T.F__law_odd_cells.kp (b__law_odd_cells_0 T) (fun _ => .nil) (axa_cons (ax_var 2) (axa_cons (ax_var 3) (axa_nil))) (by decide)) (ax_call C.toCxE (ok__law_take T) T.g__law_take T.F__law_take.kp (b__law_take_0 T) (fun _ => .nil) (axa_cons (ax_var 1) (axa_cons (ax_int) (axa_nil))) (by decide))))
    (axb_one (axs_if (axt_cmp (op_Ne C.toCxE) (ax_call C.toCxE (ok__law_refused T) T.g__law_refused T.F__law_refused.kp (b__law_refused_0 T) (fun _ => .nil) (axa_cons (ax_int) (axa_cons (ax_var 4) (axa_cons (ax_var 11) (axa_nil)))) (by decide)) (ax_lst (axa_cons (ax_str) (axa_cons (ax_var 11) (axa_nil))))) (axb_one (axs_ret (ax_bl))) (axb_nil)))) (axb_one (axs_if (axt_cmp (op_Eq C.toCxE) (ax_var 10) (ax_int)) (axb_cons (axs_set (i := 11) C.nd (ax_ix (op_IxA C.toCxE) (ax_lst (axa_cons (ax_un op_Neg (ax_int)) (axa_cons (ax_op op_Add (ax_callB cb_len T.n_len rfl (axa_cons (ax_var 5) (axa_nil))) (ax_int)) (axa_cons (ax_bl) (axa_cons (ax_non) (axa_cons (ax_str) (axa_nil))))))) (ax_call C.toCxE (ok__law_take T) T.g__law_take T.F__law_take.kp (b__law_take_0 T) (fun _ => .nil) (axa_cons (ax_var 1) (axa_cons (ax_int) (axa_nil))) (by decide))))
    (axb_one (axs_if (axt_cmp (op_Ne C.toCxE) (ax_call C.toCxE (ok__law_refused T) T.g__law_refused T.F__law_refused.kp (b__law_refused_0 T) (fun _ => .nil) (axa_cons (ax_int) (axa_cons (ax_var 4) (axa_cons (ax_var 11) (axa_nil)))) (by decide)) (ax_lst (axa_cons (ax_str) (axa_nil)))) (axb_one (axs_ret (ax_bl))) (axb_nil)))) (axb_one (axs_if (axt_cmp (op_Eq C.toCxE) (ax_var 10) (ax_int)) (axb_cons (axs_set (i := 12) C.nd (ax_call C.toCxE (ok__law_take T) T.g__law_take T.F__law_take.kp (b__law_take_0 T) (fun _ => .nil) (axa_cons (ax_var 1) (axa_cons (ax_op op_Add (ax_callB cb_len T.n_len rfl (axa_cons (ax_var 5) (axa_nil))) (ax_int)) (axa_nil))) (by decide)))
    (axb_cons (axs_set (i := 6) C.nd (ax_methV C.toCxE (ax_var 4) T.C_Log T.Me_Log_behind (ok_Log_behind T) (b_Log_behind_0 T) (fun _ => .nil) (axa_cons (ax_var 12) (axa_nil)) (by decide)))
    (axb_one (axs_set (i := 7) C.nd (ax_sl (ax_var 5) (axp_no) (axp_at (ax_var 12))))))) (axb_one (axs_if (axt_w (axw_and (axt_cmp (op_Eq C.toCxE) (ax_var 10) (ax_int)) (axw_and1 (axt_cmp op_IsNot (ax_var 6) (ax_non))))) (axb_cons (axs_set (i := 13) C.nd (ax_ix (op_IxA C.toCxE) (ax_var 3) (ax_call C.toCxE (ok__law_take T) T.g__law_take T.F__law_take.kp (b__law_take_0 T) (fun _ => .nil) (axa_cons (ax_var 1) (axa_cons (ax_callB cb_len T.n_len rfl (axa_cons (ax_var 3) (axa_nil))) (axa_nil))) (by decide))))
    (axb_cons (axs_if (axt_cmp op_IsNot (ax_methV C.toCxE (ax_var 6) T.C_Log T.Me_Log_play (ok_Log_play T) (b_Log_play_0 T) (fun _ => .nil) (axa_cons (ax_var 13) (axa_nil)) (by decide)) (ax_non)) (axb_one (axs_ret (ax_bl))) (axb_nil))
    (axb_one (axs_set (i := 7) C.nd (ax_op op_Add (ax_var 7) (ax_lst (axa_cons (ax_var 13) (axa_nil)))))))) (axb_cons (axs_set (i := 13) C.nd (ax_ix (op_IxA C.toCxE) (ax_var 3) (ax_call C.toCxE (ok__law_take T) T.g__law_take T.F__law_take.kp (b__law_take_0 T) (fun _ => .nil) (axa_cons (ax_var 1) (axa_cons (ax_callB cb_len T.n_len rfl (axa_cons (ax_var 3) (axa_nil))) (axa_nil))) (by decide))))
    (axb_cons (axs_if (axt_cmp op_IsNot (ax_methV C.toCxE (ax_var 4) T.C_Log T.Me_Log_play (ok_Log_play T) (b_Log_play_0 T) (fun _ => .nil) (axa_cons (ax_var 13) (axa_nil)) (by decide)) (ax_non)) (axb_one (axs_ret (ax_bl))) (axb_nil))
    (axb_one (axs_set (i := 5) C.nd (ax_op op_Add (ax_var 5) (ax_lst (axa_cons (ax_var 13) (axa_nil)))))))))))))))
    (axb_cons (axs_if (axt_w (axw_or (axt_not (axt_val (ax_call C.toCxE (ok__law_same T) T.g__law_same T.F__law_same.kp (b__law_same_0 T) (fun _ => .nil) (axa_cons (ax_var 4) (axa_cons (ax_var 2) (axa_cons (ax_var 5) (axa_nil)))) (by decide)))) (axw_or1 (axt_w (axw_and (axt_cmp op_IsNot (ax_var 6) (ax_non)) (axw_and1 (axt_not (axt_val (ax_call C.toCxE (ok__law_same T) T.g__law_same T.F__law_same.kp (b__law_same_0 T) (fun _ => .nil) (axa_cons (ax_var 6) (axa_cons (ax_var 2) (axa_cons (ax_var 7) (axa_nil)))) (by decide)))))))))) (axb_one (axs_ret (ax_bl))) (axb_nil))
    (axb_one (axs_set (i := 8) C.nd (ax_op op_Add (ax_var 8) (ax_call C.toCxE (ok__law_hints T) T.g__law_hints T.F__law_hints.kp (b__law_hints_0 T) (fun _ => .nil) (axa_cons (ax_lst (axa_cons (ax_var 4) (axa_cons (ax_var 6) (axa_nil)))) (axa_nil)) (by decide)))))))))
    (axb_one (axs_ret (ax_call C.toCxE (ok__law_kept T) T.g__law_kept T.F__law_kept.kp (b__law_kept_0 T) (fun _ => .nil) (axa_cons (ax_var 4) (axa_cons (ax_var 5) (axa_cons (ax_var 8) (axa_nil)))) (by decide)))))))))))⟩) hm
end
end LW
set_option Elab.async false
set_option linter.all false
set_option maxRecDepth 100000
set_option maxHeartbeats 0
namespace LW
open PySem PySem.Spec PyProof.Rows L2 AM
def d0 : He.DefD := ⟨("_law_pool", none), "_law_pool", "_law_pool", defArgs s__law_pool, defBody s__law_pool, defScope s__law_pool, [], []⟩
def d1 : He.DefD := ⟨("_law_size", none), "_law_size", "_law_size", defArgs s__law_size, defBody s__law_size, defScope s__law_size, [], []⟩
def d2 : He.DefD := ⟨("_law_shapes", none), "_law_shapes", "_law_shapes", defArgs s__law_shapes, defBody s__law_shapes, defScope s__law_shapes, [], []⟩
def d3 : He.DefD := ⟨("_law_take", none), "_law_take", "_law_take", defArgs s__law_take, defBody s__law_take, defScope s__law_take, [], []⟩
def d4 : He.DefD := ⟨("_law_shape", none), "_law_shape", "_law_shape", defArgs s__law_shape, defBody s__law_shape, defScope s__law_shape, [], []⟩
def d5 : He.DefD := ⟨("_law_cells", none), "_law_cells", "_law_cells", defArgs s__law_cells, defBody s__law_cells, defScope s__law_cells, [], []⟩
def d6 : He.DefD := ⟨("is_integer", none), "is_integer", "is_integer", defArgs s_is_integer, defBody s_is_integer, defScope s_is_integer, [], []⟩
def d7 : He.DefD := ⟨("are_integers", none), "are_integers", "are_integers", defArgs s_are_integers, defBody s_are_integers, defScope s_are_integers, [], []⟩
def d8 : He.DefD := ⟨("checked_shape", none), "checked_shape", "checked_shape", defArgs s_checked_shape, defBody s_checked_shape, defScope s_checked_shape, [], []⟩
def d9 : He.DefD := ⟨("Log", some "__init__"), "__init__", "Log.__init__", defArgs s_Log___init__, defBody s_Log___init__, defScope s_Log___init__, [], []⟩
def d10 : He.DefD := ⟨("_law_odd_cells", none), "_law_odd_cells", "_law_odd_cells", defArgs s__law_odd_cells, defBody s__law_odd_cells, defScope s__law_odd_cells, [], []⟩
def d11 : He.DefD := ⟨("is_cell", none), "is_cell", "is_cell", defArgs s_is_cell, defBody s_is_cell, defScope s_is_cell, [], []⟩
def d12 : He.DefD := ⟨("Log", some "play"), "play", "Log.play", defArgs s_Log_play, defBody s_Log_play, defScope s_Log_play, [], []⟩
def d13 : He.DefD := ⟨("Log", some "behind"), "behind", "Log.behind", defArgs s_Log_behind, defBody s_Log_behind, defScope s_Log_behind, [], []⟩
def d14 : He.DefD := ⟨("_law_refused", none), "_law_refused", "_law_refused", defArgs s__law_refused, defBody s__law_refused, defScope s__law_refused, [], []⟩
def d15 : He.DefD := ⟨("cells_of", none), "cells_of", "cells_of", defArgs s_cells_of, defBody s_cells_of, defScope s_cells_of, [], []⟩
def d16 : He.DefD := ⟨("is_mix", none), "is_mix", "is_mix", defArgs s_is_mix, defBody s_is_mix, defScope s_is_mix, [], []⟩
def d17 : He.DefD := ⟨("divisor", none), "divisor", "divisor", defArgs s_divisor, defBody s_divisor, defScope s_divisor, [], []⟩
def d18 : He.DefD := ⟨("lowest", none), "lowest", "lowest", defArgs s_lowest, defBody s_lowest, defScope s_lowest, [], []⟩
def d19 : He.DefD := ⟨("Hint", some "__init__"), "__init__", "Hint.__init__", defArgs s_Hint___init__, defBody s_Hint___init__, defScope s_Hint___init__, [], []⟩
def d20 : He.DefD := ⟨("_law_divisor", none), "_law_divisor", "_law_divisor", defArgs s__law_divisor, defBody s__law_divisor, defScope s__law_divisor, [], []⟩
def d21 : He.DefD := ⟨("_law_least_terms", none), "_law_least_terms", "_law_least_terms", defArgs s__law_least_terms, defBody s__law_least_terms, defScope s__law_least_terms, [], []⟩
def d22 : He.DefD := ⟨("Log", some "__len__"), "__len__", "Log.__len__", defArgs s_Log___len__, defBody s_Log___len__, defScope s_Log___len__, [], []⟩
def d23 : He.DefD := ⟨("Log", some "plays"), "plays", "Log.plays", defArgs s_Log_plays, defBody s_Log_plays, defScope s_Log_plays, [], []⟩
def d24 : He.DefD := ⟨("Log", some "hint"), "hint", "Log.hint", defArgs s_Log_hint, defBody s_Log_hint, defScope s_Log_hint, [], []⟩
def d25 : He.DefD := ⟨("Hint", some "__eq__"), "__eq__", "Hint.__eq__", defArgs s_Hint___eq__, defBody s_Hint___eq__, defScope s_Hint___eq__, [], []⟩
def d26 : He.DefD := ⟨("Hint", some "weights"), "weights", "Hint.weights", defArgs s_Hint_weights, defBody s_Hint_weights, defScope s_Hint_weights, [], []⟩
def d27 : He.DefD := ⟨("_law_same", none), "_law_same", "_law_same", defArgs s__law_same, defBody s__law_same, defScope s__law_same, [], []⟩
def d28 : He.DefD := ⟨("_law_hints", none), "_law_hints", "_law_hints", defArgs s__law_hints, defBody s__law_hints, defScope s__law_hints, [], []⟩
def d29 : He.DefD := ⟨("_law_kept", none), "_law_kept", "_law_kept", defArgs s__law_kept, defBody s__law_kept, defScope s__law_kept, [], []⟩
def d30 : He.DefD := ⟨("law", none), "law", "law", defArgs s_law, defBody s_law, defScope s_law, [], []⟩
def x_BadShape : XD := ⟨"BadShape", defArgs sx_BadShape, defBody sx_BadShape, defScope sx_BadShape⟩
def x_NoCell : XD := ⟨"NoCell", defArgs sx_NoCell, defBody sx_NoCell, defScope sx_NoCell⟩
def x_BadShares : XD := ⟨"BadShares", defArgs sx_BadShares, defBody sx_BadShares, defScope sx_BadShares⟩
def x_BadWeights : XD := ⟨"BadWeights", defArgs sx_BadWeights, defBody sx_BadWeights, defScope sx_BadWeights⟩
def fnL0 : List He.DefD := [d0, d1, d2, d3, d4, d5, d6, d7, d8, d9, d10, d11, d12, d13, d14, d15, d16, d17, d18, d19]
def fnL1 : List He.DefD := [d20, d21, d22, d23, d24, d25, d26, d27, d28, d29, d30]
def fnL : List He.DefD := fnL0 ++ fnL1
def faL0 : List He.Fa := [.glo "_law_pool", .glo "_law_size", .glo "_law_shapes", .glo "_law_take", .glo "_law_shape", .glo "_law_cells", .glo "is_integer", .glo "are_integers", .glo "checked_shape", .glo "_law_odd_cells", .glo "is_cell", .glo "_law_refused", .glo "cells_of", .glo "is_mix", .glo "divisor", .glo "lowest", .glo "_law_divisor", .glo "_law_least_terms", .glo "_law_same", .glo "_law_hints"]
def faL1 : List He.Fa := [.glo "_law_kept", .glo "law", .free "list", .free "range", .free "int", .free "len", .free "max", .free "tuple", .free "isinstance", .free "bool", .free "all", .int "MOST_CELLS" 16, .glo "BadShape", .free "super", .int "MOST_MOVES" 4, .int "MOST_PLAYERS" 3, .cls "Log", .noat "Log" "made", .noat "Log" "shape", .free "zip"]
def faL2 : List He.Fa := [.glo "NoCell", .noat "NoCell" "cell", .meth "Log" "play", .meth "Log" "__init__", .mkr "Log", .glo "Log", .glo "BadShares", .exm "BadShape" "NoCell" false, .exm "NoCell" "NoCell" true, .exm "BadShares" "NoCell" false, .exm "BadWeights" "NoCell" false, .exm "BadShape" "BadShares" false, .exm "NoCell" "BadShares" false, .exm "BadShares" "BadShares" true, .exm "BadWeights" "BadShares" false, .exm "BadShape" "BadShape" true, .exm "NoCell" "BadShape" false, .exm "BadShares" "BadShape" false, .exm "BadWeights" "BadShape" false, .meth "Log" "behind"]
def faL3 : List He.Fa := [.free "sum", .free "abs", .cls "Hint", .noat "Hint" "part_of", .noat "Hint" "places", .noat "Hint" "parts", .free "dict", .noat "Hint" "unit", .glo "BadWeights", .noat "Hint" "shape", .meth "Hint" "__init__", .mkr "Hint", .glo "Hint", .meth "Hint" "__eq__", .meth "Hint" "weights", .meth "Log" "hint", .meth "Log" "plays", .meth "Log" "__len__"]
def faL : List He.Fa := faL0 ++ faL1 ++ faL2 ++ faL3
def exL0 : List (PySem.W.Frag → Bool) := [fun K => xcB K PySem.Challenge.pw_everyhint_k67_logs_of_plays.main.file "BadShape", fun K => xcB K PySem.Challenge.pw_everyhint_k67_logs_of_plays.main.file "NoCell", fun K => xcB K PySem.Challenge.pw_everyhint_k67_logs_of_plays.main.file "BadShares", fun K => xfB K (He.ga K "NoCell"), fun K => xcB K PySem.Challenge.pw_everyhint_k67_logs_of_plays.main.file "BadWeights", fun K => isiB K (He.ga K "Hint"), fun K => decide (PySem.W.kitOne K (.ref (He.ga K "Hint")) (.ref (He.ga K "Log")) = some false), fun K => decide (PySem.W.kitOne K (.type "NoneType") (.ref (He.ga K "Hint")) = some false), fun K => decide (PySem.W.kitOne K (.type "bool") (.ref (He.ga K "Hint")) = some false), fun K => decide (PySem.W.kitOne K (.type "int") (.ref (He.ga K "Hint")) = some false), fun K => decide (PySem.W.kitOne K (.type "str") (.ref (He.ga K "Hint")) = some false), fun K => decide (PySem.W.kitOne K (.type "list") (.ref (He.ga K "Hint")) = some false), fun K => decide (PySem.W.kitOne K (.type "tuple") (.ref (He.ga K "Hint")) = some false), fun K => decide (PySem.W.kitOne K (.type "dict") (.ref (He.ga K "Hint")) = some false), fun K => isiB K (He.ga K "Log"), fun K => decide (PySem.W.kitOne K (.ref (He.ga K "Log")) (.ref (He.ga K "Hint")) = some false), fun K => decide (PySem.W.kitOne K (.type "NoneType") (.ref (He.ga K "Log")) = some false), fun K => decide (PySem.W.kitOne K (.type "bool") (.ref (He.ga K "Log")) = some false), fun K => decide (PySem.W.kitOne K (.type "int") (.ref (He.ga K "Log")) = some false), fun K => decide (PySem.W.kitOne K (.type "str") (.ref (He.ga K "Log")) = some false)]
def exL1 : List (PySem.W.Frag → Bool) := [fun K => decide (PySem.W.kitOne K (.type "list") (.ref (He.ga K "Log")) = some false), fun K => decide (PySem.W.kitOne K (.type "tuple") (.ref (He.ga K "Log")) = some false), fun K => decide (PySem.W.kitOne K (.type "dict") (.ref (He.ga K "Log")) = some false), fun K => PySem.W.notFirst K (He.ga K "Hint") (.ref (He.ga K "Hint"))]
def exL : List (PySem.W.Frag → Bool) := exL0 ++ exL1
def xsL0 : List XD := [x_BadShape, x_NoCell, x_BadShares, x_BadWeights]
def xsL : List XD := xsL0
def loose0 : List Str := ["__name__", "HintError", "BadRatio", "BadShape", "BadWeights", "BadShares", "NoCell", "is_integer", "are_integers", "divisor", "lowest", "ratio", "MOST_PLAYERS", "MOST_MOVES", "MOST_CELLS", "checked_shape", "cells_of", "is_cell", "is_mix", "Hint"]
def loose1 : List Str := ["Log", "_law_pool", "_law_take", "_law_divisor", "_law_shapes", "_law_size", "_law_shape", "_law_cells", "_law_least_terms", "_law_refused", "_law_same", "_law_odd_cells", "_law_hints", "_law_kept"]
def loose : List Str := loose0 ++ loose1
abbrev R : PySem.W.OpenRow := PySem.W.OpenLaw.row PySem.Challenge.rw_everyhint_k67_logs_of_plays
abbrev hk : PySem.W.Hook := hookX 5 faL fnL exL xsL
def ob (s : PySem.W.SharedT) : AlX := obsXG 5 faL fnL exL xsL (HandSHeadRun.getT s)
theorem ob_eq (s : PySem.W.SharedT) : ob s = hk.obs s.abs := obsXG_eq (HandSHeadRun.getT_eq s)
theorem run (w : World) : HandSHeadRun.RunEq R (PySem.W.view R.prog [39]) hk ob 20000 loose w := by
  intro os
  kernel_rfl
theorem facts {K : PySem.W.Frag} {h : Heap} {mg : Str → Option Value} (X : K.In h) (G : h.Ns mainGlobals mg) (c : SaysX faL fnL exL xsL K) : Fcs PySem.Challenge.pw_everyhint_k67_logs_of_plays K mg where
  g__law_pool := He.glo_ok X G (c.d.fact 0 (f := .glo "_law_pool") rfl)
  F__law_pool := fdAt_of (c.d.def_ 0 (d := d0) rfl).choose_spec
  g__law_size := He.glo_ok X G (c.d.fact 1 (f := .glo "_law_size") rfl)
  F__law_size := fdAt_of (c.d.def_ 1 (d := d1) rfl).choose_spec
  g__law_shapes := He.glo_ok X G (c.d.fact 2 (f := .glo "_law_shapes") rfl)
  F__law_shapes := fdAt_of (c.d.def_ 2 (d := d2) rfl).choose_spec
  g__law_take := He.glo_ok X G (c.d.fact 3 (f := .glo "_law_take") rfl)
  F__law_take := fdAt_of (c.d.def_ 3 (d := d3) rfl).choose_spec
  g__law_shape := He.glo_ok X G (c.d.fact 4 (f := .glo "_law_shape") rfl)
  F__law_shape := fdAt_of (c.d.def_ 4 (d := d4) rfl).choose_spec
  g__law_cells := He.glo_ok X G (c.d.fact 5 (f := .glo "_law_cells") rfl)
  F__law_cells := fdAt_of (c.d.def_ 5 (d := d5) rfl).choose_spec
  g_is_integer := He.glo_ok X G (c.d.fact 6 (f := .glo "is_integer") rfl)
  F_is_integer := fdAt_of (c.d.def_ 6 (d := d6) rfl).choose_spec
  g_are_integers := He.glo_ok X G (c.d.fact 7 (f := .glo "are_integers") rfl)
  F_are_integers := fdAt_of (c.d.def_ 7 (d := d7) rfl).choose_spec
  g_checked_shape := He.glo_ok X G (c.d.fact 8 (f := .glo "checked_shape") rfl)
  F_checked_shape := fdAt_of (c.d.def_ 8 (d := d8) rfl).choose_spec
  F_Log___init__ := fdAt_of (c.d.def_ 9 (d := d9) rfl).choose_spec
  g__law_odd_cells := He.glo_ok X G (c.d.fact 9 (f := .glo "_law_odd_cells") rfl)
  F__law_odd_cells := fdAt_of (c.d.def_ 10 (d := d10) rfl).choose_spec
  g_is_cell := He.glo_ok X G (c.d.fact 10 (f := .glo "is_cell") rfl)
  F_is_cell := fdAt_of (c.d.def_ 11 (d := d11) rfl).choose_spec
  F_Log_play := fdAt_of (c.d.def_ 12 (d := d12) rfl).choose_spec
  F_Log_behind := fdAt_of (c.d.def_ 13 (d := d13) rfl).choose_spec
  g__law_refused := He.glo_ok X G (c.d.fact 11 (f := .glo "_law_refused") rfl)
  F__law_refused := fdAt_of (c.d.def_ 14 (d := d14) rfl).choose_spec
  g_cells_of := He.glo_ok X G (c.d.fact 12 (f := .glo "cells_of") rfl)
  F_cells_of := fdAt_of (c.d.def_ 15 (d := d15) rfl).choose_spec
  g_is_mix := He.glo_ok X G (c.d.fact 13 (f := .glo "is_mix") rfl)
  F_is_mix := fdAt_of (c.d.def_ 16 (d := d16) rfl).choose_spec
  g_divisor := He.glo_ok X G (c.d.fact 14 (f := .glo "divisor") rfl)
  F_divisor := fdAt_of (c.d.def_ 17 (d := d17) rfl).choose_spec
  g_lowest := He.glo_ok X G (c.d.fact 15 (f := .glo "lowest") rfl)
  F_lowest := fdAt_of (c.d.def_ 18 (d := d18) rfl).choose_spec
  F_Hint___init__ := fdAt_of (c.d.def_ 19 (d := d19) rfl).choose_spec
  g__law_divisor := He.glo_ok X G (c.d.fact 16 (f := .glo "_law_divisor") rfl)
  F__law_divisor := fdAt_of (c.d.def_ 20 (d := d20) rfl).choose_spec
  g__law_least_terms := He.glo_ok X G (c.d.fact 17 (f := .glo "_law_least_terms") rfl)
  F__law_least_terms := fdAt_of (c.d.def_ 21 (d := d21) rfl).choose_spec
  F_Log___len__ := fdAt_of (c.d.def_ 22 (d := d22) rfl).choose_spec
  F_Log_plays := fdAt_of (c.d.def_ 23 (d := d23) rfl).choose_spec
  F_Log_hint := fdAt_of (c.d.def_ 24 (d := d24) rfl).choose_spec
  F_Hint___eq__ := fdAt_of (c.d.def_ 25 (d := d25) rfl).choose_spec
  F_Hint_weights := fdAt_of (c.d.def_ 26 (d := d26) rfl).choose_spec
  g__law_same := He.glo_ok X G (c.d.fact 18 (f := .glo "_law_same") rfl)
  F__law_same := fdAt_of (c.d.def_ 27 (d := d27) rfl).choose_spec
  g__law_hints := He.glo_ok X G (c.d.fact 19 (f := .glo "_law_hints") rfl)
  F__law_hints := fdAt_of (c.d.def_ 28 (d := d28) rfl).choose_spec
  g__law_kept := He.glo_ok X G (c.d.fact 20 (f := .glo "_law_kept") rfl)
  F__law_kept := fdAt_of (c.d.def_ 29 (d := d29) rfl).choose_spec
  g_law := He.glo_ok X G (c.d.fact 21 (f := .glo "law") rfl)
  F_law := fdAt_of (c.d.def_ 30 (d := d30) rfl).choose_spec
  n_list := He.free_ok X G (c.d.fact 22 (f := .free "list") rfl)
  n_range := He.free_ok X G (c.d.fact 23 (f := .free "range") rfl)
  n_int := He.free_ok X G (c.d.fact 24 (f := .free "int") rfl)
  n_len := He.free_ok X G (c.d.fact 25 (f := .free "len") rfl)
  n_max := He.free_ok X G (c.d.fact 26 (f := .free "max") rfl)
  n_tuple := He.free_ok X G (c.d.fact 27 (f := .free "tuple") rfl)
  n_isinstance := He.free_ok X G (c.d.fact 28 (f := .free "isinstance") rfl)
  n_bool := He.free_ok X G (c.d.fact 29 (f := .free "bool") rfl)
  n_all := He.free_ok X G (c.d.fact 30 (f := .free "all") rfl)
  k_MOST_CELLS := He.int_ok X G (c.d.fact 31 (f := .int "MOST_CELLS" 16) rfl)
  g_BadShape := He.glo_ok X G (c.d.fact 32 (f := .glo "BadShape") rfl)
  X_BadShape := xcB_ok (d := x_BadShape) (c.e 0 rfl) (c.x 0 rfl) (He.free_ok X G (c.d.fact 33 (f := .free "super") rfl)) (by rfl)
  k_MOST_MOVES := He.int_ok X G (c.d.fact 34 (f := .int "MOST_MOVES" 4) rfl)
  k_MOST_PLAYERS := He.int_ok X G (c.d.fact 35 (f := .int "MOST_PLAYERS" 3) rfl)
  C_Log := He.cls_ok (c.d.fact 36 (f := .cls "Log") rfl)
  NA_Log_made := He.eqO_ok (c.d.fact 37 (f := .noat "Log" "made") rfl)
  NA_Log_shape := He.eqO_ok (c.d.fact 38 (f := .noat "Log" "shape") rfl)
  n_zip := He.free_ok X G (c.d.fact 39 (f := .free "zip") rfl)
  g_NoCell := He.glo_ok X G (c.d.fact 40 (f := .glo "NoCell") rfl)
  X_NoCell := xcB_ok (d := x_NoCell) (c.e 1 rfl) (c.x 1 rfl) (He.free_ok X G (c.d.fact 33 (f := .free "super") rfl)) (by rfl)
  NX_NoCell := He.eqO_ok (c.d.fact 41 (f := .noat "NoCell" "cell") rfl)
  Me_Log_play := He.meth_ok (c.d.fact 42 (f := .meth "Log" "play") rfl)
  Me_Log___init__ := He.meth_ok (c.d.fact 43 (f := .meth "Log" "__init__") rfl)
  Mk_Log := He.mkr_ok (c.d.fact 44 (f := .mkr "Log") rfl)
  g_Log := He.glo_ok X G (c.d.fact 45 (f := .glo "Log") rfl)
  g_BadShares := He.glo_ok X G (c.d.fact 46 (f := .glo "BadShares") rfl)
  X_BadShares := xcB_ok (d := x_BadShares) (c.e 2 rfl) (c.x 2 rfl) (He.free_ok X G (c.d.fact 33 (f := .free "super") rfl)) (by rfl)
  M_BadShape_NoCell := of_decide_eq_true (c.d.fact 47 (f := .exm "BadShape" "NoCell" false) rfl)
  M_NoCell_NoCell := of_decide_eq_true (c.d.fact 48 (f := .exm "NoCell" "NoCell" true) rfl)
  M_BadShares_NoCell := of_decide_eq_true (c.d.fact 49 (f := .exm "BadShares" "NoCell" false) rfl)
  M_BadWeights_NoCell := of_decide_eq_true (c.d.fact 50 (f := .exm "BadWeights" "NoCell" false) rfl)
  M_BadShape_BadShares := of_decide_eq_true (c.d.fact 51 (f := .exm "BadShape" "BadShares" false) rfl)
  M_NoCell_BadShares := of_decide_eq_true (c.d.fact 52 (f := .exm "NoCell" "BadShares" false) rfl)
  M_BadShares_BadShares := of_decide_eq_true (c.d.fact 53 (f := .exm "BadShares" "BadShares" true) rfl)
  M_BadWeights_BadShares := of_decide_eq_true (c.d.fact 54 (f := .exm "BadWeights" "BadShares" false) rfl)
  M_BadShape_BadShape := of_decide_eq_true (c.d.fact 55 (f := .exm "BadShape" "BadShape" true) rfl)
  M_NoCell_BadShape := of_decide_eq_true (c.d.fact 56 (f := .exm "NoCell" "BadShape" false) rfl)
  M_BadShares_BadShape := of_decide_eq_true (c.d.fact 57 (f := .exm "BadShares" "BadShape" false) rfl)
  M_BadWeights_BadShape := of_decide_eq_true (c.d.fact 58 (f := .exm "BadWeights" "BadShape" false) rfl)
  Me_Log_behind := He.meth_ok (c.d.fact 59 (f := .meth "Log" "behind") rfl)
  XF_NoCell := xfB_ok (c.e 3 rfl)
  NF_NoCell_cell := He.eqO_ok (c.d.fact 41 (f := .noat "NoCell" "cell") rfl)
  n_sum := He.free_ok X G (c.d.fact 60 (f := .free "sum") rfl)
  n_abs := He.free_ok X G (c.d.fact 61 (f := .free "abs") rfl)
  C_Hint := He.cls_ok (c.d.fact 62 (f := .cls "Hint") rfl)
  NA_Hint_part_of := He.eqO_ok (c.d.fact 63 (f := .noat "Hint" "part_of") rfl)
  NA_Hint_places := He.eqO_ok (c.d.fact 64 (f := .noat "Hint" "places") rfl)
  NA_Hint_parts := He.eqO_ok (c.d.fact 65 (f := .noat "Hint" "parts") rfl)
  n_dict := He.free_ok X G (c.d.fact 66 (f := .free "dict") rfl)
  NA_Hint_unit := He.eqO_ok (c.d.fact 67 (f := .noat "Hint" "unit") rfl)
  g_BadWeights := He.glo_ok X G (c.d.fact 68 (f := .glo "BadWeights") rfl)
  X_BadWeights := xcB_ok (d := x_BadWeights) (c.e 4 rfl) (c.x 3 rfl) (He.free_ok X G (c.d.fact 33 (f := .free "super") rfl)) (by rfl)
  NA_Hint_shape := He.eqO_ok (c.d.fact 69 (f := .noat "Hint" "shape") rfl)
  Me_Hint___init__ := He.meth_ok (c.d.fact 70 (f := .meth "Hint" "__init__") rfl)
  Mk_Hint := He.mkr_ok (c.d.fact 71 (f := .mkr "Hint") rfl)
  g_Hint := He.glo_ok X G (c.d.fact 72 (f := .glo "Hint") rfl)
  IC_Hint := isiB_ok (He.cls_ok (c.d.fact 62 (f := .cls "Hint") rfl)) (c.e 5 rfl)
  IO_Hint_Log := of_decide_eq_true (c.e 6 rfl)
  IT_NoneType_Hint := of_decide_eq_true (c.e 7 rfl)
  IT_bool_Hint := of_decide_eq_true (c.e 8 rfl)
  IT_int_Hint := of_decide_eq_true (c.e 9 rfl)
  IT_str_Hint := of_decide_eq_true (c.e 10 rfl)
  IT_list_Hint := of_decide_eq_true (c.e 11 rfl)
  IT_tuple_Hint := of_decide_eq_true (c.e 12 rfl)
  IT_dict_Hint := of_decide_eq_true (c.e 13 rfl)
  IC_Log := isiB_ok (He.cls_ok (c.d.fact 36 (f := .cls "Log") rfl)) (c.e 14 rfl)
  IO_Log_Hint := of_decide_eq_true (c.e 15 rfl)
  IT_NoneType_Log := of_decide_eq_true (c.e 16 rfl)
  IT_bool_Log := of_decide_eq_true (c.e 17 rfl)
  IT_int_Log := of_decide_eq_true (c.e 18 rfl)
  IT_str_Log := of_decide_eq_true (c.e 19 rfl)
  IT_list_Log := of_decide_eq_true (c.e 20 rfl)
  IT_tuple_Log := of_decide_eq_true (c.e 21 rfl)
  IT_dict_Log := of_decide_eq_true (c.e 22 rfl)
  Me_Hint___eq__ := He.meth_ok (c.d.fact 73 (f := .meth "Hint" "__eq__") rfl)
  NF_Hint := c.e 23 rfl
  Me_Hint_weights := He.meth_ok (c.d.fact 74 (f := .meth "Hint" "weights") rfl)
  Me_Log_hint := He.meth_ok (c.d.fact 75 (f := .meth "Log" "hint") rfl)
  Me_Log_plays := He.meth_ok (c.d.fact 76 (f := .meth "Log" "plays") rfl)
  Me_Log___len__ := He.meth_ok (c.d.fact 77 (f := .meth "Log" "__len__") rfl)
end LW
open PySem PySem.W PySem.Calls PyProof.Rows
theorem PySem.Challenge.cw_everyhint_k67_logs_of_plays_holds : PySem.Challenge.rw_everyhint_k67_logs_of_plays.Holds := by
  w_on; o_law
  refine HandSHeadRun.head_any (r := OpenLaw.row PySem.Challenge.rw_everyhint_k67_logs_of_plays) (q := view (OpenLaw.row PySem.Challenge.rw_everyhint_k67_logs_of_plays).prog [39]) (H := LW.hk) (ob := LW.ob) (M := 20000) (loose := LW.loose) (d := HandSHeadRun.topDef (OpenLaw.row PySem.Challenge.rw_everyhint_k67_logs_of_plays).prog 39) (kwd := []) LW.ob_eq
    (by kernel_rfl) (fun s => by kernel_rfl) LW.run (by kernel_rfl) (by kernel_rfl) (by kernel_rfl) (by rfl) (by first | assumption | decide +kernel) (by decide +kernel) ⟨rfl, rfl, rfl, rfl, rfl, by decide +kernel⟩ ?hw ?hc
  case hw => w_witness2
  case hc =>
    refine L2.walk_ofE (l := PySem.Challenge.rw_everyhint_k67_logs_of_plays) (n := 63) (k := 9) (x := "_law_script") (CX := L2.CX0) rfl (by decide) (by kernel_rfl) ⟨rfl, by decide, by decide⟩ ?F (fun _ _ _ _ z => z)
    intro w mg fa h Y G hmg0
    obtain ⟨K, KX, c⟩ := Y
    have T := LW.facts KX G c
    have hmg : mg ("law" : PySem.Str) = some (.ref fa) := by
      have e : (HandSHeadRun.topDef (OpenLaw.row PySem.Challenge.rw_everyhint_k67_logs_of_plays).prog 39).name = ("law" : PySem.Str) := by kernel_rfl
      rw [← e]
      exact hmg0
    have e := hmg.symm.trans T.g_law
    cases e
    have b := L2.FunD.bindsA (ps := ["_law_script"]) T.F_law fun _ _ _ _ _ _ us hl => match us, hl with | [_], _ => rfl
    exact ⟨K, AM.fdAt K (He.ga K "law"), AM.spLaw K, KX, fun s v => b s [v] rfl, fun H a ns hl _ hS => ⟨a, ns, rfl, hS, hl, fun _ => rfl⟩, fun base _ _ => AM.law_CX0 (LW.ok_law T LW.law_true)⟩
