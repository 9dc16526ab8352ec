import PyProof.Rows.All
import Wide.All
import OpenK.AllK
import Wide.FinOn
import HandS.ForMost
import HandS.Evl
import HandS.Exc
import HandS.WordsExc
import HandS.CallSlots
import HandS.Wide
import HandS.HeadHook1
import HandS.IsInst
import HandS.Defaults
import HandS.ExcCtx
import HandS.Deep
import HandS.Conv
import HandS.Strs
import HandS.TupAny
import KE.KExcSuper
import HandS.ExcInit
import HandS.ExcField
import HandS.TryMany
import HandS.HotCalls
import HandS.TryOnly
import HandS.Words
import HandS.Star
import HandS.Zip
import HandS.OwnEq
import KE.GoesEnum
import KE.GoesMore
import HandS.Codes
import HandS.DictComp
import HandS.TupLen
import HandS.List
import KE.KDictZip
import HandS.Small
import HandS.Style
import KE.KDictPairs
import HandS.IterVal
import HandS.OwnIter
import KE.KDictKeyed
import HandS.DictTup
import KE.KTupSum
import HandS.TupMul
import HandS.NamedTupGet
import KE.KUnpackStar
import PyProof.WalkInts
import KE.KUnpack
import KE.KStateDown
import Lean
import HandS.Ends
import HandS.More
import HandS.Head0
import HandS.Head1
import HandS.Head2
import HandS.HeadEnd
import HandS.HeadHook2
import PySem.Challenge.RW_everyhint_k54_rows_refused
set_option Elab.async false
set_option linter.all false
set_option maxRecDepth 100000
set_option maxHeartbeats 4000000
namespace AM
open PySem L2 Evl
/-! ### data as trees; .ref n is the n-th cell of the store -/
inductive D where
  | non | bl (b : Bool) | int (i : Int) | str (x : Str)
  | lst (l : List D) | tup (l : List D)
  | dic (l : List (D × D))
  | obj (c : Str) (fs : List (Str × D))
  | fn (x : Str)
  | ty (n : String)
  | ref (n : Nat)
  | scr (ns : List Int)
inductive C where
  | lst (l : List D) | dic (l : List (D × D)) | obj (c : Str) (fs : List (Str × D)) | pool (n : Nat) (ns : List Int) | dead
abbrev S := List C
def kD : Key → D
  | .inl i => .int i
  | .inr x => .str x
/-! ### what trees mention: cells below k -/
mutual
def D.lt (k : Nat) : D → Prop
  | .lst l => ltL k l
  | .tup l => ltL k l
  | .dic l => ltP k l
  | .obj _ fs => ltF k fs
  | .ref n => n < k
  | _ => True
def ltL (k : Nat) : List D → Prop
  | [] => True
  | x :: xs => D.lt k x ∧ ltL k xs
def ltP (k : Nat) : List (D × D) → Prop
  | [] => True
  | (x, y) :: xs => D.lt k x ∧ D.lt k y ∧ ltP k xs
def ltF (k : Nat) : List (Str × D) → Prop
  | [] => True
  | (_, y) :: xs => D.lt k y ∧ ltF k xs
end
def C.lt (k : Nat) : C → Prop
  | .lst l => ltL k l
  | .dic l => ltP k l
  | .obj _ fs => ltF k fs
  | _ => True
def ltS (k : Nat) (st : S) : Prop := ∀ c ∈ st, C.lt k c
/-- what is frozen, and where the cells lie -/
structure Gh where
  g : Hp
  as : List Addr
structure Gh.le (G G2 : Gh) : Prop where
  g : Ex G.g G2.g
  a : G.as <+: G2.as
theorem Gh.le.refl (G : Gh) : G.le G := ⟨Ex.refl _, List.prefix_refl _⟩
theorem Gh.le.trans {G G2 G3 : Gh} (a : G.le G2) (b : G2.le G3) : G.le G3 := ⟨a.g.trans b.g, a.a.trans b.a⟩
mutual
inductive Rep (K : PySem.W.Frag) (G : Gh) : D → V → Prop
  | non : Rep K G .non .non
  | bl (b : Bool) : Rep K G (.bl b) (.bl b)
  | int (i : Int) : Rep K G (.int i) (.int i)
  | str (x : Str) : Rep K G (.str x) (.str x)
  | lst {p : Addr} {vs : List V} {ds : List D} : G.g p = some (.lst vs) → Reps K G ds vs → Rep K G (.lst ds) (.ref p)
  | tup {p : Addr} {vs : List V} {ds : List D} : G.g p = some (.tup vs) → Reps K G ds vs → Rep K G (.tup ds) (.ref p)
  | dicT {p : Addr} {kvs : List (List Key × V)} {ds : List (D × D)} : G.g p = some (.dT kvs) → RepT K G ds kvs → Rep K G (.dic ds) (.ref p)
  | obj {c : Str} {p dx : Addr} {fs : List (Str × D)} {vs : List (Str × V)} : G.g p = some (.ins (He.ga K c) dx vs) → RepF K G fs vs → Rep K G (.obj c fs) (.ref p)
  | fn (x : Str) : Rep K G (.fn x) (.ref (He.ga K x))
  | ty (n : String) : Rep K G (.ty n) (.ty n)
  | ref {n : Nat} {p : Addr} : G.as[n]? = some p → Rep K G (.ref n) (.ref p)
  | scr {ns : List Int} {p : Addr} : SqL K G.g p (ns.map V.int) → ns.length ≤ 63 → Rep K G (.scr ns) (.ref p)
inductive Reps (K : PySem.W.Frag) (G : Gh) : List D → List V → Prop
  | nil : Reps K G [] []
  | cons {d : D} {v : V} {ds : List D} {vs : List V} : Rep K G d v → Reps K G ds vs → Reps K G (d :: ds) (v :: vs)
inductive RepF (K : PySem.W.Frag) (G : Gh) : List (Str × D) → List (Str × V) → Prop
  | nil : RepF K G [] []
  | cons {f : Str} {d : D} {v : V} {ds : List (Str × D)} {vs : List (Str × V)} : Rep K G d v → RepF K G ds vs → RepF K G ((f, d) :: ds) ((f, v) :: vs)
inductive RepK (K : PySem.W.Frag) (G : Gh) : List (D × D) → List (Key × V) → Prop
  | nil : RepK K G [] []
  | cons {k : Key} {d : D} {v : V} {ds : List (D × D)} {vs : List (Key × V)} : Rep K G d v → RepK K G ds vs → RepK K G ((kD k, d) :: ds) ((k, v) :: vs)
inductive RepT (K : PySem.W.Frag) (G : Gh) : List (D × D) → List (List Key × V) → Prop
  | nil : RepT K G [] []
  | cons {k : List Key} {d : D} {v : V} {ds : List (D × D)} {vs : List (List Key × V)} : Rep K G d v → RepT K G ds vs → RepT K G ((.tup (k.map kD), d) :: ds) ((k, v) :: vs)
end
theorem pre_get {α : Type} {l r : List α} {n : Nat} {x : α} (h : l <+: r) (e : l[n]? = some x) : r[n]? = some x := by
  obtain ⟨t, rfl⟩ := h
  rw [List.getElem?_append_left (List.getElem?_eq_some_iff.mp e).1]
  exact e
theorem kD_lt (k : Nat) : ∀ x : Key, (kD x).lt k
  | .inl _ => by unfold kD D.lt; trivial
  | .inr _ => by unfold kD D.lt; trivial
theorem kDs_lt (k : Nat) : ∀ l : List Key, ltL k (l.map kD)
  | [] => by unfold List.map ltL; trivial
  | x :: xs => by rw [List.map_cons]; unfold ltL; exact ⟨kD_lt k x, kDs_lt k xs⟩
section
variable {K : PySem.W.Frag} {G G2 : Gh}
mutual
theorem Rep.mono (e : G.le G2) : ∀ {d : D} {v : V}, Rep K G d v → Rep K G2 d v
  | _, _, .non => .non
  | _, _, .bl b => .bl b
  | _, _, .int i => .int i
  | _, _, .str x => .str x
  | _, _, .lst h r => .lst (e.g _ _ h) (Reps.mono e r)
  | _, _, .tup h r => .tup (e.g _ _ h) (Reps.mono e r)
  | _, _, .dicT h r => .dicT (e.g _ _ h) (RepT.mono e r)
  | _, _, .obj h r => .obj (e.g _ _ h) (RepF.mono e r)
  | _, _, .fn x => .fn x
  | _, _, .ty x => .ty x
  | _, _, .ref h => .ref (pre_get e.a h)
  | _, _, .scr h l => .scr (ex_l e.g h) l
theorem Reps.mono (e : G.le G2) : ∀ {ds : List D} {vs : List V}, Reps K G ds vs → Reps K G2 ds vs
  | _, _, .nil => .nil
  | _, _, .cons h r => .cons (Rep.mono e h) (Reps.mono e r)
theorem RepF.mono (e : G.le G2) : ∀ {ds : List (Str × D)} {vs : List (Str × V)}, RepF K G ds vs → RepF K G2 ds vs
  | _, _, .nil => .nil
  | _, _, .cons h r => .cons (Rep.mono e h) (RepF.mono e r)
theorem RepK.mono (e : G.le G2) : ∀ {ds : List (D × D)} {vs : List (Key × V)}, RepK K G ds vs → RepK K G2 ds vs
  | _, _, .nil => .nil
  | _, _, .cons h r => .cons (Rep.mono e h) (RepK.mono e r)
theorem RepT.mono (e : G.le G2) : ∀ {ds : List (D × D)} {vs : List (List Key × V)}, RepT K G ds vs → RepT K G2 ds vs
  | _, _, .nil => .nil
  | _, _, .cons h r => .cons (Rep.mono e h) (RepT.mono e r)
end
/-! what is represented mentions cells that there are -/
mutual
theorem Rep.lt : ∀ {d : D} {v : V}, Rep K G d v → d.lt G.as.length
  | _, _, .non => by unfold D.lt; trivial
  | _, _, .bl b => by unfold D.lt; trivial
  | _, _, .int i => by unfold D.lt; trivial
  | _, _, .str x => by unfold D.lt; trivial
  | _, _, .lst h r => by unfold D.lt; exact r.lt
  | _, _, .tup h r => by unfold D.lt; exact r.lt
  | _, _, .dicT h r => by unfold D.lt; exact r.lt
  | _, _, .obj h r => by unfold D.lt; exact r.lt
  | _, _, .fn x => by unfold D.lt; trivial
  | _, _, .ty x => by unfold D.lt; trivial
  | _, _, .ref h => by unfold D.lt; exact (List.getElem?_eq_some_iff.mp h).1
  | _, _, .scr h l => by unfold D.lt; trivial
theorem Reps.lt : ∀ {ds : List D} {vs : List V}, Reps K G ds vs → ltL G.as.length ds
  | _, _, .nil => by unfold ltL; trivial
  | _, _, .cons h r => by unfold ltL; exact ⟨h.lt, r.lt⟩
theorem RepF.lt : ∀ {ds : List (Str × D)} {vs : List (Str × V)}, RepF K G ds vs → ltF G.as.length ds
  | _, _, .nil => by unfold ltF; trivial
  | _, _, .cons h r => by unfold ltF; exact ⟨h.lt, r.lt⟩
theorem RepK.lt : ∀ {ds : List (D × D)} {vs : List (Key × V)}, RepK K G ds vs → ltP G.as.length ds
  | _, _, .nil => by unfold ltP; trivial
  | _, _, .cons h r => by unfold ltP; exact ⟨kD_lt _ _, h.lt, r.lt⟩
theorem RepT.lt : ∀ {ds : List (D × D)} {vs : List (List Key × V)}, RepT K G ds vs → ltP G.as.length ds
  | _, _, .nil => by unfold ltP; trivial
  | _, _, .cons h r => by unfold ltP; exact ⟨by unfold D.lt; exact kDs_lt _ _, h.lt, r.lt⟩
end
/-! cells may be left away that are not mentioned -/
mutual
theorem Rep.cut {as : List Addr} (e : as <+: G.as) : ∀ {d : D} {v : V}, Rep K G d v → d.lt as.length → Rep K ⟨G.g, as⟩ d v
  | _, _, .non, _ => .non
  | _, _, .bl b, _ => .bl b
  | _, _, .int i, _ => .int i
  | _, _, .str x, _ => .str x
  | _, _, .lst h r, l => .lst h (Reps.cut e r (by unfold D.lt at l; exact l))
  | _, _, .tup h r, l => .tup h (Reps.cut e r (by unfold D.lt at l; exact l))
  | _, _, .dicT h r, l => .dicT h (RepT.cut e r (by unfold D.lt at l; exact l))
  | _, _, .obj h r, l => .obj h (RepF.cut e r (by unfold D.lt at l; exact l))
  | _, _, .fn x, _ => .fn x
  | _, _, .ty x, _ => .ty x
  | _, _, .ref h, l => .ref (by
    unfold D.lt at l
    obtain ⟨t, ht⟩ := e
    rw [← ht, List.getElem?_append_left l] at h
    exact h)
  | _, _, .scr h l, _ => .scr h l
theorem Reps.cut {as : List Addr} (e : as <+: G.as) : ∀ {ds : List D} {vs : List V}, Reps K G ds vs → ltL as.length ds → Reps K ⟨G.g, as⟩ ds vs
  | _, _, .nil, _ => .nil
  | _, _, .cons h r, l => by
    unfold ltL at l
    exact .cons (Rep.cut e h l.1) (Reps.cut e r l.2)
theorem RepF.cut {as : List Addr} (e : as <+: G.as) : ∀ {ds : List (Str × D)} {vs : List (Str × V)}, RepF K G ds vs → ltF as.length ds → RepF K ⟨G.g, as⟩ ds vs
  | _, _, .nil, _ => .nil
  | _, _, .cons h r, l => by
    unfold ltF at l
    exact .cons (Rep.cut e h l.1) (RepF.cut e r l.2)
theorem RepK.cut {as : List Addr} (e : as <+: G.as) : ∀ {ds : List (D × D)} {vs : List (Key × V)}, RepK K G ds vs → ltP as.length ds → RepK K ⟨G.g, as⟩ ds vs
  | _, _, .nil, _ => .nil
  | _, _, .cons h r, l => by
    unfold ltP at l
    exact .cons (Rep.cut e h l.2.1) (RepK.cut e r l.2.2)
theorem RepT.cut {as : List Addr} (e : as <+: G.as) : ∀ {ds : List (D × D)} {vs : List (List Key × V)}, RepT K G ds vs → ltP as.length ds → RepT K ⟨G.g, as⟩ ds vs
  | _, _, .nil, _ => .nil
  | _, _, .cons h r, l => by
    unfold ltP at l
    exact .cons (Rep.cut e h l.2.1) (RepT.cut e r l.2.2)
end
theorem Reps.length : ∀ {ds : List D} {vs : List V}, Reps K G ds vs → ds.length = vs.length
  | _, _, .nil => rfl
  | _, _, .cons _ r => congrArg Nat.succ r.length
theorem Reps.get : ∀ {ds : List D} {vs : List V} {i : Nat} {d : D}, Reps K G ds vs → ds[i]? = some d → ∃ v, vs[i]? = some v ∧ Rep K G d v
  | _, _, _, _, .nil, e => by simp at e
  | _, _, 0, _, .cons h _, e => by simp at e; subst e; exact ⟨_, rfl, h⟩
  | _, _, i + 1, d, .cons _ r, e => by
    obtain ⟨v, h1, h2⟩ := Reps.get (i := i) (d := d) r (by simpa using e)
    exact ⟨v, by simpa using h1, h2⟩
theorem Reps.append : ∀ {ds es : List D} {vs us : List V}, Reps K G ds vs → Reps K G es us → Reps K G (ds ++ es) (vs ++ us)
  | _, _, _, _, .nil, s => s
  | _, _, _, _, .cons h r, s => .cons h (Reps.append r s)
theorem Reps.one {d : D} {v : V} (h : Rep K G d v) : Reps K G [d] [v] := .cons h .nil
theorem Reps.set {d : D} {v : V} (h : Rep K G d v) : ∀ {ds : List D} {vs : List V} (i : Nat), Reps K G ds vs → Reps K G (ds.set i d) (vs.set i v)
  | _, _, _, .nil => .nil
  | _, _, 0, .cons _ r => .cons h r
  | _, _, i + 1, .cons q r => .cons q (Reps.set h i r)
theorem Reps.ints : ∀ (ns : List Int), Reps K G (ns.map D.int) (ns.map V.int)
  | [] => .nil
  | n :: ns => .cons (.int n) (Reps.ints ns)
end
/-! ### errors -/
structure Er where
  cls : Str
  fld : Option (Str × D)
def Er.lt (k : Nat) (e : Er) : Prop := match e.fld with
  | none => True
  | some (_, d) => d.lt k
def ErAt (K : PySem.W.Frag) (G : Gh) (e : Er) (c : Value) (dx : Option Addr) : Prop := c = .ref (He.ga K e.cls) ∧ match e.fld with
  | none => dx = none
  | some (f, x) => ∃ d v, dx = some d ∧ G.g d = some (.xd [(f, v)]) ∧ Rep K G x v
theorem ErAt.mono {K : PySem.W.Frag} {G G2 : Gh} {e : Er} {c : Value} {dx : Option Addr} (g : G.le G2) (h : ErAt K G e c dx) : ErAt K G2 e c dx := by
  obtain ⟨h1, h2⟩ := h
  refine ⟨h1, ?_⟩
  revert h2
  cases e.fld with
  | none => exact fun h => h
  | some p => exact fun ⟨d, v, e1, e2, e3⟩ => ⟨d, v, e1, g.g _ _ e2, e3.mono g⟩
theorem ErAt.cut {K : PySem.W.Frag} {G : Gh} {e : Er} {c : Value} {dx : Option Addr} {as : List Addr} (g : as <+: G.as) (h : ErAt K G e c dx) (l : e.lt as.length) : ErAt K ⟨G.g, as⟩ e c dx := by
  obtain ⟨h1, h2⟩ := h
  refine ⟨h1, ?_⟩
  revert h2
  unfold Er.lt at l
  revert l
  cases e.fld with
  | none => exact fun _ h => h
  | some p => exact fun l ⟨d, v, e1, e2, e3⟩ => ⟨d, v, e1, e2, e3.cut g l⟩
/-! ### slots -/
inductive A where
  | no | d (x : D) | exc (a : Addr) (c : Value) (dx : Option Addr) (e : Er)
def SlotOk (K : PySem.W.Frag) (G : Gh) : A → Option (Option V) → Prop
  | .no, _ => True
  | .d x, v => ∃ u, v = some (some u) ∧ Rep K G x u
  | .exc a c dx e, v => v = some (some (.ref a)) ∧ ErAt K G e c dx
structure Sl (K : PySem.W.Frag) (G : Gh) (env : List A) (σ : St) : Prop where
  len : env.length = σ.length
  slot : ∀ (i : Nat) (x : A), env[i]? = some x → SlotOk K G x (σ[i]?)
theorem SlotOk.mono {K : PySem.W.Frag} {G G2 : Gh} (g : G.le G2) {x : A} {v : Option (Option V)} (s : SlotOk K G x v) : SlotOk K G2 x v := by
  cases x with
  | no => trivial
  | d y => exact ⟨s.choose, s.choose_spec.1, s.choose_spec.2.mono g⟩
  | exc a c dx e => exact ⟨s.1, s.2.mono g⟩
theorem Sl.mono {K : PySem.W.Frag} {G G2 : Gh} (g : G.le G2) {env : List A} {σ : St} (s : Sl K G env σ) : Sl K G2 env σ := ⟨s.len, fun i x e => (s.slot i x e).mono g⟩
theorem get_set {α : Type} {l : List α} {i j : Nat} {x y : α} (h : (l.set i x)[j]? = some y) : (j = i ∧ y = x ∧ i < l.length) ∨ (j ≠ i ∧ l[j]? = some y) := by
  by_cases hj : j = i
  · subst hj
    by_cases hl : j < l.length
    · rw [List.getElem?_set_self hl] at h
      exact .inl ⟨rfl, (Option.some.inj h).symm, hl⟩
    · rw [List.getElem?_eq_none (by rw [List.length_set]; omega)] at h
      cases h
  · rw [List.getElem?_set_ne (Ne.symm hj)] at h
    exact .inr ⟨hj, h⟩
theorem Sl.put {K : PySem.W.Frag} {G : Gh} {env : List A} {σ : St} (s : Sl K G env σ) (i : Nat) {x : A} {v : Option V} (h : SlotOk K G x (some v)) : Sl K G (env.set i x) (σ.set i v) := by
  refine ⟨by rw [List.length_set, List.length_set]; exact s.len, fun j y e => ?_⟩
  rcases get_set e with ⟨rfl, rfl, hl⟩ | ⟨hj, e⟩
  · rw [List.getElem?_set_self (by rw [← s.len]; exact hl)]
    exact h
  · rw [List.getElem?_set_ne (Ne.symm hj)]
    exact s.slot j y e
theorem Sl.set {K : PySem.W.Frag} {G : Gh} {env : List A} {σ : St} {v : V} {d : D} (s : Sl K G env σ) (i : Nat) (r : Rep K G d v) : Sl K G (env.set i (.d d)) (σ.set i (some v)) := s.put i ⟨v, rfl, r⟩
theorem Sl.drop {K : PySem.W.Frag} {G : Gh} {env : List A} {σ : St} (s : Sl K G env σ) (i : Nat) (v : Option V) : Sl K G (env.set i .no) (σ.set i v) := s.put i trivial
/-! ### the store -/
def CellOk (K : PySem.W.Frag) (G : Gh) (H : Hp) : C → Addr → Prop
  | .lst l, p => ∃ vs, G.g p = none ∧ H p = some (.lst vs) ∧ Reps K G l vs
  | .dic l, p => G.g p = none ∧ ∃ kvs, H p = some (.dT kvs) ∧ RepT K G l kvs
  | .obj c fs, p => ∃ dx vs, G.g p = none ∧ H p = some (.ins (He.ga K c) dx vs) ∧ RepF K G fs vs
  | .pool n ns, p => G.g p = none ∧ ∃ (at_ lf : Int) (q : Addr), H p = some (.lst [.int at_, .int lf, .ref q]) ∧ 0 ≤ at_ ∧ at_ ≤ n ∧ 0 ≤ lf ∧ G.g q = some (.lst (ns.map V.int)) ∧ ns.length ≤ 63
  | .dead, p => H p ≠ none
structure SS (K : PySem.W.Frag) (G : Gh) (st : S) (H : Hp) : Prop where
  ex : Ex G.g H
  len : G.as.length = st.length
  nd : G.as.Nodup
  cell : ∀ (n : Nat) (c : C) (p : Addr), st[n]? = some c → G.as[n]? = some p → CellOk K G H c p
theorem CellOk.live {K : PySem.W.Frag} {G : Gh} {H : Hp} {c : C} {p : Addr} (h : CellOk K G H c p) : H p ≠ none := by
  cases c with
  | lst l => obtain ⟨vs, _, e, _⟩ := h; rw [e]; exact fun z => nomatch z
  | dic l =>
    obtain ⟨kvs, e, _⟩ := h.2
    rw [e]; exact fun z => nomatch z
  | obj c fs => obtain ⟨dx, vs, _, e, _⟩ := h; rw [e]; exact fun z => nomatch z
  | pool n ns => obtain ⟨_, a, l, q, e, _⟩ := h; rw [e]; exact fun z => nomatch z
  | dead => exact h
theorem CellOk.mono {K : PySem.W.Frag} {G G2 : Gh} {H H2 : Hp} {c : C} {p : Addr} (g : G.le G2) (hh : ∀ o, H p = some o → H2 p = some o) (hn : c ≠ .dead → G.g p = none → G2.g p = none) (h : CellOk K G H c p) : CellOk K G2 H2 c p := by
  cases c with
  | lst l => obtain ⟨vs, gp, e, r⟩ := h; exact ⟨vs, hn (fun z => nomatch z) gp, hh _ e, r.mono g⟩
  | dic l =>
    refine ⟨hn (fun z => nomatch z) h.1, ?_⟩
    obtain ⟨kvs, e, r⟩ := h.2
    exact ⟨kvs, hh _ e, r.mono g⟩
  | obj c fs => obtain ⟨dx, vs, gp, e, r⟩ := h; exact ⟨dx, vs, hn (fun z => nomatch z) gp, hh _ e, r.mono g⟩
  | pool n ns =>
    obtain ⟨gp, a, l, q, e, h1, h2, h3, h4, h5⟩ := h
    exact ⟨hn (fun z => nomatch z) gp, a, l, q, hh _ e, h1, h2, h3, g.g _ _ h4, h5⟩
  | dead =>
    cases e : H p with
    | none => exact absurd e h
    | some o => show H2 p ≠ none; rw [hh _ e]; exact fun z => nomatch z
section
variable {K : PySem.W.Frag} {G G2 : Gh} {H H2 : Hp} {st st2 : S}
theorem SS.live (s : SS K G st H) {p : Addr} (h : p ∈ G.as) : H p ≠ none := by
  obtain ⟨n, e⟩ := List.mem_iff_getElem?.mp h
  have hn : n < st.length := by rw [← s.len]; exact (List.getElem?_eq_some_iff.mp e).1
  exact (s.cell n st[n] p (List.getElem?_eq_getElem hn) e).live
theorem SS.fresh (s : SS K G st H) {p : Addr} (h : H p = none) : p ∉ G.as := fun z => s.live z h
theorem SS.wf (s : SS K G st H) : ltS st.length st := fun c hc => by
  obtain ⟨n, e⟩ := List.mem_iff_getElem?.mp hc
  have hn : n < G.as.length := by rw [s.len]; exact (List.getElem?_eq_some_iff.mp e).1
  have h := s.cell n c _ e (List.getElem?_eq_getElem hn)
  rw [← s.len]
  cases c with
  | lst l => obtain ⟨vs, _, _, r⟩ := h; exact r.lt
  | dic l =>
    obtain ⟨kvs, _, r⟩ := h.2
    exact r.lt
  | obj c fs => obtain ⟨dx, vs, _, _, r⟩ := h; exact r.lt
  | pool n ns => trivial
  | dead => trivial
end
/-! ### what may come between -/
structure Post (G : Gh) (H : Hp) (G2 : Gh) (H2 : Hp) : Prop where
  le : G.le G2
  h : ∀ x o, H x = some o → x ∉ G.as → H2 x = some o
  n : ∀ x, G.g x = none → H x ≠ none → x ∉ G.as → G2.g x = none
  o : ∀ x, x ∈ G2.as → x ∈ G.as ∨ H x = none
  m : ∀ x, H x ≠ none → H2 x ≠ none
theorem Post.refl {G : Gh} {H : Hp} : Post G H G H := ⟨Gh.le.refl G, fun _ _ h _ => h, fun _ h _ _ => h, fun _ h => .inl h, fun _ h => h⟩
theorem Post.trans {G G2 G3 : Gh} {H H2 H3 : Hp} (p : Post G H G2 H2) (q : Post G2 H2 G3 H3) : Post G H G3 H3 := by
  have no : ∀ {x : Addr}, H x ≠ none → x ∉ G.as → x ∉ G2.as := fun {x} h1 h2 z => by
    rcases p.o x z with z | z
    · exact h2 z
    · exact h1 z
  have ne : ∀ {x : Addr} {o : HO}, H x = some o → H x ≠ none := fun e => by rw [e]; exact fun z => nomatch z
  exact ⟨p.le.trans q.le, fun x o e k => q.h x o (p.h x o e k) (no (ne e) k), fun x e k l => q.n x (p.n x e k l) (p.m x k) (no k l), fun x z => by
    rcases q.o x z with z | z
    · exact p.o x z
    · refine .inr ?_
      cases hh : H x with
      | none => rfl
      | some o => exact absurd z (p.m x (ne hh)), fun x k => q.m x (p.m x k)⟩
/-! ### readings by data -/
abbrev QX := Er → S → Prop
abbrev AE := List A → S → (D → S → Prop) → QX → Prop
abbrev AT := List A → S → (Bool → S → Prop) → QX → Prop
inductive Rs where
  | d (x : D) | own (l : List D) | ownD (l : List (D × D))
structure AK where
  nx : List A → S → Prop
  rt : Rs → S → Prop
  bk : List A → S → Prop
  ct : List A → S → Prop
  er : Er → List A → S → Prop
abbrev AS := List A → S → AK → Prop
def ThenE (K : PySem.W.Frag) (G : Gh) (H : Hp) (q : D → S → Prop) (Q : VK) : Prop := ∀ v d st2 G2 H2, Post G H G2 H2 → SS K G2 st2 H2 → Rep K G2 d v → q d st2 → Q v H2
def ThenT (K : PySem.W.Frag) (G : Gh) (H : Hp) (q : Bool → S → Prop) (Q : Bool → Hp → Prop) : Prop := ∀ b st2 G2 H2, Post G H G2 H2 → SS K G2 st2 H2 → q b st2 → Q b H2
def ThenX (K : PySem.W.Frag) (W : WX) (G : Gh) (H : Hp) (σ : St) (er : QX) : Prop := ∀ e c dx st2 G2 H2, Post G H G2 H2 → SS K G2 st2 H2 → ErAt K G2 e c dx → er e st2 → W c dx σ H2
def RefE (K : PySem.W.Frag) (W : WX) (te : TE) (ae : AE) : Prop := ∀ G env st σ H (Q : VK) (q : D → S → Prop) (er : QX), SS K G st H → Sl K G env σ → ae env st q er → ThenE K G H q Q → ThenX K W G H σ er → te σ H Q
def RefT (K : PySem.W.Frag) (W : WX) (tt : TT) (at_ : AT) : Prop := ∀ G env st σ H (Q : Bool → Hp → Prop) (q : Bool → S → Prop) (er : QX), SS K G st H → Sl K G env σ → at_ env st q er → ThenT K G H q Q → ThenX K W G H σ er → tt σ H Q
theorem ThenE.on {K : PySem.W.Frag} {G G2 : Gh} {H H2 : Hp} {q : D → S → Prop} {Q : VK} (t : ThenE K G H q Q) (p : Post G H G2 H2) : ThenE K G2 H2 q Q := fun v d st3 G3 H3 p2 => t v d st3 G3 H3 (p.trans p2)
theorem ThenT.on {K : PySem.W.Frag} {G G2 : Gh} {H H2 : Hp} {q : Bool → S → Prop} {Q : Bool → Hp → Prop} (t : ThenT K G H q Q) (p : Post G H G2 H2) : ThenT K G2 H2 q Q := fun v st3 G3 H3 p2 => t v st3 G3 H3 (p.trans p2)
theorem ThenX.on {K : PySem.W.Frag} {W : WX} {G G2 : Gh} {H H2 : Hp} {σ : St} {er : QX} (t : ThenX K W G H σ er) (p : Post G H G2 H2) : ThenX K W G2 H2 σ er := fun e c dx st3 G3 H3 p2 => t e c dx st3 G3 H3 (p.trans p2)
theorem ThenX.none {K : PySem.W.Frag} {W : WX} {G : Gh} {H : Hp} {σ : St} : ThenX K W G H σ (fun _ _ => False) := fun _ _ _ _ _ _ _ _ _ z => z.elim
/-! ### what is walked: while what it reads stands, turn i yields the i-th item (new tuples may come) -/
/-- cells that must stand as they are -/
abbrev Gd := List (Nat × C)
def gdOk (gd : Gd) (st : S) : Prop := ∀ x ∈ gd, st[x.1]? = some x.2
structure Walks (K : PySem.W.Frag) (G0 : Gh) (J : It) (ds : List D) (gd : Gd) : Prop where
  stop : ∀ i G st H, G0.le G → SS K G st H → gdOk gd st → ds.length = i → J.stop i H
  go : ∀ i G st H, G0.le G → SS K G st H → gdOk gd st → i < ds.length → J.go i H
  yld : ∀ i G st H d x H', G0.le G → SS K G st H → gdOk gd st → ds[i]? = some d → J.yld i H x H' → (H' = H ∧ Rep K G d x) ∨ ∃ p xs es, H p = none ∧ H' = upd H p (.tup xs) ∧ x = .ref p ∧ d = .tup es ∧ Reps K G es xs
abbrev AI := List A → S → (List D → Gd → S → Prop) → QX → Prop
def RefI (K : PySem.W.Frag) (W : WX) (wi : TI) (ai : AI) : Prop := ∀ G env st σ H (R : It → Hp → Prop) (q : List D → Gd → S → Prop) (er : QX), SS K G st H → Sl K G env σ → ai env st q er →
  (∀ J ds gd st2 G2 H2, Post G H G2 H2 → SS K G2 st2 H2 → Walks K G2 J ds gd → q ds gd st2 → R J H2) → ThenX K W G H σ er → wi σ H R
/-! ### results, statements -/
/-- a dict with tuples as keys -/
def DctAt (K : PySem.W.Frag) (G2 : Gh) (H2 : Hp) (p : Addr) (l : List (D × D)) : Prop := ∃ kvs, H2 p = some (.dT kvs) ∧ RepT K G2 l kvs
def ResOk (K : PySem.W.Frag) (H : Hp) (G2 : Gh) (H2 : Hp) : Rs → V → Prop
  | .d x, v => Rep K G2 x v
  | .own l, v => ∃ p vs, v = .ref p ∧ H2 p = some (.lst vs) ∧ G2.g p = none ∧ p ∉ G2.as ∧ H p = none ∧ Reps K G2 l vs
  | .ownD l, v => ∃ p, v = .ref p ∧ DctAt K G2 H2 p l ∧ G2.g p = none ∧ p ∉ G2.as ∧ H p = none
theorem ResOk.on {K : PySem.W.Frag} {G G2 G3 : Gh} {H H2 H3 : Hp} {r : Rs} {v : V} (p : Post G H G2 H2) (h : ResOk K H2 G3 H3 r v) : ResOk K H G3 H3 r v := by
  cases r with
  | d x => exact h
  | own l =>
    obtain ⟨a, vs, e1, e2, e3, e4, e5, e6⟩ := h
    refine ⟨a, vs, e1, e2, e3, e4, ?_, e6⟩
    cases hh : H a with
    | none => rfl
    | some o => exact absurd e5 (p.m a (by rw [hh]; exact fun z => nomatch z))
  | ownD l =>
    obtain ⟨a, e1, e2, e3, e4, e5⟩ := h
    refine ⟨a, e1, e2, e3, e4, ?_⟩
    cases hh : H a with
    | none => rfl
    | some o => exact absurd e5 (p.m a (by rw [hh]; exact fun z => nomatch z))
structure ThenS (K : PySem.W.Frag) (W : WX) (G : Gh) (H : Hp) (k : AK) (D : Ends) : Prop where
  nx : ∀ env' σ' st2 G2 H2, Post G H G2 H2 → SS K G2 st2 H2 → Sl K G2 env' σ' → k.nx env' st2 → D.nx σ' H2
  rt : ∀ v r st2 G2 H2, Post G H G2 H2 → SS K G2 st2 H2 → ResOk K H G2 H2 r v → k.rt r st2 → D.rt v H2
  bk : ∀ env' σ' st2 G2 H2, Post G H G2 H2 → SS K G2 st2 H2 → Sl K G2 env' σ' → k.bk env' st2 → D.bk σ' H2
  ct : ∀ env' σ' st2 G2 H2, Post G H G2 H2 → SS K G2 st2 H2 → Sl K G2 env' σ' → k.ct env' st2 → D.ct σ' H2
  er : ∀ e c dx env' σ' st2 G2 H2, Post G H G2 H2 → SS K G2 st2 H2 → Sl K G2 env' σ' → ErAt K G2 e c dx → k.er e env' st2 → W c dx σ' H2
def RefS (K : PySem.W.Frag) (W : WX) (ts : TS) (as : AS) : Prop := ∀ G env st σ H (D : Ends) (k : AK), SS K G st H → Sl K G env σ → as env st k → ThenS K W G H k D → ts D σ H
theorem ThenS.on {K : PySem.W.Frag} {W : WX} {G G2 : Gh} {H H2 : Hp} {k : AK} {D : Ends} (t : ThenS K W G H k D) (p : Post G H G2 H2) : ThenS K W G2 H2 k D :=
  ⟨fun env' σ' st3 G3 H3 p2 => t.nx env' σ' st3 G3 H3 (p.trans p2), fun v d st3 G3 H3 p2 s2 r2 => t.rt v d st3 G3 H3 (p.trans p2) s2 (r2.on p), fun env' σ' st3 G3 H3 p2 => t.bk env' σ' st3 G3 H3 (p.trans p2), fun env' σ' st3 G3 H3 p2 => t.ct env' σ' st3 G3 H3 (p.trans p2), fun e c dx env' σ' st3 G3 H3 p2 => t.er e c dx env' σ' st3 G3 H3 (p.trans p2)⟩
/-- errors of an expression within a statement -/
theorem ThenS.x {K : PySem.W.Frag} {W : WX} {G : Gh} {H : Hp} {k : AK} {D : Ends} {env : List A} {σ : St} (t : ThenS K W G H k D) (s : Sl K G env σ) : ThenX K W G H σ (fun e st => k.er e env st) :=
  fun e c dx st2 G2 H2 p s2 ea h => t.er e c dx env σ st2 G2 H2 p s2 (s.mono p.le) ea h
/-! ### judgements -/
def AX (X : Cx) (W : WX) (e : Expr) (ae : AE) : Prop := ∃ te, PE X e te ∧ RefE X.K W te ae
def AXT (X : Cx) (W : WX) (e : Expr) (a : AT) : Prop := ∃ tt, PT X e tt ∧ RefT X.K W tt a
def AXW (X : Cx) (W : WX) (e : Expr) (a : AT) : Prop := ∃ tt, PW X e tt ∧ RefT X.K W tt a
def AXI (X : Cx) (W : WX) (tg e : Expr) (a : AI) : Prop := ∃ wi, PI X tg e wi ∧ RefI X.K W wi a
def AXS (X : Cx) (W : WX) (st : Stmt) (a : AS) : Prop := ∃ ts, PS X st ts ∧ RefS X.K W ts a
def AXB (X : Cx) (W : WX) (st : List Stmt) (a : AS) : Prop := ∃ ts, PSs X st ts ∧ RefS X.K W ts a
end AM
set_option Elab.async false
set_option linter.all false
set_option maxRecDepth 100000
set_option maxHeartbeats 4000000
namespace AM
open PySem L2 Evl
/-! ### the store changes -/
theorem mem_ne {l : List Addr} {p q : Addr} (h : p ∉ l) (m : q ∈ l) : q ≠ p := fun z => h (z ▸ m)
theorem live_ne {H : Hp} {p q : Addr} (h : H p = none) (k : H q ≠ none) : q ≠ p := fun z => k (z ▸ h)
theorem mem_ne' {l : List Addr} {p q : Addr} (m : p ∈ l) (h : q ∉ l) : q ≠ p := fun z => h (z ▸ m)
section
variable {K : PySem.W.Frag} {G G2 : Gh} {H H2 : Hp} {st : S}
theorem le_new {p : Addr} {o : HO} (gp : G.g p = none) : G.le ⟨upd G.g p o, G.as⟩ := ⟨Ex.new gp, List.prefix_refl _⟩
theorem ne_some {x : Addr} {o : HO} (e : H x = some o) : H x ≠ none := by rw [e]; exact fun z => nomatch z
/-- what is new and frozen -/
theorem SS.new (s : SS K G st H) {p : Addr} {o : HO} (hp : H p = none) : SS K ⟨upd G.g p o, G.as⟩ st (upd H p o) ∧ Post G H ⟨upd G.g p o, G.as⟩ (upd H p o) := by
  have gp : G.g p = none := fresh_back s.ex hp
  have le : G.le ⟨upd G.g p o, G.as⟩ := le_new gp
  refine ⟨⟨fun a u e => ?_, s.len, s.nd, fun n c q e1 e2 => (s.cell n c q e1 e2).mono le (fun u e => ?_) (fun _ e => ?_)⟩, le, fun x u e _ => Ex.new hp x u e, fun x e k _ => ?_, fun x z => .inl z, fun x k => ?_⟩
  · have e : (upd G.g p o) a = some u := e
    by_cases h : a = p
    · subst h; rw [upd_same] at e ⊢; exact e
    · rw [upd_ne h] at e ⊢; exact s.ex a u e
  · rw [upd_ne (mem_ne (s.fresh hp) (List.mem_of_getElem? e2))]; exact e
  · show (upd G.g p o) q = none
    rw [upd_ne (mem_ne (s.fresh hp) (List.mem_of_getElem? e2))]; exact e
  · show (upd G.g p o) x = none
    rw [upd_ne (live_ne hp k)]; exact e
  · by_cases h : x = p
    · subst h; exact absurd hp k
    · rw [upd_ne h]; exact k
/-- what is new and nobody's yet -/
theorem SS.room (s : SS K G st H) {p : Addr} {o : HO} (hp : H p = none) : SS K G st (upd H p o) ∧ Post G H G (upd H p o) ∧ p ∉ G.as ∧ G.g p = none := by
  have gp : G.g p = none := fresh_back s.ex hp
  refine ⟨⟨fun a u e => Ex.new hp a u (s.ex a u e), s.len, s.nd, fun n c q e1 e2 => (s.cell n c q e1 e2).mono (Gh.le.refl G) (fun u e => Ex.new hp q u e) (fun _ e => e)⟩, ⟨Gh.le.refl G, fun x u e _ => Ex.new hp x u e, fun x e _ _ => e, fun x z => .inl z, fun x k => ?_⟩, s.fresh hp, gp⟩
  by_cases h : x = p
  · subst h; exact absurd hp k
  · rw [upd_ne h]; exact k
/-- what is nobody's is frozen -/
theorem SS.freeze (s : SS K G st H) {p : Addr} {o : HO} (hp : H p = some o) (gp : G.g p = none) (np : p ∉ G.as) : SS K ⟨upd G.g p o, G.as⟩ st H ∧ G.le ⟨upd G.g p o, G.as⟩ := by
  have le : G.le ⟨upd G.g p o, G.as⟩ := le_new gp
  refine ⟨⟨fun a u e => ?_, s.len, s.nd, fun n c q e1 e2 => (s.cell n c q e1 e2).mono le (fun u e => e) (fun _ e => ?_)⟩, le⟩
  · have e : (upd G.g p o) a = some u := e
    by_cases h : a = p
    · subst h; rw [upd_same] at e; rw [hp]; exact e
    · rw [upd_ne h] at e; exact s.ex a u e
  · show (upd G.g p o) q = none
    rw [upd_ne (mem_ne np (List.mem_of_getElem? e2))]; exact e
/-- .. of something that came on the way -/
theorem Post.freeze {G0 : Gh} {H0 : Hp} (po : Post G0 H0 G H) {p : Addr} {o : HO} (gp : G.g p = none) (hn : H0 p = none) : Post G0 H0 ⟨upd G.g p o, G.as⟩ H :=
  ⟨po.le.trans (le_new gp), po.h, fun x e k l => by
    show (upd G.g p o) x = none
    rw [upd_ne (live_ne hn k)]; exact po.n x e k l, po.o, po.m⟩
/-- what is nobody's becomes a cell -/
theorem le_cell {p : Addr} : G.le ⟨G.g, G.as ++ [p]⟩ := ⟨Ex.refl _, List.prefix_append _ _⟩
theorem SS.cellOf (s : SS K G st H) {p : Addr} {c : C} (np : p ∉ G.as) (hc : CellOk K ⟨G.g, G.as ++ [p]⟩ H c p) : SS K ⟨G.g, G.as ++ [p]⟩ (st ++ [c]) H := by
  refine ⟨s.ex, by rw [List.length_append, List.length_append, s.len]; rfl, ?_, fun n c' q e1 e2 => ?_⟩
  · show (G.as ++ [p]).Nodup
    rw [List.nodup_append]
    exact ⟨s.nd, by simp, fun a ha b hb => by
      have : b = p := by simpa using hb
      subst this
      exact fun z => np (z ▸ ha)⟩
  · have e2 : (G.as ++ [p])[n]? = some q := e2
    by_cases hn : n < st.length
    · rw [List.getElem?_append_left hn] at e1
      rw [List.getElem?_append_left (by rw [s.len]; exact hn)] at e2
      exact (s.cell n c' q e1 e2).mono le_cell (fun u e => e) (fun _ e => e)
    · have hl : n = st.length := by
        have := (List.getElem?_eq_some_iff.mp e1).1
        rw [List.length_append] at this
        simp at this
        omega
      subst hl
      rw [List.getElem?_append_right (Nat.le_refl _), Nat.sub_self] at e1
      rw [← s.len, List.getElem?_append_right (Nat.le_refl _), Nat.sub_self] at e2
      cases e1; cases e2
      exact hc
theorem Post.cellOf {G0 : Gh} {H0 : Hp} (po : Post G0 H0 G H) {p : Addr} (hn : H0 p = none) : Post G0 H0 ⟨G.g, G.as ++ [p]⟩ H :=
  ⟨po.le.trans le_cell, po.h, po.n, fun x z => by
    rcases List.mem_append.mp z with z | z
    · exact po.o x z
    · have : x = p := by simpa using z
      subst this
      exact .inr hn, po.m⟩
/-- a cell changes -/
theorem SS.setCell (s : SS K G st H) {n : Nat} {p : Addr} {c' : C} {o : HO} (hp : G.as[n]? = some p) (gp : G.g p = none) (hc : CellOk K G (upd H p o) c' p) : SS K G (st.set n c') (upd H p o) ∧ Post G H G (upd H p o) := by
  have hl : H p ≠ none := s.live (List.mem_of_getElem? hp)
  refine ⟨⟨fun a u e => ?_, by rw [List.length_set]; exact s.len, s.nd, fun m c q e1 e2 => ?_⟩, Gh.le.refl G, fun x u e k => ?_, fun x e _ _ => e, fun x z => .inl z, fun x k => ?_⟩
  · rw [upd_ne (fun z => by rw [z, gp] at e; cases e)]; exact s.ex a u e
  · rcases get_set e1 with ⟨rfl, rfl, _⟩ | ⟨hm, e1⟩
    · rw [hp] at e2; cases e2; exact hc
    · refine (s.cell m c q e1 e2).mono (Gh.le.refl G) (fun u e => ?_) (fun _ e => e)
      rw [upd_ne]
      · exact e
      · intro z
        subst z
        exact hm ((List.getElem?_inj (List.getElem?_eq_some_iff.mp e2).1 s.nd).mp (e2.trans hp.symm))
  · rw [upd_ne (mem_ne' (List.mem_of_getElem? hp) k)]; exact e
  · by_cases h : x = p
    · subst h; rw [upd_same]; exact fun z => nomatch z
    · rw [upd_ne h]; exact k
/-- a cell is frozen -/
theorem SS.freezeCell (s : SS K G st H) {n : Nat} {p : Addr} {o : HO} (hp : G.as[n]? = some p) (gp : G.g p = none) (hh : H p = some o) : SS K ⟨upd G.g p o, G.as⟩ (st.set n .dead) H ∧ Post G H ⟨upd G.g p o, G.as⟩ H := by
  have le : G.le ⟨upd G.g p o, G.as⟩ := le_new gp
  refine ⟨⟨fun a u e => ?_, by rw [List.length_set]; exact s.len, s.nd, fun m c q e1 e2 => ?_⟩, le, fun x u e _ => e, fun x e k l => ?_, fun x z => .inl z, fun x k => k⟩
  · have e : (upd G.g p o) a = some u := e
    by_cases h : a = p
    · subst h; rw [upd_same] at e; rw [hh]; exact e
    · rw [upd_ne h] at e; exact s.ex a u e
  · rcases get_set e1 with ⟨rfl, rfl, _⟩ | ⟨hm, e1⟩
    · have e2 : G.as[m]? = some q := e2
      rw [hp] at e2; cases e2; exact ne_some hh
    · refine (s.cell m c q e1 e2).mono le (fun u e => e) (fun _ e => ?_)
      show (upd G.g p o) q = none
      rw [upd_ne]
      · exact e
      · intro z
        subst z
        have e2 : G.as[m]? = some q := e2
        exact hm ((List.getElem?_inj (List.getElem?_eq_some_iff.mp e2).1 s.nd).mp (e2.trans hp.symm))
  · show (upd G.g p o) x = none
    rw [upd_ne (mem_ne' (List.mem_of_getElem? hp) l)]; exact e
/-- cells behind k are left away -/
theorem SS.cut (s : SS K G st H) {as : List Addr} (e : as <+: G.as) (l : ltS as.length (st.take as.length)) : SS K ⟨G.g, as⟩ (st.take as.length) H := by
  have hle : as.length ≤ st.length := by rw [← s.len]; exact e.length_le
  refine ⟨s.ex, by rw [List.length_take]; exact (Nat.min_eq_left hle).symm, s.nd.sublist e.sublist, fun n c p e1 e2 => ?_⟩
  have e2 : as[n]? = some p := e2
  have hn := (List.getElem?_eq_some_iff.mp e2).1
  have lc : C.lt as.length c := l c (List.mem_of_getElem? e1)
  rw [List.getElem?_take_of_lt hn] at e1
  have h := s.cell n c p e1 (pre_get e e2)
  cases c with
  | lst l => obtain ⟨vs, gp, e, r⟩ := h; exact ⟨vs, gp, e, r.cut ‹_› lc⟩
  | dic l =>
    refine ⟨h.1, ?_⟩
    obtain ⟨kvs, q, r⟩ := h.2
    exact ⟨kvs, q, r.cut ‹_› lc⟩
  | obj c fs => obtain ⟨dx, vs, gp, e, r⟩ := h; exact ⟨dx, vs, gp, e, r.cut ‹_› lc⟩
  | pool n ns => exact h
  | dead => exact h
theorem Post.cut {G0 : Gh} {H0 : Hp} (po : Post G0 H0 G H) : Post G0 H0 ⟨G.g, G0.as⟩ H := ⟨⟨po.le.g, List.prefix_refl _⟩, po.h, po.n, fun _ z => .inl z, po.m⟩
end
/-! ### a value as it is seen now: a cell's content -/
def vw (st : S) : D → D
  | .ref n => match st[n]? with
    | some (.lst l) => .lst l
    | some (.dic l) => .dic l
    | some (.obj c fs) => .obj c fs
    | _ => .ref n
  | d => d
inductive Rv (K : PySem.W.Frag) (G : Gh) (H : Hp) : D → V → Prop
  | non : Rv K G H .non .non
  | bl (b : Bool) : Rv K G H (.bl b) (.bl b)
  | int (i : Int) : Rv K G H (.int i) (.int i)
  | str (x : Str) : Rv K G H (.str x) (.str x)
  | lst {p : Addr} {vs : List V} {ds : List D} : H p = some (.lst vs) → Reps K G ds vs → Rv K G H (.lst ds) (.ref p)
  | tup {p : Addr} {vs : List V} {ds : List D} : H p = some (.tup vs) → Reps K G ds vs → Rep K G (.tup ds) (.ref p) → Rv K G H (.tup ds) (.ref p)
  | dicT {p : Addr} {kvs : List (List Key × V)} {ds : List (D × D)} : H p = some (.dT kvs) → RepT K G ds kvs → Rv K G H (.dic ds) (.ref p)
  | obj {c : Str} {p dx : Addr} {fs : List (Str × D)} {vs : List (Str × V)} : H p = some (.ins (He.ga K c) dx vs) → RepF K G fs vs → Rv K G H (.obj c fs) (.ref p)
  | fn (x : Str) : Rv K G H (.fn x) (.ref (He.ga K x))
  | ty (n : String) : Rv K G H (.ty n) (.ty n)
  | ref {n : Nat} {v : V} : Rv K G H (.ref n) v
  | scr {ns : List Int} {p : Addr} : SqL K H p (ns.map V.int) → ns.length ≤ 63 → Rv K G H (.scr ns) (.ref p)
inductive Rvs (K : PySem.W.Frag) (G : Gh) (H : Hp) : List D → List V → Prop
  | nil : Rvs K G H [] []
  | cons {d : D} {v : V} {ds : List D} {vs : List V} : Rv K G H d v → Rvs K G H ds vs → Rvs K G H (d :: ds) (v :: vs)
theorem Rep.vw {K : PySem.W.Frag} {G : Gh} {H : Hp} {st : S} {d : D} {v : V} (r : Rep K G d v) (s : SS K G st H) : Rv K G H (vw st d) v := by
  cases r with
  | non => exact .non
  | bl b => exact .bl b
  | int i => exact .int i
  | str x => exact .str x
  | lst h r => exact .lst (s.ex _ _ h) r
  | tup h r => exact .tup (s.ex _ _ h) r (.tup h r)
  | dicT h r => exact .dicT (s.ex _ _ h) r
  | obj h r => exact .obj (s.ex _ _ h) r
  | fn x => exact .fn x
  | ty x => exact .ty x
  | scr h l => exact .scr (ex_l s.ex h) l
  | ref e =>
    rename_i n p
    cases hc : st[n]? with
    | none =>
      have q : AM.vw st (.ref n) = .ref n := by unfold AM.vw; simp only [hc]
      rw [q]
      exact .ref
    | some c =>
      have h := s.cell n c p hc e
      unfold AM.vw
      simp only [hc]
      cases c with
      | lst l => obtain ⟨vs, _, h1, r⟩ := h; exact .lst h1 r
      | dic l =>
        obtain ⟨kvs, h1, r⟩ := h.2
        exact .dicT h1 r
      | obj c fs => obtain ⟨dx, vs, _, h1, r⟩ := h; exact .obj h1 r
      | pool n ns => exact .ref
      | dead => exact .ref
theorem Reps.vw {K : PySem.W.Frag} {G : Gh} {H : Hp} {st : S} (s : SS K G st H) : ∀ {ds : List D} {vs : List V}, Reps K G ds vs → Rvs K G H (ds.map (vw st)) vs
  | _, _, .nil => .nil
  | _, _, .cons h r => .cons (h.vw s) (Reps.vw s r)
/-! ### operations on values as they are seen -/
def Then1 (K : PySem.W.Frag) (G : Gh) (st : S) (H : Hp) (q : D → Prop) (Q : VK) : Prop := ∀ v d G2 H2, Post G H G2 H2 → SS K G2 st H2 → Rep K G2 d v → q d → Q v H2
abbrev O1 := D → (D → Prop) → Prop
abbrev O2 := D → D → (D → Prop) → Prop
abbrev ON := List D → (D → Prop) → Prop
def RefO (K : PySem.W.Frag) (r : R2) (f : O2) : Prop := ∀ G st H x y dx dy (Q : VK) (q : D → Prop), SS K G st H → Rv K G H dx x → Rv K G H dy y → f dx dy q → Then1 K G st H q Q → r x y H Q
def RefU (K : PySem.W.Frag) (r : V → Hp → VK → Prop) (f : O1) : Prop := ∀ G st H x dx (Q : VK) (q : D → Prop), SS K G st H → Rv K G H dx x → f dx q → Then1 K G st H q Q → r x H Q
def RefN (K : PySem.W.Frag) (r : List V → Hp → VK → Prop) (f : ON) : Prop := ∀ G st H xs ds (Q : VK) (q : D → Prop), SS K G st H → Rvs K G H ds xs → f ds q → Then1 K G st H q Q → r xs H Q
section
variable {K : PySem.W.Frag} {G : Gh} {H : Hp} {st : S} {q : D → Prop} {Q : VK}
theorem Then1.here {v : V} {d : D} (t : Then1 K G st H q Q) (s : SS K G st H) (r : Rep K G d v) (h : q d) : Q v H := t v d G H Post.refl s r h
theorem Then1.newL {vs : List V} {ds : List D} (t : Then1 K G st H q Q) (s : SS K G st H) (r : Reps K G ds vs) (h : q (.lst ds)) {p : Addr} (hp : H p = none) : Q (.ref p) (upd H p (.lst vs)) := by
  obtain ⟨s2, p2⟩ := s.new (o := .lst vs) hp
  exact t (.ref p) (.lst ds) _ _ p2 s2 (.lst upd_same (r.mono p2.le)) h
theorem Then1.newT {vs : List V} {ds : List D} (t : Then1 K G st H q Q) (s : SS K G st H) (r : Reps K G ds vs) (h : q (.tup ds)) {p : Addr} (hp : H p = none) : Q (.ref p) (upd H p (.tup vs)) := by
  obtain ⟨s2, p2⟩ := s.new (o := .tup vs) hp
  exact t (.ref p) (.tup ds) _ _ p2 s2 (.tup upd_same (r.mono p2.le)) h
end
/-! ### expressions -/
def aC (d : D) : AE := fun _ st q _ => q d st
def aVar (i : Nat) : AE := fun env st q _ => match env[i]? with
  | some (.d x) => q x st
  | _ => False
def aOp (f : O2) (a b : AE) : AE := fun env st q er => a env st (fun x s1 => b env s1 (fun y s2 => f (vw s2 x) (vw s2 y) fun z => q z s2) er) er
def aUn (f : O1) (a : AE) : AE := fun env st q er => a env st (fun x s1 => f (vw s1 x) fun z => q z s1) er
def aIf (t : AT) (a b : AE) : AE := fun env st q er => t env st (fun c s1 => if c = true then a env s1 q er else b env s1 q er) er
def aTest (a : AE) : AT := fun env st q er => a env st (fun x s1 => ∃ b, x = .bl b ∧ q b s1) er
def truthD : D → Option Bool
  | .non => some false
  | .bl b => some b
  | .int i => some (i != 0)
  | .str s => if s.length ≤ 100000 then some ((s.length : Int) != 0) else none
  | .lst l => some (!l.isEmpty)
  | .tup l => some (!l.isEmpty)
  | _ => none
def aTruth (a : AE) : AT := fun env st q er => a env st (fun x s1 => ∃ b, truthD (vw s1 x) = some b ∧ q b s1) er
def aAnd (t u : AT) : AT := fun env st q er => t env st (fun c s1 => if c = true then u env s1 q er else q false s1) er
def aOr (t u : AT) : AT := fun env st q er => t env st (fun c s1 => if c = true then q true s1 else u env s1 q er) er
def aNot (t : AT) : AT := fun env st q er => t env st (fun c s1 => q (!c) s1) er
def aAndV (a b : AE) : AE := fun env st q er => a env st (fun x s1 => ∃ c, x = .bl c ∧ if c = true then b env s1 q er else q (.bl false) s1) er
def aOrV (a b : AE) : AE := fun env st q er => a env st (fun x s1 => ∃ c, x = .bl c ∧ if c = true then q (.bl true) s1 else b env s1 q er) er
def aNotV (a : AE) : AE := fun env st q er => a env st (fun x s1 => ∃ c, x = .bl c ∧ q (.bl (!c)) s1) er
/-- a op b op' c -/
def aChain (f f' : O2) (a b c : AE) : AE := fun env st q er => a env st (fun x s1 => b env s1 (fun y s2 => f (vw s2 x) (vw s2 y) fun z => ∃ k, z = .bl k ∧ if k = true then c env s2 (fun w s3 => f' (vw s3 y) (vw s3 w) fun z => q z s3) er else q (.bl false) s2) er) er
abbrev AEs := List A → S → (List D → S → Prop) → QX → Prop
def aNil : AEs := fun _ st q _ => q [] st
def aCons (a : AE) (r : AEs) : AEs := fun env st q er => a env st (fun x s1 => r env s1 (fun xs s2 => q (x :: xs) s2) er) er
def aLst (as : AEs) : AE := fun env st q er => as env st (fun xs s1 => xs.length ≤ 100000 ∧ q (.lst xs) s1) er
def aTup (as : AEs) : AE := fun env st q er => as env st (fun xs s1 => xs.length ≤ 100000 ∧ q (.tup xs) s1) er
def aB (f : ON) (as : AEs) : AE := fun env st q er => as env st (fun xs s1 => f (xs.map (vw s1)) fun z => q z s1) er
def ThenA (K : PySem.W.Frag) (G : Gh) (H : Hp) (q : List D → S → Prop) (Q : List V → Hp → Prop) : Prop := ∀ vs ds st2 G2 H2, Post G H G2 H2 → SS K G2 st2 H2 → Reps K G2 ds vs → q ds st2 → Q vs H2
def RefA (K : PySem.W.Frag) (W : WX) (ta : TA) (aa : AEs) : Prop := ∀ G env st σ H (Q : List V → Hp → Prop) (q : List D → S → Prop) (er : QX), SS K G st H → Sl K G env σ → aa env st q er → ThenA K G H q Q → ThenX K W G H σ er → ta σ H Q
def AXA (X : Cx) (W : WX) (es : List Expr) (aa : AEs) : Prop := ∃ ta, PA X es ta ∧ RefA X.K W ta aa
section
variable {K : PySem.W.Frag} {W : WX} {ta tb tc te : TE} {aa ab ac : AE} {t u : TT} {xt xu : AT}
theorem refE_c {d : D} {v : V} (h : ∀ G, Rep K G d v) : RefE K W (tC v) (aC d) := fun G env st σ H Q q er s l a tE _ => tE v d st G H Post.refl s (h G) a
theorem refE_var (i : Nat) : RefE K W (tVar i) (aVar i) := fun G env st σ H Q q er s l a tE _ => by
  unfold aVar at a
  split at a
  · rename_i x e
    obtain ⟨u, eu, r⟩ := l.slot i _ e
    exact ⟨u, eu, tE u x st G H Post.refl s r a⟩
  · exact a.elim
theorem refE_op {r : R2} {f : O2} (ro : RefO K r f) (ha : RefE K W ta aa) (hb : RefE K W tb ab) : RefE K W (tOp r ta tb) (aOp f aa ab) := fun G env st σ H Q q er s l h tE tX => by
  refine ha G env st σ H _ _ er s l h (fun v d st1 G1 H1 p1 s1 r1 h1 => ?_) tX
  refine hb G1 env st1 σ H1 _ _ er s1 (l.mono p1.le) h1 (fun u d2 st2 G2 H2 p2 s2 r2 h2 => ?_) (tX.on p1)
  exact ro G2 st2 H2 v u _ _ Q _ s2 ((r1.mono p2.le).vw s2) (r2.vw s2) h2 fun w d3 G3 H3 p3 s3 r3 h3 => tE w d3 st2 G3 H3 ((p1.trans p2).trans p3) s3 r3 h3
theorem refE_chain {r r' : R2} {f f' : O2} (ro : RefO K r f) (ro' : RefO K r' f') (ha : RefE K W ta aa) (hb : RefE K W tb ab) (hc : RefE K W tc ac) : RefE K W (tChain r r' ta tb tc) (aChain f f' aa ab ac) := fun G env st σ H Q q er s l h tE tX => by
  refine ha G env st σ H _ _ er s l h (fun v d st1 G1 H1 p1 s1 r1 h1 => ?_) tX
  refine hb G1 env st1 σ H1 _ _ er s1 (l.mono p1.le) h1 (fun u d2 st2 G2 H2 p2 s2 r2 h2 => ?_) (tX.on p1)
  refine ro G2 st2 H2 v u _ _ _ _ s2 ((r1.mono p2.le).vw s2) (r2.vw s2) h2 fun w d3 G3 H3 p3 s3 r3 h3 => ?_
  obtain ⟨k, e, h3⟩ := h3
  subst e
  cases r3
  refine ⟨k, rfl, ?_⟩
  have p13 := (p1.trans p2).trans p3
  cases k with
  | false => exact tE _ _ st2 G3 H3 p13 s3 (.bl false) h3
  | true =>
    refine hc G3 env st2 σ H3 _ _ er s3 (l.mono p13.le) h3 (fun w d4 st4 G4 H4 p4 s4 r4 h4 => ?_) (tX.on p13)
    exact ro' G4 st4 H4 u w _ _ Q _ s4 (((r2.mono p3.le).mono p4.le).vw s4) (r4.vw s4) h4 fun w d5 G5 H5 p5 s5 r5 h5 => tE w d5 st4 G5 H5 ((p13.trans p4).trans p5) s5 r5 h5
theorem refE_un {r : V → Hp → VK → Prop} {f : O1} (ro : RefU K r f) (ha : RefE K W ta aa) : RefE K W (tUn r ta) (aUn f aa) := fun G env st σ H Q q er s l h tE tX => by
  refine ha G env st σ H _ _ er s l h (fun v d st1 G1 H1 p1 s1 r1 h1 => ?_) tX
  exact ro G1 st1 H1 v _ Q _ s1 (r1.vw s1) h1 fun w d3 G3 H3 p3 s3 r3 h3 => tE w d3 st1 G3 H3 (p1.trans p3) s3 r3 h3
theorem refT_test (ha : RefE K W ta aa) : RefT K W (tTest ta) (aTest aa) := fun G env st σ H Q q er s l h tT tX => by
  refine ha G env st σ H _ _ er s l h (fun v d st1 G1 H1 p1 s1 r1 ⟨b, e, h1⟩ => ?_) tX
  subst e
  cases r1
  exact ⟨b, rfl, tT b st1 G1 H1 p1 s1 h1⟩
theorem truth_ok {G : Gh} {H : Hp} {d : D} {v : V} {b : Bool} (r : Rv K G H d v) (h : truthD d = some b) : TruV K v H b := by
  cases r with
  | non => cases h; rfl
  | bl x => cases h; rfl
  | int i => cases h; rfl
  | str x =>
    have h' : (if x.length ≤ 100000 then some ((x.length : Int) != 0) else none) = some b := h
    by_cases hz : x.length ≤ 100000
    · rw [if_pos hz] at h'
      cases h'
      exact ⟨sz_of hz, rfl⟩
    · rw [if_neg hz] at h'
      cases h'
  | lst hs rs =>
    cases h
    refine .inl ⟨_, SqL.of hs, ?_⟩
    cases rs <;> rfl
  | tup hs rs _ =>
    cases h
    refine .inr (.inl ⟨_, SqT.of hs, ?_⟩)
    cases rs <;> rfl
  | _ => cases h
theorem refT_truth (ha : RefE K W ta aa) : RefT K W (fun σ H Q => ta σ H fun x H' => ∃ k, TruV K x H' k ∧ Q k H') (aTruth aa) := fun G env st σ H Q q er s l h tT tX => by
  refine ha G env st σ H _ _ er s l h (fun v d st1 G1 H1 p1 s1 r1 ⟨b, e, h1⟩ => ?_) tX
  exact ⟨b, truth_ok (r1.vw s1) e, tT b st1 G1 H1 p1 s1 h1⟩
theorem refT_and (ht : RefT K W t xt) (hu : RefT K W u xu) : RefT K W (tAnd t u) (aAnd xt xu) := fun G env st σ H Q q er s l h tT tX => by
  refine ht G env st σ H _ _ er s l h (fun b st1 G1 H1 p1 s1 h1 => ?_) tX
  cases b with
  | true => exact hu G1 env st1 σ H1 Q q er s1 (l.mono p1.le) h1 (tT.on p1) (tX.on p1)
  | false => exact tT false st1 G1 H1 p1 s1 h1
theorem refT_or (ht : RefT K W t xt) (hu : RefT K W u xu) : RefT K W (tOr t u) (aOr xt xu) := fun G env st σ H Q q er s l h tT tX => by
  refine ht G env st σ H _ _ er s l h (fun b st1 G1 H1 p1 s1 h1 => ?_) tX
  cases b with
  | false => exact hu G1 env st1 σ H1 Q q er s1 (l.mono p1.le) h1 (tT.on p1) (tX.on p1)
  | true => exact tT true st1 G1 H1 p1 s1 h1
theorem refT_not (ht : RefT K W t xt) : RefT K W (tNot t) (aNot xt) := fun G env st σ H Q q er s l h tT tX =>
  ht G env st σ H _ _ er s l h (fun b st1 G1 H1 p1 s1 h1 => tT (!b) st1 G1 H1 p1 s1 h1) tX
theorem refE_andV (ha : RefE K W ta aa) (hb : RefE K W tb ab) : RefE K W (tAndV ta tb) (aAndV aa ab) := fun G env st σ H Q q er s l h tE tX => by
  refine ha G env st σ H _ _ er s l h (fun v d st1 G1 H1 p1 s1 r1 ⟨b, e, h1⟩ => ?_) tX
  subst e
  cases r1
  refine ⟨b, rfl, ?_⟩
  cases b with
  | true => exact hb G1 env st1 σ H1 Q q er s1 (l.mono p1.le) h1 (tE.on p1) (tX.on p1)
  | false => exact tE _ _ st1 G1 H1 p1 s1 (.bl false) h1
theorem refE_orV (ha : RefE K W ta aa) (hb : RefE K W tb ab) : RefE K W (tOrV ta tb) (aOrV aa ab) := fun G env st σ H Q q er s l h tE tX => by
  refine ha G env st σ H _ _ er s l h (fun v d st1 G1 H1 p1 s1 r1 ⟨b, e, h1⟩ => ?_) tX
  subst e
  cases r1
  refine ⟨b, rfl, ?_⟩
  cases b with
  | false => exact hb G1 env st1 σ H1 Q q er s1 (l.mono p1.le) h1 (tE.on p1) (tX.on p1)
  | true => exact tE _ _ st1 G1 H1 p1 s1 (.bl true) h1
theorem refE_notV (ha : RefE K W ta aa) : RefE K W (tNotV ta) (aNotV aa) := fun G env st σ H Q q er s l h tE tX => by
  refine ha G env st σ H _ _ er s l h (fun v d st1 G1 H1 p1 s1 r1 ⟨b, e, h1⟩ => ?_) tX
  subst e
  cases r1
  exact ⟨b, rfl, tE _ _ st1 G1 H1 p1 s1 (.bl (!b)) h1⟩
theorem refE_if (ht : RefT K W t xt) (ha : RefE K W ta aa) (hb : RefE K W tb ab) : RefE K W (tIf t ta tb) (aIf xt aa ab) := fun G env st σ H Q q er s l h tE tX => by
  refine ht G env st σ H _ _ er s l h (fun b st1 G1 H1 p1 s1 h1 => ?_) tX
  cases b with
  | true => exact ha G1 env st1 σ H1 Q q er s1 (l.mono p1.le) h1 (tE.on p1) (tX.on p1)
  | false => exact hb G1 env st1 σ H1 Q q er s1 (l.mono p1.le) h1 (tE.on p1) (tX.on p1)
theorem refA_nil : RefA K W tNil aNil := fun G env st σ H Q q er s l h tA _ => tA [] [] st G H Post.refl s .nil h
theorem refA_cons {tr : TA} {ar : AEs} (ha : RefE K W ta aa) (hr : RefA K W tr ar) : RefA K W (tCons ta tr) (aCons aa ar) := fun G env st σ H Q q er s l h tA tX => by
  refine ha G env st σ H _ _ er s l h (fun v d st1 G1 H1 p1 s1 r1 h1 => ?_) tX
  exact hr G1 env st1 σ H1 _ _ er s1 (l.mono p1.le) h1 (fun vs ds st2 G2 H2 p2 s2 r2 h2 => tA _ _ st2 G2 H2 (p1.trans p2) s2 (.cons (r1.mono p2.le) r2) h2) (tX.on p1)
theorem refE_lst {tr : TA} {ar : AEs} (hr : RefA K W tr ar) : RefE K W (tLst tr) (aLst ar) := fun G env st σ H Q q er s l h tE tX =>
  hr G env st σ H _ _ er s l h (fun vs ds st1 G1 H1 p1 s1 r1 h1 => ⟨sz_of (by rw [← r1.length]; exact h1.1), fun p hp => by
    obtain ⟨s2, p2⟩ := s1.new (o := .lst vs) hp
    exact tE _ _ st1 _ _ (p1.trans p2) s2 (.lst upd_same (r1.mono p2.le)) h1.2⟩) tX
theorem refE_tup {tr : TA} {ar : AEs} (hr : RefA K W tr ar) : RefE K W (tTup tr) (aTup ar) := fun G env st σ H Q q er s l h tE tX =>
  hr G env st σ H _ _ er s l h (fun vs ds st1 G1 H1 p1 s1 r1 h1 => ⟨sz_of (by rw [← r1.length]; exact h1.1), fun p hp => by
    obtain ⟨s2, p2⟩ := s1.new (o := .tup vs) hp
    exact tE _ _ st1 _ _ (p1.trans p2) s2 (.tup upd_same (r1.mono p2.le)) h1.2⟩) tX
theorem refE_cb {r : List V → Hp → VK → Prop} {f : ON} {tr : TA} {ar : AEs} (rn : RefN K r f) (hr : RefA K W tr ar) : RefE K W (tCB r tr) (aB f ar) := fun G env st σ H Q q er s l h tE tX =>
  hr G env st σ H _ _ er s l h (fun vs ds st1 G1 H1 p1 s1 r1 h1 => rn G1 st1 H1 vs _ Q _ s1 (r1.vw s1) h1 fun w d3 G3 H3 p3 s3 r3 h3 => tE w d3 st1 G3 H3 (p1.trans p3) s3 r3 h3) tX
end
def CB (X : Cx) (f : Value) (b : ON) : Prop := ∃ r, CallR X f r ∧ RefN X.K r b
/-! ### the same over syntax -/
section
variable {X : Cx} {W : WX} {a b c e : Expr} {es : List Expr} {aa ab ac : AE} {xt xu : AT} {ar : AEs} {pos p : Pos} {x : Str}
theorem ax_var (i : Nat) {x : Str} {pos : Pos} (hN : X.N[i]? = some x := by rfl) (hv : Vis X.env.scope x := by first | exact Or.inl rfl | exact Or.inr (Or.inl rfl) | exact Or.inr (Or.inr rfl)) (hd : (x == ("__debug__" : Str)) = false := by decide) (hcd : (x == ("__classdict__" : Str)) = false := by decide) : AX X W (.Name x pos) (aVar i) :=
  ⟨_, pe_var hN hv hd hcd, refE_var i⟩
theorem ax_int {i : Int} {j : Nat} : AX X W (.Constant (.int i) j pos) (aC (.int i)) := ⟨_, pe_int, refE_c fun _ => .int i⟩
theorem ax_bl {i : Bool} {j : Nat} : AX X W (.Constant (.bool i) j pos) (aC (.bl i)) := ⟨_, pe_bl, refE_c fun _ => .bl i⟩
theorem ax_non {j : Nat} : AX X W (.Constant .none j pos) (aC .non) := ⟨_, pe_non, refE_c fun _ => .non⟩
theorem ax_str {i : Str} {j : Nat} : AX X W (.Constant (.str i) j pos) (aC (.str i)) := ⟨_, pe_str, refE_c fun _ => .str i⟩
theorem ax_op {op : Operator} {r : R2} {f : O2} (h : OpR X (binaryOp op) r ∧ RefO X.K r f) (ha : AX X W a aa) (hb : AX X W b ab) : AX X W (.BinOp a op b pos) (aOp f aa ab) := by
  obtain ⟨ta, pa, ra⟩ := ha
  obtain ⟨tb, pb, rb⟩ := hb
  exact ⟨_, pe_op h.1 pa pb, refE_op h.2 ra rb⟩
theorem ax_un {op : UnaryOp} {r : V → Hp → VK → Prop} {f : O1} (h : UnR X (unaryOp op) r ∧ RefU X.K r f) (ha : AX X W a aa) : AX X W (.UnaryOp op a pos) (aUn f aa) := by
  obtain ⟨ta, pa, ra⟩ := ha
  exact ⟨_, pe_un h.1 pa, refE_un h.2 ra⟩
theorem ax_cmp {op : CmpOp} {r : R2} {f : O2} (h : OpR X (compareOp op) r ∧ RefO X.K r f) (ha : AX X W a aa) (hb : AX X W b ab) (hm : behindInMarks op b = false := by first | exact nobehind _ (by decide) (by decide) | rfl) : AX X W (.Compare a [op] [b] pos) (aOp f aa ab) := by
  obtain ⟨ta, pa, ra⟩ := ha
  obtain ⟨tb, pb, rb⟩ := hb
  exact ⟨_, pe_cmpR h.1 pa pb hm, refE_op h.2 ra rb⟩
theorem axt_cmp {op : CmpOp} {r : R2} {f : O2} (h : OpR X (compareOp op) r ∧ RefO X.K r f) (ha : AX X W a aa) (hb : AX X W b ab) (hm : behindInMarks op b = false := by first | exact nobehind _ (by decide) (by decide) | rfl) : AXT X W (.Compare a [op] [b] pos) (aTest (aOp f aa ab)) := by
  obtain ⟨ta, pa, ra⟩ := ha
  obtain ⟨tb, pb, rb⟩ := hb
  exact ⟨_, pt_cmpR h.1 pa pb hm, refT_test (refE_op h.2 ra rb)⟩
/-- an expression as a test, by its truth -/
theorem axt_val (ha : AX X W a aa) (he : ∀ whole, isTrue a X.env whole = (do let v ← whole; standAt a.pos; holding [v] (truthy v)) := by intro _; rfl) : AXT X W a (aTruth aa) := by
  obtain ⟨ta, pa, ra⟩ := ha
  exact ⟨_, pt_truth pa he, refT_truth ra⟩
theorem axw_and1 (ha : AXT X W a xt) : AXW X W (.BoolOp .And [a] pos) xt := by
  obtain ⟨ta, pa, ra⟩ := ha
  exact ⟨_, pw_and1 pa, ra⟩
theorem axw_or1 (ha : AXT X W a xt) : AXW X W (.BoolOp .Or [a] pos) xt := by
  obtain ⟨ta, pa, ra⟩ := ha
  exact ⟨_, pw_or1 pa, ra⟩
theorem axw_and {rest : List Expr} (ha : AXT X W a xt) (hb : AXW X W (.BoolOp .And (b :: rest) pos) xu) : AXW X W (.BoolOp .And (a :: b :: rest) pos) (aAnd xt xu) := by
  obtain ⟨ta, pa, ra⟩ := ha
  obtain ⟨tb, pb, rb⟩ := hb
  exact ⟨_, pw_and pa pb, refT_and ra rb⟩
theorem axw_or {rest : List Expr} (ha : AXT X W a xt) (hb : AXW X W (.BoolOp .Or (b :: rest) pos) xu) : AXW X W (.BoolOp .Or (a :: b :: rest) pos) (aOr xt xu) := by
  obtain ⟨ta, pa, ra⟩ := ha
  obtain ⟨tb, pb, rb⟩ := hb
  exact ⟨_, pw_or pa pb, refT_or ra rb⟩
theorem axt_w (ha : AXW X W a xt) : AXT X W a xt := by
  obtain ⟨ta, pa, ra⟩ := ha
  exact ⟨_, pa.pt, ra⟩
theorem axt_not (ha : AXT X W a xt) : AXT X W (.UnaryOp .Not a pos) (aNot xt) := by
  obtain ⟨ta, pa, ra⟩ := ha
  exact ⟨_, pt_not pa, refT_not ra⟩
theorem ax_one {op : BoolOp} (ha : AX X W a aa) : AX X W (.BoolOp op [a] pos) aa := by
  obtain ⟨ta, pa, ra⟩ := ha
  exact ⟨_, pe_one pa, ra⟩
theorem ax_and {rest : List Expr} (ha : AX X W a aa) (hb : AX X W (.BoolOp .And (b :: rest) pos) ab) : AX X W (.BoolOp .And (a :: b :: rest) pos) (aAndV aa ab) := by
  obtain ⟨ta, pa, ra⟩ := ha
  obtain ⟨tb, pb, rb⟩ := hb
  exact ⟨_, pe_and pa pb, refE_andV ra rb⟩
theorem ax_or {rest : List Expr} (ha : AX X W a aa) (hb : AX X W (.BoolOp .Or (b :: rest) pos) ab) : AX X W (.BoolOp .Or (a :: b :: rest) pos) (aOrV aa ab) := by
  obtain ⟨ta, pa, ra⟩ := ha
  obtain ⟨tb, pb, rb⟩ := hb
  exact ⟨_, pe_or pa pb, refE_orV ra rb⟩
theorem ax_not (ha : AX X W a aa) : AX X W (.UnaryOp .Not a pos) (aNotV aa) := by
  obtain ⟨ta, pa, ra⟩ := ha
  exact ⟨_, pe_not pa, refE_notV ra⟩
theorem ax_chain {op op' : CmpOp} {r r' : R2} {f f' : O2} (h : OpR X (compareOp op) r ∧ RefO X.K r f) (h' : OpR X (compareOp op') r' ∧ RefO X.K r' f') (ha : AX X W a aa) (hb : AX X W b ab) (hc : AX X W c ac) (hm : lastMarks [op, op'] [b, c] = false := by with_unfolding_all rfl) : AX X W (.Compare a [op, op'] [b, c] pos) (aChain f f' aa ab ac) := by
  obtain ⟨ta, pa, ra⟩ := ha
  obtain ⟨tb, pb, rb⟩ := hb
  obtain ⟨tc, pc, rc⟩ := hc
  exact ⟨_, pe_chain h.1 h'.1 pa pb pc hm, refE_chain h.2 h'.2 ra rb rc⟩
theorem axt_chain {op op' : CmpOp} {r r' : R2} {f f' : O2} (h : OpR X (compareOp op) r ∧ RefO X.K r f) (h' : OpR X (compareOp op') r' ∧ RefO X.K r' f') (ha : AX X W a aa) (hb : AX X W b ab) (hc : AX X W c ac) (hm : lastMarks [op, op'] [b, c] = false := by with_unfolding_all rfl) : AXT X W (.Compare a [op, op'] [b, c] pos) (aTest (aChain f f' aa ab ac)) := by
  obtain ⟨ta, pa, ra⟩ := ha
  obtain ⟨tb, pb, rb⟩ := hb
  obtain ⟨tc, pc, rc⟩ := hc
  exact ⟨_, pt_chain h.1 h'.1 pa pb pc hm, refT_test (refE_chain h.2 h'.2 ra rb rc)⟩
theorem ax_if (hc : AXT X W c xt) (ha : AX X W a aa) (hb : AX X W b ab) : AX X W (.IfExp c a b pos) (aIf xt aa ab) := by
  obtain ⟨tc, pc, rc⟩ := hc
  obtain ⟨ta, pa, ra⟩ := ha
  obtain ⟨tb, pb, rb⟩ := hb
  exact ⟨_, pe_ifExp pc pa pb, refE_if rc ra rb⟩
theorem axa_nil : AXA X W [] aNil := ⟨_, pa_nil, refA_nil⟩
theorem axa_cons (ha : AX X W e aa) (hr : AXA X W es ar) (hs : starEach (e :: es) X.env = (false, eval e X.env) :: starEach es X.env := by rfl) : AXA X W (e :: es) (aCons aa ar) := by
  obtain ⟨ta, pa, ra⟩ := ha
  obtain ⟨tb, pb, rb⟩ := hr
  exact ⟨_, pa_cons pa pb hs, refA_cons ra rb⟩
theorem ax_lst (hr : AXA X W es ar) : AX X W (.List es pos) (aLst ar) := by
  obtain ⟨tb, pb, rb⟩ := hr
  exact ⟨_, pe_lst pb, refE_lst rb⟩
theorem ax_tup {k : Nat} (hr : AXA X W es ar) : AX X W (.Tuple es k pos) (aTup ar) := by
  obtain ⟨tb, pb, rb⟩ := hr
  exact ⟨_, pe_tup pb, refE_tup rb⟩
theorem ax_ix {r : R2} {f : O2} (h : IxR X r ∧ RefO X.K r f) (ha : AX X W a aa) (hb : AX X W b ab) (hs : PlainIx b := by exact fun _ _ => rfl) : AX X W (.Subscript a b pos) (aOp f aa ab) := by
  obtain ⟨ta, pa, ra⟩ := ha
  obtain ⟨tb, pb, rb⟩ := hb
  exact ⟨_, pe_ix h.1 pa pb hs, refE_op h.2 ra rb⟩
theorem ax_callB {f : ON} {id : String} (h : CB X (.builtin id) f) (hm : X.mg x = none) (hv : bootBuiltins x = some (.builtin id)) (ha : AXA X W (e :: es) ar) (hg : Gl X x := by rfl) (hn : x ≠ "__name__" := by decide) (hdb : (x == ("__debug__" : Str)) = false := by decide)
    (he : starEach (e :: es) X.env = (false, eval e X.env) :: starEach es X.env := by rfl) (hpl : (backTo pos (starEach es X.env)).any (·.1) = false := by rfl) : AX X W (.Call (.Name x p) (e :: es) [] pos) (aB f ar) := by
  obtain ⟨ta, pa, ra⟩ := ha
  obtain ⟨r, h1, h2⟩ := h
  exact ⟨_, pe_callB h1 hg hm hv pa hn hdb he hpl, refE_cb h2 ra⟩
theorem ax_callTy {f : ON} {T : String} (h : CB X (.type T) f) (hm : X.mg x = none) (hv : bootBuiltins x = some (.type T)) (ha : AXA X W (e :: es) ar) (hg : Gl X x := by rfl) (hn : x ≠ "__name__" := by decide) (hdb : (x == ("__debug__" : Str)) = false := by decide)
    (he : starEach (e :: es) X.env = (false, eval e X.env) :: starEach es X.env := by rfl) (hpl : (backTo pos (starEach es X.env)).any (·.1) = false := by rfl) : AX X W (.Call (.Name x p) (e :: es) [] pos) (aB f ar) := by
  obtain ⟨ta, pa, ra⟩ := ha
  obtain ⟨r, h1, h2⟩ := h
  exact ⟨_, pe_callTy h1 hg hm hv pa hn hdb he hpl, refE_cb h2 ra⟩
end
end AM
set_option Elab.async false
set_option linter.all false
set_option maxRecDepth 100000
set_option maxHeartbeats 4000000
namespace AM
open PySem L2 Evl
/-! ### targets -/
abbrev AG := D → List A → S → (List A → Prop) → Prop
abbrev AGs := List D → List A → S → (List A → Prop) → Prop
def ThenG (K : PySem.W.Frag) (G : Gh) (H : Hp) (q : List A → Prop) (Q : St → Hp → Prop) : Prop := ∀ env' σ', Sl K G env' σ' → q env' → Q σ' H
def RefG (K : PySem.W.Frag) (g : TG) (ag : AG) : Prop := ∀ G env st σ H d v (Q : St → Hp → Prop) (q : List A → Prop), SS K G st H → Sl K G env σ → Rep K G d v → ag d env st q → ThenG K G H q Q → g v σ H Q
def RefGs (K : PySem.W.Frag) (g : TGs) (ag : AGs) : Prop := ∀ G env st σ H ds vs (Q : St → Hp → Prop) (q : List A → Prop), SS K G st H → Sl K G env σ → Reps K G ds vs → ag ds env st q → ThenG K G H q Q → g vs σ H Q
def agName (i : Nat) : AG := fun d env _ q => q (env.set i (.d d))
def agNil : AGs := fun ds env _ q => ds = [] ∧ q env
def agCons (g : AG) (r : AGs) : AGs := fun ds env st q => match ds with
  | d :: ds => g d env st fun env' => r ds env' st q
  | [] => False
def agTup (n : Nat) (g : AGs) : AG := fun d env st q => match d with
  | .tup ds => ds.length = n ∧ g ds env st q
  | _ => False
section
variable {K : PySem.W.Frag} {g : TG} {ag : AG} {gs : TGs} {ags : AGs}
theorem refG_name (i : Nat) : RefG K (gName i) (agName i) := fun G env st σ H d v Q q s l r h t => t _ _ (l.set i r) h
theorem refGs_nil : RefGs K gNil agNil := fun G env st σ H ds vs Q q s l r h t => by
  obtain ⟨e, h⟩ := h
  subst e
  cases r
  exact ⟨rfl, t env σ l h⟩
theorem refGs_cons (h1 : RefG K g ag) (h2 : RefGs K gs ags) : RefGs K (gCons g gs) (agCons ag ags) := fun G env st σ H ds vs Q q s l r h t => by
  cases r with
  | nil => exact h.elim
  | cons r1 r2 =>
    refine ⟨_, _, rfl, ?_⟩
    exact h1 G env st σ H _ _ _ _ s l r1 h fun env' σ' l2 h2' => h2 G env' st σ' H _ _ Q q s l2 r2 h2' t
theorem refG_tup {n : Nat} (h : RefGs K gs ags) : RefG K (gTup K n gs) (agTup n ags) := fun G env st σ H d v Q q s l r h1 t => by
  cases r with
  | tup hs rs => exact ⟨_, _, rfl, SqT.of (s.ex _ _ hs), by rw [← rs.length]; exact h1.1, h G env st σ H _ _ Q q s l rs h1.2 t⟩
  | _ => exact h1.elim
end
def AXG (X : Cx) (e : Expr) (ag : AG) : Prop := ∃ g, PG X e g ∧ RefG X.K g ag
def AXGs (X : Cx) (es : List Expr) (ag : AGs) : Prop := ∃ g, PGs X es g ∧ RefGs X.K g ag
/-! ### statements -/
def sNext : AS := fun env st k => k.nx env st
def sSeq (a b : AS) : AS := fun env st k => a env st { k with nx := fun env' st' => b env' st' k }
def sBreak : AS := fun env st k => k.bk env st
def sCont : AS := fun env st k => k.ct env st
def sDrop (a : AE) : AS := fun env st k => a env st (fun _ s1 => k.nx env s1) (fun e s1 => k.er e env s1)
def sRet (a : AE) : AS := fun env st k => a env st (fun d s1 => k.rt (.d d) s1) (fun e s1 => k.er e env s1)
def sRetN : AS := fun env st k => k.rt (.d .non) st
def sIf (t : AT) (a b : AS) : AS := fun env st k => t env st (fun c s1 => if c = true then a env s1 k else b env s1 k) (fun e s1 => k.er e env s1)
def sAsg (a : AE) (g : AG) : AS := fun env st k => a env st (fun d s1 => g d env s1 fun env' => k.nx env' s1) (fun e s1 => k.er e env s1)
def sPar (i j : Nat) (as : AEs) : AS := fun env st k => as env st (fun ds s1 => match ds with
  | [x, y] => k.nx ((env.set i (.d x)).set j (.d y)) s1
  | _ => False) (fun e s1 => k.er e env s1)
def sAug (i : Nat) (f : O2) (a : AE) : AS := fun env st k => ∃ x, env[i]? = some (.d x) ∧ a env st (fun y s1 => f (vw s1 x) (vw s1 y) fun z => k.nx (env.set i (.d z)) s1) (fun e s1 => k.er e env s1)
def sNever : AS := fun _ _ _ => False
def sForL (gd : Gd) (g : AG) (b : AS) : List D → AS
  | [] => fun env st k => gdOk gd st ∧ k.nx env st
  | x :: xs => fun env st k => gdOk gd st ∧ g x env st fun e1 => b e1 st { k with nx := fun e2 s2 => sForL gd g b xs e2 s2 k, ct := fun e2 s2 => sForL gd g b xs e2 s2 k, bk := k.nx }
def sFor (it : AI) (g : AG) (b : AS) : AS := fun env st k => it env st (fun ds gd s1 => sForL gd g b ds env s1 k) (fun e s1 => k.er e env s1)
def sWhN (t : AT) (b : AS) : Nat → AS
  | 0 => fun _ _ _ => False
  | n + 1 => fun env st k => t env st (fun c s1 => if c = true then b env s1 { k with nx := fun e2 s2 => sWhN t b n e2 s2 k, ct := fun e2 s2 => sWhN t b n e2 s2 k, bk := k.nx } else k.nx env s1) (fun e s1 => k.er e env s1)
def sWhile (t : AT) (b : AS) : AS := fun env st k => ∃ n, sWhN t b n env st k
section
variable {K : PySem.W.Frag} {W : WX} {te : TE} {ae : AE} {ts tu : TS} {as bs : AS} {tt : TT} {xt : AT}
theorem refS_next : RefS K W tNext sNext := fun G env st σ H D k s l h t => t.nx env σ st G H Post.refl s l h
theorem refS_break : RefS K W tBreak sBreak := fun G env st σ H D k s l h t => t.bk env σ st G H Post.refl s l h
theorem refS_cont : RefS K W tCont sCont := fun G env st σ H D k s l h t => t.ct env σ st G H Post.refl s l h
theorem refS_never : RefS K W tNever sNever := fun G env st σ H D k s l h t => h.elim
theorem refS_seq (h1 : RefS K W ts as) (h2 : RefS K W tu bs) : RefS K W (tSeq ts tu) (sSeq as bs) := fun G env st σ H D k s l h t =>
  h1 G env st σ H _ _ s l h ⟨fun env' σ' st2 G2 H2 p2 s2 l2 q => h2 G2 env' st2 σ' H2 D k s2 l2 q (t.on p2), t.rt, t.bk, t.ct, t.er⟩
theorem refS_drop (he : RefE K W te ae) : RefS K W (tDrop te) (sDrop ae) := fun G env st σ H D k s l h t =>
  he G env st σ H _ _ _ s l h (fun v d st2 G2 H2 p2 s2 r2 q => t.nx env σ st2 G2 H2 p2 s2 (l.mono p2.le) q) (t.x l)
theorem refS_ret (he : RefE K W te ae) : RefS K W (tRet te) (sRet ae) := fun G env st σ H D k s l h t =>
  he G env st σ H _ _ _ s l h (fun v d st2 G2 H2 p2 s2 r2 q => t.rt v (.d d) st2 G2 H2 p2 s2 r2 q) (t.x l)
theorem refS_retN : RefS K W tRetN sRetN := fun G env st σ H D k s l h t => t.rt .non (.d .non) st G H Post.refl s Rep.non h
theorem refS_if (hc : RefT K W tt xt) (h1 : RefS K W ts as) (h2 : RefS K W tu bs) : RefS K W (tIfS tt ts tu) (sIf xt as bs) := fun G env st σ H D k s l h t =>
  hc G env st σ H _ _ _ s l h (fun b st2 G2 H2 p2 s2 q => by
    cases b with
    | true => exact h1 G2 env st2 σ H2 D k s2 (l.mono p2.le) q (t.on p2)
    | false => exact h2 G2 env st2 σ H2 D k s2 (l.mono p2.le) q (t.on p2)) (t.x l)
theorem refS_asg {g : TG} {ag : AG} (he : RefE K W te ae) (hg : RefG K g ag) : RefS K W (tAsg te g) (sAsg ae ag) := fun G env st σ H D k s l h t =>
  he G env st σ H _ _ _ s l h (fun v d st2 G2 H2 p2 s2 r2 q => hg G2 env st2 σ H2 d v _ _ s2 (l.mono p2.le) r2 q fun env3 σ3 l3 h3 => t.nx env3 σ3 st2 G2 H2 p2 s2 l3 h3) (t.x l)
theorem refS_par {i j : Nat} {ta : TA} {aa : AEs} (ha : RefA K W ta aa) : RefS K W (tPar i j ta) (sPar i j aa) := fun G env st σ H D k s l h t =>
  ha G env st σ H _ _ _ s l h (fun vs ds st2 G2 H2 p2 s2 r2 q => by
    match ds, r2, q with
    | [x, y], .cons r1 (.cons r3 .nil), q => exact ⟨_, _, rfl, t.nx _ _ st2 G2 H2 p2 s2 (((l.mono p2.le).set i r1).set j r3) q⟩) (t.x l)
theorem refS_aug {i : Nat} {ti : TIp} {f : O2} (he : RefE K W te ae) (ho : RefO K ti f) : RefS K W (tAug i te ti) (sAug i f ae) := fun G env st σ H D k s l h t => by
  obtain ⟨x, ex, h⟩ := h
  obtain ⟨u, eu, ru⟩ := l.slot i _ ex
  refine ⟨u, eu, he G env st σ H _ _ _ s l h (fun v d st2 G2 H2 p2 s2 r2 q => ?_) (t.x l)⟩
  exact ho G2 st2 H2 u v _ _ _ _ s2 ((ru.mono p2.le).vw s2) (r2.vw s2) q fun w d3 G3 H3 p3 s3 r3 h3 => t.nx _ _ st2 G3 H3 (p2.trans p3) s3 ((l.mono (p2.trans p3).le).set i r3) h3
def ForN (K : PySem.W.Frag) (gd : Gd) (ag : AG) (as : AS) (ds : List D) (k : AK) (G2 : Gh) (H2 : Hp) (i : Nat) : St → Hp → Prop := fun σ4 H4 => i ≤ ds.length ∧ ∃ G5 env5 st5, Post G2 H2 G5 H4 ∧ SS K G5 st5 H4 ∧ Sl K G5 env5 σ4 ∧ sForL gd ag as (ds.drop i) env5 st5 k
theorem sForL_gd {gd : Gd} {ag : AG} {as : AS} : ∀ {ds : List D} {env : List A} {st : S} {k : AK}, sForL gd ag as ds env st k → gdOk gd st
  | [], _, _, _, h => h.1
  | _ :: _, _, _, _, h => h.1
theorem refS_for {wi : TI} {ai : AI} {g : TG} {ag : AG} (hi : RefI K W wi ai) (hg : RefG K g ag) (hb : RefS K W ts as) : RefS K W (tFor wi g ts) (sFor ai ag as) := fun G env st σ H D k s l h t => by
  refine hi G env st σ H _ _ _ s l h (fun J ds gd st2 G2 H2 p2 s2 wk q => ?_) (t.x l)
  refine ⟨fun i m σ' H' => m = ds.length - i ∧ ForN K gd ag as ds k G2 H2 i σ' H', ⟨ds.length, by omega, Nat.zero_le _, G2, env, st2, Post.refl, s2, l.mono p2.le, q⟩, ?_⟩
  rintro i m σ' H' ⟨rfl, hle, G3, env3, st3, p3, s3, l3, f3⟩
  have gk := sForL_gd f3
  by_cases hlt : i < ds.length
  · refine .inr ⟨wk.go i G3 st3 H' p3.le s3 gk hlt, ForN K gd ag as ds k G2 H2 (i + 1), fun σ4 H4 h4 => ⟨ds.length - (i + 1), by omega, rfl, h4⟩, fun x H5 y => ?_⟩
    rw [List.drop_eq_getElem_cons hlt] at f3
    have hd : ds[i]? = some ds[i] := by simp [hlt]
    have turn : ∀ G6, Post G3 H' G6 H5 → SS K G6 st3 H5 → Rep K G6 ds[i] x → g x σ' H5 fun σ2 H2' => ts { D with nx := ForN K gd ag as ds k G2 H2 (i + 1), ct := ForN K gd ag as ds k G2 H2 (i + 1), bk := D.nx } σ2 H2' := fun G6 p6 s6 rr => by
      refine hg G6 env3 st3 σ' _ ds[i] x _ _ s6 (l3.mono p6.le) rr f3.2 fun env7 σ7 l7 h7 => ?_
      have p36 := p3.trans p6
      exact hb G6 env7 st3 σ7 H5 _ _ s6 l7 h7 ⟨fun env8 σ8 st8 G8 H8 p8 s8 l8 h8 => ⟨hlt, G8, env8, st8, p36.trans p8, s8, l8, h8⟩, (t.on (p2.trans p36)).rt,
        fun env8 σ8 st8 G8 H8 p8 s8 l8 => t.nx env8 σ8 st8 G8 H8 ((p2.trans p36).trans p8) s8 l8, fun env8 σ8 st8 G8 H8 p8 s8 l8 h8 => ⟨hlt, G8, env8, st8, p36.trans p8, s8, l8, h8⟩, (t.on (p2.trans p36)).er⟩
    rcases wk.yld i G3 st3 H' _ x H5 p3.le s3 gk hd y with ⟨e5, rr⟩ | ⟨p, xs, es, hp, e5, ex, ed, rs⟩
    · subst e5
      exact turn G3 Post.refl s3 rr
    · obtain ⟨s6, p6⟩ := s3.new (o := .tup xs) hp
      rw [← e5] at s6 p6
      refine turn _ p6 s6 ?_
      rw [ed, ex]
      exact .tup upd_same (rs.mono p6.le)
  · have e : i = ds.length := by omega
    subst e
    rw [List.drop_length] at f3
    exact .inl ⟨wk.stop _ G3 st3 H' p3.le s3 gk rfl, t.nx env3 σ' st3 G3 H' (p2.trans p3) s3 l3 f3.2⟩
theorem refS_while (hc : RefT K W tt xt) (hb : RefS K W ts as) : RefS K W (tWhile tt ts) (sWhile xt as) := fun G env st σ H D k s l h t => by
  obtain ⟨n, h⟩ := h
  refine ⟨fun m σ' H' => ∃ G3 env3 st3, Post G H G3 H' ∧ SS K G3 st3 H' ∧ Sl K G3 env3 σ' ∧ sWhN xt as m env3 st3 k, ⟨n, G, env, st, Post.refl, s, l, h⟩, ?_⟩
  rintro m σ' H' ⟨G3, env3, st3, p3, s3, l3, f3⟩
  cases m with
  | zero => exact f3.elim
  | succ m =>
    refine hc G3 env3 st3 σ' H' _ _ _ s3 l3 f3 (fun b st4 G4 H4 p4 s4 h4 => ?_) ((t.on p3).x l3)
    have p34 := p3.trans p4
    cases b with
    | false => exact t.nx env3 σ' st4 G4 H4 p34 s4 (l3.mono p4.le) h4
    | true =>
      refine ⟨fun σ5 H5 => ∃ G5 env5 st5, Post G H G5 H5 ∧ SS K G5 st5 H5 ∧ Sl K G5 env5 σ5 ∧ sWhN xt as m env5 st5 k, fun σ5 H5 h5 => ⟨m, Nat.lt_succ_self m, h5⟩, ?_⟩
      exact hb G4 env3 st4 σ' H4 _ _ s4 (l3.mono p4.le) h4 ⟨fun env8 σ8 st8 G8 H8 p8 s8 l8 h8 => ⟨G8, env8, st8, p34.trans p8, s8, l8, h8⟩, (t.on p34).rt,
        fun env8 σ8 st8 G8 H8 p8 s8 l8 => t.nx env8 σ8 st8 G8 H8 (p34.trans p8) s8 l8, fun env8 σ8 st8 G8 H8 p8 s8 l8 h8 => ⟨G8, env8, st8, p34.trans p8, s8, l8, h8⟩, (t.on p34).er⟩
end
end AM
set_option Elab.async false
set_option linter.all false
set_option maxRecDepth 100000
set_option maxHeartbeats 4000000
namespace AM
open PySem L2 Evl
/-! ### the block's own slots -/
def wA : List Nat → List A → List A
  | [], env => env
  | v :: vs, env => (wA vs env).set v .no
theorem wA_length (env : List A) : ∀ vs, (wA vs env).length = env.length
  | [] => rfl
  | v :: vs => by unfold wA; rw [List.length_set, wA_length env vs]
theorem wA_get {env : List A} {j : Nat} {x : A} : ∀ {vs}, (wA vs env)[j]? = some x → (x = .no) ∨ (j ∉ vs ∧ env[j]? = some x)
  | [], h => .inr ⟨by simp, h⟩
  | v :: vs, h => by
    unfold wA at h
    rcases get_set h with ⟨rfl, rfl, _⟩ | ⟨hj, h⟩
    · exact .inl rfl
    · rcases wA_get h with h | ⟨h1, h2⟩
      · exact .inl h
      · exact .inr ⟨by simp only [List.mem_cons, not_or]; exact ⟨hj, h1⟩, h2⟩
theorem wipe_out' {σ : St} {j : Nat} : ∀ {vs}, j ∉ vs → (wipe σ vs)[j]? = σ[j]?
  | [], _ => rfl
  | v :: vs, n => by
    simp only [List.mem_cons, not_or] at n
    unfold wipe
    rw [List.getElem?_set_ne (Ne.symm n.1)]
    exact wipe_out' n.2
theorem wipe_in {σ : St} {j : Nat} : ∀ {vs}, j ∈ vs → j < σ.length → (wipe σ vs)[j]? = some none
  | v :: vs, n, hl => by
    unfold wipe
    by_cases hj : j = v
    · subst hj
      rw [List.getElem?_set_self (by rw [wipe_length]; exact hl)]
    · rw [List.getElem?_set_ne (Ne.symm hj)]
      exact wipe_in (by simpa [hj] using n) hl
theorem wipe_ext {σ τ : St} {vs : List Nat} (hl : σ.length = τ.length) (h : ∀ j, j ∉ vs → σ[j]? = τ[j]?) : wipe σ vs = wipe τ vs := by
  apply List.ext_getElem?
  intro j
  by_cases hj : j ∈ vs
  · by_cases hs : j < σ.length
    · rw [wipe_in hj hs, wipe_in hj (by omega)]
    · rw [List.getElem?_eq_none (by rw [wipe_length]; omega), List.getElem?_eq_none (by rw [wipe_length]; omega)]
  · rw [wipe_out' hj, wipe_out' hj]
    exact h j hj
theorem wipe_wipe {σ : St} {vs : List Nat} : wipe (wipe σ vs) vs = wipe σ vs := wipe_ext (wipe_length _ _) fun j hj => wipe_out' hj
theorem wipe_set {σ : St} {vs : List Nat} {i : Nat} {v : Option V} (h : i ∈ vs) : wipe (σ.set i v) vs = wipe σ vs := wipe_ext (by rw [List.length_set]) fun j hj => by
  rw [List.getElem?_set_ne]
  intro e
  exact hj (e ▸ h)
theorem Sl.wipe {K : PySem.W.Frag} {G : Gh} {env : List A} {σ : St} (s : Sl K G env σ) (vs : List Nat) : Sl K G (wA vs env) (L2.wipe σ vs) := by
  refine ⟨by rw [wA_length, wipe_length]; exact s.len, fun j x h => ?_⟩
  rcases wA_get h with rfl | ⟨n, h⟩
  · trivial
  · rw [wipe_out' n]
    exact s.slot j x h
/-! ### targets that keep to the block's names -/
def Stays (vs : List Nat) (g : TG) : Prop := ∀ v σ H Q Q' σ0, wipe σ vs = wipe σ0 vs → (∀ σ2 H2, wipe σ2 vs = wipe σ0 vs → Q σ2 H2 → Q' σ2 H2) → g v σ H Q → g v σ H Q'
def Stayss (vs : List Nat) (g : TGs) : Prop := ∀ v σ H Q Q' σ0, wipe σ vs = wipe σ0 vs → (∀ σ2 H2, wipe σ2 vs = wipe σ0 vs → Q σ2 H2 → Q' σ2 H2) → g v σ H Q → g v σ H Q'
theorem stays_name {vs : List Nat} {i : Nat} (h : i ∈ vs) : Stays vs (gName i) := fun v σ H Q Q' σ0 e k q => k _ _ ((wipe_set h).trans e) q
theorem stays_nil {vs : List Nat} : Stayss vs gNil := fun v σ H Q Q' σ0 e k q => ⟨q.1, k _ _ e q.2⟩
theorem stays_cons {vs : List Nat} {g : TG} {gs : TGs} (h1 : Stays vs g) (h2 : Stayss vs gs) : Stayss vs (gCons g gs) := fun v σ H Q Q' σ0 e k q => by
  obtain ⟨w, r, e1, q⟩ := q
  exact ⟨w, r, e1, h1 w σ H _ _ σ0 e (fun a b z q => h2 r a b Q Q' σ0 z k q) q⟩
theorem stays_tup {K : PySem.W.Frag} {vs : List Nat} {n : Nat} {gs : TGs} (h : Stayss vs gs) : Stays vs (gTup K n gs) := fun v σ H Q Q' σ0 e k q => by
  obtain ⟨a, xs, e1, h1, h2, q⟩ := q
  exact ⟨a, xs, e1, h1, h2, h xs σ H Q Q' σ0 e k q⟩
/-! ### a new list grows at P, beside the state -/
structure Bs (K : PySem.W.Frag) (P : Addr) (G : Gh) (H : Hp) (acc : List D) (G2 : Gh) (st2 : S) (H2 : Hp) : Prop where
  ss : SS K G2 st2 H2
  po : Post G H G2 H2
  new : H P = none
  na : P ∉ G2.as
  ng : G2.g P = none
  at_ : ∃ vs, H2 P = some (.lst vs) ∧ Reps K G2 acc vs
section
variable {K : PySem.W.Frag} {P : Addr} {G G2 G3 : Gh} {H H2 H3 : Hp} {st st2 st3 : S} {acc : List D}
theorem Bs.start (s : SS K G st H) (hP : H P = none) : Bs K P G H [] G st (upd H P (.lst [])) := by
  obtain ⟨s2, p2, na, ng⟩ := s.room (o := .lst []) hP
  exact ⟨s2, p2, hP, na, ng, [], upd_same, .nil⟩
theorem Bs.on (b : Bs K P G H acc G2 st2 H2) (p : Post G2 H2 G3 H3) (s3 : SS K G3 st3 H3) : Bs K P G H acc G3 st3 H3 := by
  obtain ⟨vs, e, r⟩ := b.at_
  refine ⟨s3, b.po.trans p, b.new, fun z => ?_, p.n P b.ng (ne_some e) b.na, vs, p.h P _ e b.na, r.mono p.le⟩
  rcases p.o P z with z | z
  · exact b.na z
  · rw [e] at z; cases z
theorem Bs.app (b : Bs K P G H acc G2 st2 H2) {d : D} {v : V} (r : Rep K G2 d v) (hl : acc.length < 100000) : ∃ vs, H2 P = some (.lst vs) ∧ vs.length < sizeLine ∧ Bs K P G H (acc ++ [d]) G2 st2 (upd H2 P (.lst (vs ++ [v]))) := by
  obtain ⟨vs, e, rs⟩ := b.at_
  refine ⟨vs, e, sz_lt (by rw [← rs.length]; exact hl), ⟨fun a o q => ?_, b.ss.len, b.ss.nd, fun n c p e1 e2 => (b.ss.cell n c p e1 e2).mono (Gh.le.refl _) (fun o q => ?_) (fun _ q => q)⟩, ⟨b.po.le, fun x o q k => ?_, b.po.n, b.po.o, fun x k => ?_⟩, b.new, b.na, b.ng, _, upd_same, rs.append (.one r)⟩
  · rw [upd_ne (fun z => by rw [z, b.ng] at q; cases q)]; exact b.ss.ex a o q
  · rw [upd_ne (mem_ne b.na (List.mem_of_getElem? e2))]; exact q
  · rw [upd_ne (live_ne b.new (ne_some q))]; exact b.po.h x o q k
  · by_cases h : x = P
    · subst h; rw [upd_same]; exact fun z => nomatch z
    · rw [upd_ne h]; exact b.po.m x k
theorem Bs.own (b : Bs K P G H acc G2 st2 H2) : ResOk K H G2 H2 (.own acc) (.ref P) := by
  obtain ⟨vs, e, rs⟩ := b.at_
  exact ⟨P, vs, rfl, e, b.ng, b.na, b.new, rs⟩
/-- a result that nobody holds is frozen -/
theorem own_frz {l : List D} {v : V} (s : SS K G2 st2 H2) (po : Post G H G2 H2) (h : ResOk K H G2 H2 (.own l) v) : ∃ G3, SS K G3 st2 H2 ∧ Post G H G3 H2 ∧ Rep K G3 (.lst l) v := by
  obtain ⟨p, vs, rfl, e, gp, np, hn, rs⟩ := h
  obtain ⟨s3, le⟩ := s.freeze e gp np
  exact ⟨_, s3, po.freeze gp hn, .lst upd_same (rs.mono le)⟩
theorem DctAt.mono {G G2 : Gh} {p : Addr} {l : List (D × D)} (e : G.le G2) (h : DctAt K G H p l) : DctAt K G2 H p l := by
  obtain ⟨kvs, h, r⟩ := h
  exact ⟨kvs, h, r.mono e⟩
theorem ownd_frz {l : List (D × D)} {v : V} (s : SS K G2 st2 H2) (po : Post G H G2 H2) (h : ResOk K H G2 H2 (.ownD l) v) : ∃ G3, SS K G3 st2 H2 ∧ Post G H G3 H2 ∧ Rep K G3 (.dic l) v := by
  obtain ⟨p, rfl, e, gp, np, hn⟩ := h
  obtain ⟨kvs, e, rs⟩ := e
  obtain ⟨s3, le⟩ := s.freeze e gp np
  exact ⟨_, s3, po.freeze gp hn, .dicT upd_same (rs.mono le)⟩
theorem ownd_cell {l : List (D × D)} {v : V} (s : SS K G2 st2 H2) (po : Post G H G2 H2) (h : ResOk K H G2 H2 (.ownD l) v) : ∃ G3, SS K G3 (st2 ++ [.dic l]) H2 ∧ Post G H G3 H2 ∧ Rep K G3 (.ref st2.length) v := by
  obtain ⟨p, rfl, e, gp, np, hn⟩ := h
  refine ⟨_, s.cellOf (c := .dic l) np ⟨gp, e.mono le_cell⟩, po.cellOf hn, .ref ?_⟩
  rw [← s.len, List.getElem?_append_right (Nat.le_refl _), Nat.sub_self]
  rfl
/-- .. becomes a cell -/
theorem own_cell {l : List D} {v : V} (s : SS K G2 st2 H2) (po : Post G H G2 H2) (h : ResOk K H G2 H2 (.own l) v) : ∃ G3, SS K G3 (st2 ++ [.lst l]) H2 ∧ Post G H G3 H2 ∧ Rep K G3 (.ref st2.length) v := by
  obtain ⟨p, vs, rfl, e, gp, np, hn, rs⟩ := h
  refine ⟨_, s.cellOf (c := .lst l) np ⟨vs, gp, e, rs.mono le_cell⟩, po.cellOf hn, .ref ?_⟩
  rw [← s.len, List.getElem?_append_right (Nat.le_refl _), Nat.sub_self]
  rfl
end
/-! ### comprehensions -/
def aLcL (gd : Gd) (g : AG) (t : AT) (e : AE) (env : List A) (q : List D → S → Prop) : List D → List D → S → Prop
  | [], acc, st => gdOk gd st ∧ q acc st
  | x :: xs, acc, st => gdOk gd st ∧ g x env st fun e1 => t e1 st (fun b s2 => if b = true then e e1 s2 (fun y s3 => acc.length < 100000 ∧ aLcL gd g t e env q xs (acc ++ [y]) s3) (fun _ _ => False) else aLcL gd g t e env q xs acc s2) (fun _ _ => False)
def aLc2L (gd : Gd) (g : AG) (t : AT) (it1 : AI) (g1 : AG) (t1 : AT) (e : AE) (vs1 : List Nat) (env : List A) (q : List D → S → Prop) : List D → List D → S → Prop
  | [], acc, st => gdOk gd st ∧ q acc st
  | x :: xs, acc, st => gdOk gd st ∧ g x env st fun e1 => t e1 st (fun b s2 => if b = true then it1 e1 s2 (fun ds1 gd1 s3 => aLcL gd1 g1 t1 e (wA vs1 e1) (fun acc' s4 => aLc2L gd g t it1 g1 t1 e vs1 env q xs acc' s4) ds1 acc s3) (fun _ _ => False) else aLc2L gd g t it1 g1 t1 e vs1 env q xs acc s2) (fun _ _ => False)
/-- a fresh list -/
abbrev AFr := List A → S → (List D → S → Prop) → QX → Prop
def fLc (it : AI) (g : AG) (t : AT) (e : AE) (vs : List Nat) : AFr := fun env st q er => it env st (fun ds gd s1 => aLcL gd g t e (wA vs env) q ds [] s1) er
def fLc2 (it : AI) (g : AG) (t : AT) (it1 : AI) (g1 : AG) (t1 : AT) (e : AE) (vs vs1 : List Nat) : AFr := fun env st q er => it env st (fun ds gd s1 => aLc2L gd g t it1 g1 t1 e vs1 (wA vs env) q ds [] s1) er
def aFr (f : AFr) : AE := fun env st q er => f env st (fun l s1 => q (.lst l) s1) er
def ThenF (K : PySem.W.Frag) (G : Gh) (H : Hp) (q : List D → S → Prop) (Q : VK) : Prop := ∀ v l st2 G2 H2, Post G H G2 H2 → SS K G2 st2 H2 → ResOk K H G2 H2 (.own l) v → q l st2 → Q v H2
def RefF (K : PySem.W.Frag) (W : WX) (te : TE) (af : AFr) : Prop := ∀ G env st σ H (Q : VK) (q : List D → S → Prop) (er : QX), SS K G st H → Sl K G env σ → af env st q er → ThenF K G H q Q → ThenX K W G H σ er → te σ H Q
def AXF (X : Cx) (W : WX) (e : Expr) (af : AFr) : Prop := ∃ te, PE X e te ∧ RefF X.K W te af
theorem RefF.e {K : PySem.W.Frag} {W : WX} {te : TE} {af : AFr} (h : RefF K W te af) : RefE K W te (aFr af) := fun G env st σ H Q q er s l a tE tX =>
  h G env st σ H Q _ er s l a (fun v ds st2 G2 H2 p2 s2 r2 h2 => by
    obtain ⟨G3, s3, p3, r3⟩ := own_frz s2 p2 r2
    exact tE v _ st2 G3 H2 p3 s3 r3 h2) tX
def W0 : WX := fun _ _ _ _ => False
theorem stay_g {K : PySem.W.Frag} {g : TG} {ag : AG} {vs : List Nat} (hg : RefG K g ag) (hs : Stays vs g) {G : Gh} {env : List A} {st : S} {σ : St} {H : Hp} {d : D} {v : V} (s : SS K G st H) (l : Sl K G env (wipe σ vs)) (r : Rep K G d v) {N : List A → Prop} (h : ag d env st N) {Q : St → Hp → Prop}
    (k : ∀ env7 σ7, wipe σ7 vs = wipe σ vs → Sl K G env7 σ7 → N env7 → Q σ7 H) : g v (wipe σ vs) H (fun σ2 H2 => wipe σ2 vs = wipe σ vs ∧ Q σ2 H2) :=
  hs v _ H (fun σ7 H7 => ∃ env7, H7 = H ∧ Sl K G env7 σ7 ∧ N env7) _ σ wipe_wipe (fun σ7 H7 hw ⟨env7, e7, l7, h7⟩ => ⟨hw, by rw [e7]; exact k env7 σ7 hw l7 h7⟩) (hg G env st (wipe σ vs) H d v _ _ s l r h fun env7 σ7 l7 h7 => ⟨env7, rfl, l7, h7⟩)
/-- one loop with its list: whoever has the list at the end goes on with it -/
theorem lc_walk {K : PySem.W.Frag} {g : TG} {ag : AG} {tt : TT} {xt : AT} {te : TE} {ae : AE} {vs : List Nat} (hg : RefG K g ag) (hs : Stays vs g) (ht : RefT K W0 tt xt) (he : RefE K W0 te ae)
    {P : Addr} {G G2 : Gh} {H H2 : Hp} {acc : List D} {st2 : S} {env : List A} {σ : St} (b0 : Bs K P G H acc G2 st2 H2) (l : Sl K G2 env (wipe σ vs)) {J : It} {ds : List D} {gd : Gd} (wk : Walks K G2 J ds gd) {q : List D → S → Prop} (h : aLcL gd ag xt ae env q ds acc st2) (Fin : Hp → Prop)
    (fin : ∀ acc G3 st3 H3, Bs K P G H acc G3 st3 H3 → G2.le G3 → q acc st3 → Fin H3) :
    ∃ W : Nat → Nat → Hp → Prop, (∃ m, W 0 m H2) ∧ ∀ i m H, W i m H →
      (J.stop i H ∧ Fin H) ∨ (J.go i H ∧ ∃ Nx : Hp → Prop, (∀ H', Nx H' → ∃ m', m' < m ∧ W (i + 1) m' H') ∧ ∀ x H', J.yld i H x H' → g x (wipe σ vs) H' fun σ2 H2 => wipe σ2 vs = wipe σ vs ∧ tt σ2 H2 fun b H3 =>
        if b = true then te σ2 H3 fun y H4 => ∃ acc, H4 P = some (.lst acc) ∧ acc.length < sizeLine ∧ Nx (upd H4 P (.lst (acc ++ [y]))) else Nx H3) := by
  have gk : ∀ {ds acc st}, aLcL gd ag xt ae env q ds acc st → gdOk gd st := fun {ds acc st} h => by cases ds <;> exact h.1
  let Inv : Nat → Hp → Prop := fun i H' => i ≤ ds.length ∧ ∃ acc G3 st3, Bs K P G H acc G3 st3 H' ∧ G2.le G3 ∧ aLcL gd ag xt ae env q (ds.drop i) acc st3
  refine ⟨fun i m H' => m = ds.length - i ∧ Inv i H', ⟨ds.length, by omega, Nat.zero_le _, acc, G2, st2, b0, Gh.le.refl _, h⟩, ?_⟩
  rintro i m H' ⟨rfl, hle, acc, G3, st3, b3, le3, f3⟩
  have s3 := b3.ss
  have k3 := gk f3
  by_cases hlt : i < ds.length
  · refine .inr ⟨wk.go i G3 st3 H' le3 s3 k3 hlt, Inv (i + 1), fun H4 h4 => ⟨ds.length - (i + 1), by omega, rfl, h4⟩, fun x H5 y => ?_⟩
    rw [List.drop_eq_getElem_cons hlt] at f3
    have hd : ds[i]? = some ds[i] := by simp [hlt]
    have turn : ∀ G6, Post G3 H' G6 H5 → SS K G6 st3 H5 → Rep K G6 ds[i] x → g x (wipe σ vs) H5 fun σ2 H2 => wipe σ2 vs = wipe σ vs ∧ tt σ2 H2 fun b H3 =>
        if b = true then te σ2 H3 fun y H4 => ∃ acc, H4 P = some (.lst acc) ∧ acc.length < sizeLine ∧ Inv (i + 1) (upd H4 P (.lst (acc ++ [y]))) else Inv (i + 1) H3 := fun G6 p6 s6 rr => by
      have b6 := b3.on p6 s6
      have le6 := le3.trans p6.le
      refine stay_g hg hs s6 (l.mono le6) rr f3.2 fun env7 σ7 hw l7 h7 => ?_
      refine ht G6 env7 st3 σ7 H5 _ _ _ s6 l7 h7 (fun bb st8 G8 H8 p8 s8 h8 => ?_) ThenX.none
      cases bb with
      | false => exact ⟨hlt, acc, G8, st8, b6.on p8 s8, le6.trans p8.le, h8⟩
      | true =>
        refine he G8 env7 st8 σ7 H8 _ _ _ s8 (l7.mono p8.le) h8 (fun w d st9 G9 H9 p9 s9 r9 h9 => ?_) ThenX.none
        obtain ⟨us, e1, e2, e3⟩ := (b6.on (p8.trans p9) s9).app r9 h9.1
        exact ⟨us, e1, e2, hlt, acc ++ [d], G9, st9, e3, le6.trans (p8.trans p9).le, h9.2⟩
    rcases wk.yld i G3 st3 H' _ x H5 le3 s3 k3 hd y with ⟨e5, rr⟩ | ⟨p, xs, es, hp, e5, ex, ed, rs⟩
    · subst e5
      exact turn G3 Post.refl s3 rr
    · obtain ⟨s6, p6⟩ := s3.new (o := .tup xs) hp
      rw [← e5] at s6 p6
      refine turn _ p6 s6 ?_
      rw [ed, ex]
      exact .tup upd_same (rs.mono p6.le)
  · have e : i = ds.length := by omega
    subst e
    rw [List.drop_length] at f3
    exact .inl ⟨wk.stop _ G3 st3 H' le3 s3 k3 rfl, fin acc G3 st3 H' b3 le3 f3.2⟩
theorem refF_lc {K : PySem.W.Frag} {W : WX} {wi : TI} {ai : AI} {g : TG} {ag : AG} {tt : TT} {xt : AT} {te : TE} {ae : AE} {vs : List Nat} (hi : RefI K W wi ai) (hg : RefG K g ag) (hs : Stays vs g) (ht : RefT K W0 tt xt) (he : RefE K W0 te ae) :
    RefF K W (tLc wi g tt te vs) (fLc ai ag xt ae vs) := fun G env st σ H Q q er s l h tE tX => by
  refine hi G env st σ H _ _ er s l h (fun J ds gd st2 G2 H2 p2 s2 wk h2 => ?_) tX
  exact fun P hP => lc_walk hg hs ht he (Bs.start s2 hP) ((l.mono p2.le).wipe vs) wk h2 (fun H' => Q (.ref P) H') fun acc G3 st3 H3 b3 _ q3 =>
    tE _ acc st3 G3 H3 (p2.trans b3.po) b3.ss (b3.own.on p2) q3
theorem refF_lc2 {K : PySem.W.Frag} {W : WX} {wi wi1 : TI} {ai ai1 : AI} {g g1 : TG} {ag ag1 : AG} {tt tt1 : TT} {xt xt1 : AT} {te : TE} {ae : AE} {vs vs1 : List Nat} (hi : RefI K W wi ai) (hg : RefG K g ag) (hs : Stays vs g) (ht : RefT K W0 tt xt) (hi1 : RefI K W0 wi1 ai1) (hg1 : RefG K g1 ag1) (hs1 : Stays vs1 g1) (ht1 : RefT K W0 tt1 xt1) (he : RefE K W0 te ae) :
    RefF K W (tLc2 wi g tt wi1 g1 tt1 te vs vs1) (fLc2 ai ag xt ai1 ag1 xt1 ae vs vs1) := fun G env st σ H Q q er s l h tE tX => by
  refine hi G env st σ H _ _ er s l h (fun J ds gd st2 G2 H2 p2 s2 wk h2 => ?_) tX
  intro P hP
  have b0 := Bs.start s2 hP
  have l0 := (l.mono p2.le).wipe vs
  have gk : ∀ {ds acc st}, aLc2L gd ag xt ai1 ag1 xt1 ae vs1 (wA vs env) q ds acc st → gdOk gd st := fun {ds acc st} h => by cases ds <;> exact h.1
  let Inv : Nat → Hp → Prop := fun i H' => i ≤ ds.length ∧ ∃ acc G3 st3, Bs K P G2 H2 acc G3 st3 H' ∧ G2.le G3 ∧ aLc2L gd ag xt ai1 ag1 xt1 ae vs1 (wA vs env) q (ds.drop i) acc st3
  refine ⟨fun i m H' => m = ds.length - i ∧ Inv i H', ⟨ds.length, by omega, Nat.zero_le _, [], G2, st2, b0, Gh.le.refl _, h2⟩, ?_⟩
  rintro i m H' ⟨rfl, hle, acc, G3, st3, b3, le3, f3⟩
  have s3 := b3.ss
  have k3 := gk f3
  by_cases hlt : i < ds.length
  · refine .inr ⟨wk.go i G3 st3 H' le3 s3 k3 hlt, Inv (i + 1), fun H4 h4 => ⟨ds.length - (i + 1), by omega, rfl, h4⟩, fun x H5 y => ?_⟩
    rw [List.drop_eq_getElem_cons hlt] at f3
    have hd : ds[i]? = some ds[i] := by simp [hlt]
    have turn : ∀ G6, Post G3 H' G6 H5 → SS K G6 st3 H5 → Rep K G6 ds[i] x → g x (wipe σ vs) H5 fun σ2 H2 => wipe σ2 vs = wipe σ vs ∧ tt σ2 H2 fun b H3 =>
        if b = true then wi1 σ2 H3 fun J1 H4 => ∃ W1 : Nat → Nat → Hp → Prop, (∃ m, W1 0 m H4) ∧ ∀ j k H, W1 j k H →
          (J1.stop j H ∧ Inv (i + 1) H) ∨ (J1.go j H ∧ ∃ Nx1 : Hp → Prop, (∀ H', Nx1 H' → ∃ k', k' < k ∧ W1 (j + 1) k' H') ∧ ∀ x H', J1.yld j H x H' → g1 x (wipe σ2 vs1) H' fun σ3 H5 => wipe σ3 vs1 = wipe σ2 vs1 ∧ tt1 σ3 H5 fun b H6 =>
            if b = true then te σ3 H6 fun y H7 => ∃ acc, H7 P = some (.lst acc) ∧ acc.length < sizeLine ∧ Nx1 (upd H7 P (.lst (acc ++ [y]))) else Nx1 H6)
        else Inv (i + 1) H3 := fun G6 p6 s6 rr => by
      have b6 := b3.on p6 s6
      have le6 := le3.trans p6.le
      refine stay_g hg hs s6 (l0.mono le6) rr f3.2 fun env7 σ7 hw l7 h7 => ?_
      refine ht G6 env7 st3 σ7 H5 _ _ _ s6 l7 h7 (fun bb st8 G8 H8 p8 s8 h8 => ?_) ThenX.none
      cases bb with
      | false => exact ⟨hlt, acc, G8, st8, b6.on p8 s8, le6.trans p8.le, h8⟩
      | true =>
        refine hi1 G8 env7 st8 σ7 H8 _ _ _ s8 (l7.mono p8.le) h8 (fun J1 ds1 gd1 st9 G9 H9 p9 s9 wk9 h9 => ?_) ThenX.none
        exact lc_walk hg1 hs1 ht1 he ((b6.on p8 s8).on p9 s9) ((l7.mono (p8.trans p9).le).wipe vs1) wk9 h9 (Inv (i + 1)) fun acc' G10 st10 H10 b10 le10 q10 => ⟨hlt, acc', G10, st10, b10, (le6.trans (p8.trans p9).le).trans le10, q10⟩
    rcases wk.yld i G3 st3 H' _ x H5 le3 s3 k3 hd y with ⟨e5, rr⟩ | ⟨p, xs, es, hp, e5, ex, ed, rs⟩
    · subst e5
      exact turn G3 Post.refl s3 rr
    · obtain ⟨s6, p6⟩ := s3.new (o := .tup xs) hp
      rw [← e5] at s6 p6
      refine turn _ p6 s6 ?_
      rw [ed, ex]
      exact .tup upd_same (rs.mono p6.le)
  · have e : i = ds.length := by omega
    subst e
    rw [List.drop_length] at f3
    exact .inl ⟨wk.stop _ G3 st3 H' le3 s3 k3 rfl, tE _ acc st3 G3 H' (p2.trans b3.po) s3 (b3.own.on p2) f3.2⟩
end AM
set_option Elab.async false
set_option linter.all false
set_option maxRecDepth 100000
set_option maxHeartbeats 4000000
namespace AM
open PySem L2 Evl
/-! ### a def by data -/
abbrev AF := List D → S → (Rs → S → Prop) → QX → Prop
def SpA (K : PySem.W.Frag) (m : AF) : Sp := fun vs H Q E => ∃ G st args q er, SS K G st H ∧ Reps K G args vs ∧ m args st q er ∧
  (∀ v r st2 G2 H2, Post G H G2 H2 → SS K G2 st2 H2 → ResOk K H G2 H2 r v → q r st2 → Q v H2) ∧
  ∀ e c dx st2 G2 H2, Post G H G2 H2 → SS K G2 st2 H2 → ErAt K G2 e c dx → er e st2 → E c dx H2
def Rs.lt (k : Nat) : Rs → Prop
  | .d x => x.lt k
  | .own l => ltL k l
  | .ownD l => ltP k l
/-- how a def is left: the store stays as it is -/
def fnP (np ns : Nat) (b : AS) : AF := fun args st q er => args.length = np ∧ b (args.map .d ++ List.replicate (ns - np) .no) st ⟨fun _ s => q (.d .non) s, q, fun _ _ => False, fun _ _ => False, fun e _ s => er e s⟩
/-- .. its own cells are left away; a list of its own may be handed on -/
def exC (k : Nat) (q : Rs → S → Prop) (r : Rs) (s : S) : Prop := ltS k (s.take k) ∧ ((r.lt k ∧ q r (s.take k)) ∨ ∃ n l, r = .d (.ref n) ∧ k ≤ n ∧ s[n]? = some (.lst l) ∧ ltL k l ∧ q (.own l) (s.take k))
def exD (k : Nat) (q : Rs → S → Prop) (r : Rs) (s : S) : Prop := ltS k (s.take k) ∧ ((r.lt k ∧ q r (s.take k)) ∨ ∃ n l, r = .d (.ref n) ∧ k ≤ n ∧ s[n]? = some (.dic l) ∧ ltP k l ∧ q (.ownD l) (s.take k))
def fnD (np ns : Nat) (b : AS) : AF := fun args st q er => args.length = np ∧ (ltL st.length args → ltS st.length st → b (args.map .d ++ List.replicate (ns - np) .no) st ⟨fun _ s => exD st.length q (.d .non) s, exD st.length q, fun _ _ => False, fun _ _ => False, fun e _ s => e.lt st.length ∧ ltS st.length (s.take st.length) ∧ er e (s.take st.length)⟩)
def fnC (np ns : Nat) (b : AS) : AF := fun args st q er => args.length = np ∧ (ltL st.length args → ltS st.length st → b (args.map .d ++ List.replicate (ns - np) .no) st ⟨fun _ s => exC st.length q (.d .non) s, exC st.length q, fun _ _ => False, fun _ _ => False, fun e _ s => e.lt st.length ∧ ltS st.length (s.take st.length) ∧ er e (s.take st.length)⟩)
theorem get_pad {α : Type} {l : List α} {n i : Nat} {a x : α} (h : (l ++ List.replicate n a)[i]? = some x) : l[i]? = some x ∨ (x = a ∧ l.length ≤ i) := by
  by_cases hi : i < l.length
  · rw [List.getElem?_append_left hi] at h
    exact .inl h
  · rw [List.getElem?_append_right (by omega), List.getElem?_replicate] at h
    split at h
    · exact .inr ⟨(Option.some.inj h).symm, by omega⟩
    · cases h
theorem Reps.sl {K : PySem.W.Frag} {G : Gh} {args : List D} {vs : List V} (r : Reps K G args vs) (n : Nat) : Sl K G (args.map .d ++ List.replicate n .no) (vs.map some ++ List.replicate n none) := by
  refine ⟨by simp [r.length], fun i x h => ?_⟩
  rcases get_pad h with h | ⟨rfl, _⟩
  · rw [List.getElem?_map] at h
    cases hh : args[i]? with
    | none => rw [hh] at h; cases h
    | some d =>
      rw [hh] at h
      cases h
      obtain ⟨v, hv, rv⟩ := r.get hh
      refine ⟨v, ?_, rv⟩
      rw [List.getElem?_append_left (by rw [List.length_map]; exact (List.getElem?_eq_some_iff.mp hv).1), List.getElem?_map, hv]
      rfl
  · trivial
/-! ### contexts -/
theorem takesN0 {X : Cx} : L2N.Takes X (fun _ _ _ _ => False) := fun _ _ x => by
  obtain ⟨_, _, _, _, _, _, _, _, _, _, _, _, _, _, _, _, w⟩ := x
  exact w.elim
structure CxE (X : Cx) (W : WX) (k : Nat) : Prop where
  calm : X.calm = true
  nd : X.N.Nodup
  room : Room k X.A
  takes : L2N.Takes X W
structure CxS (X : Cx) (W : WX) (k : Nat) : Prop extends CxE X W k where
  po : PassesOwn (model X.prog X.w) X.A X.env X.xe
  stk : X.stack = X.env :: X.outer
  frm : X.env.frame = some X.env.locals
theorem CxE.mono {X : Cx} {W : WX} {j k : Nat} (c : CxE X W k) (h : j ≤ k) : CxE X W j := ⟨c.calm, c.nd, c.room.mono h, c.takes⟩
theorem CxS.mono {X : Cx} {W : WX} {j k : Nat} (c : CxS X W k) (h : j ≤ k) : CxS X W j := ⟨c.toCxE.mono h, c.po, c.stk, c.frm⟩
theorem CxE.blk {X : Cx} {W : WX} {k : Nat} (c : CxE X W k) (s : Shared) (H : Hp) (scope : Scope) (ce : Env) (fp : List Addr) : CxE (X.blk s H scope ce fp) W0 k := ⟨c.calm, c.nd, c.room, takesN0⟩
abbrev dE (E : XK) : WX := fun c d _ H => E c d H
/-- a body leads to a promise -/
structure Leads (np ns : Nat) (b : AS) (m : AF) : Prop where
  ar : ∀ args st q er, m args st q er → args.length = np
  run : ∀ {K : PySem.W.Frag} {G : Gh} {st : S} {H : Hp} {args : List D} {q : Rs → S → Prop} {er : QX} {Q : VK} {E : XK} {vs : List V}, SS K G st H → Reps K G args vs → m args st q er →
    (∀ v r st2 G2 H2, Post G H G2 H2 → SS K G2 st2 H2 → ResOk K H G2 H2 r v → q r st2 → Q v H2) → (∀ e c dx st2 G2 H2, Post G H G2 H2 → SS K G2 st2 H2 → ErAt K G2 e c dx → er e st2 → E c dx H2) →
    ∃ k, b (args.map .d ++ List.replicate (ns - np) .no) st k ∧ ThenS K (dE E) G H k { nx := fun _ H' => Q .non H', rt := Q }
theorem leadsP {np ns : Nat} {b : AS} : Leads np ns b (fnP np ns b) := ⟨fun _ _ _ _ h => h.1, fun {K G st H args q er Q E vs} s r m hq he => ⟨_, m.2, fun env' σ' st2 G2 H2 p2 s2 l2 h => hq .non (.d .non) st2 G2 H2 p2 s2 Rep.non h, hq, fun _ _ _ _ _ _ _ _ z => z.elim, fun _ _ _ _ _ _ _ _ z => z.elim, fun e c dx env' σ' st2 G2 H2 p2 s2 l2 ea h => he e c dx st2 G2 H2 p2 s2 ea h⟩⟩
theorem DctAt.cut {K : PySem.W.Frag} {G : Gh} {H : Hp} {p : Addr} {l : List (D × D)} {as : List Addr} (e : as <+: G.as) (h : DctAt K G H p l) (hl : ltP as.length l) : DctAt K ⟨G.g, as⟩ H p l := by
  obtain ⟨kvs, h, r⟩ := h
  exact ⟨kvs, h, r.cut e hl⟩
theorem leadsC {np ns : Nat} {b : AS} : Leads np ns b (fnC np ns b) := ⟨fun _ _ _ _ h => h.1, fun {K G st H args q er Q E vs} s r m hq he => by
  have ka : G.as.length = st.length := s.len
  have la : ltL st.length args := by rw [← ka]; exact r.lt
  have rt : ∀ (v : V) (r : Rs) (st2 : S) (G2 : Gh) (H2 : Hp), Post G H G2 H2 → SS K G2 st2 H2 → ResOk K H G2 H2 r v → exC st.length q r st2 → Q v H2 := fun v r st2 G2 H2 p2 s2 r2 h => by
    obtain ⟨h1, h⟩ := h
    rw [← ka] at h1 h
    have s3 := s2.cut p2.le.a h1
    have p3 := p2.cut
    rcases h with ⟨h2, h⟩ | ⟨n, l, rfl, hn, e, hl, h⟩
    · refine hq v r _ _ H2 p3 s3 ?_ h
      cases r with
      | d x => exact Rep.cut p2.le.a r2 h2
      | own l =>
        obtain ⟨p, vs, e1, e2, e3, e4, e5, e6⟩ := r2
        exact ⟨p, vs, e1, e2, e3, fun z => e4 (p2.le.a.subset z), e5, e6.cut p2.le.a h2⟩
      | ownD l =>
        obtain ⟨p, e1, e2, e3, e4, e5⟩ := r2
        exact ⟨p, e1, e2.cut p2.le.a h2, e3, fun z => e4 (p2.le.a.subset z), e5⟩
    · refine hq v (.own l) _ _ H2 p3 s3 ?_ h
      cases r2 with
      | ref ep =>
        rename_i p
        obtain ⟨vs, gp, hp, rs⟩ := s2.cell n _ p e ep
        have np : p ∉ G.as := fun z => by
          obtain ⟨i, ei⟩ := List.mem_iff_getElem?.mp z
          have hi := (List.getElem?_eq_some_iff.mp ei).1
          have := (List.getElem?_inj (List.getElem?_eq_some_iff.mp ep).1 s2.nd).mp (ep.trans (pre_get p2.le.a ei).symm)
          omega
        refine ⟨p, vs, rfl, hp, gp, np, ?_, rs.cut p2.le.a hl⟩
        rcases p2.o p (List.mem_of_getElem? ep) with z | z
        · exact absurd z np
        · exact z
  refine ⟨_, m.2 la s.wf, fun env' σ' st2 G2 H2 p2 s2 l2 h => rt .non (.d .non) st2 G2 H2 p2 s2 Rep.non h, rt, fun _ _ _ _ _ _ _ _ z => z.elim, fun _ _ _ _ _ _ _ _ z => z.elim, fun e c dx env' σ' st2 G2 H2 p2 s2 l2 ea h => ?_⟩
  obtain ⟨h1, h2, h⟩ := h
  rw [← ka] at h1 h2 h
  exact he e c dx _ _ H2 p2.cut (s2.cut p2.le.a h2) (ea.cut p2.le.a h1) h⟩
theorem leadsD {np ns : Nat} {b : AS} : Leads np ns b (fnD np ns b) := ⟨fun _ _ _ _ h => h.1, fun {K G st H args q er Q E vs} s r m hq he => by
  have ka : G.as.length = st.length := s.len
  have la : ltL st.length args := by rw [← ka]; exact r.lt
  have rt : ∀ (v : V) (r : Rs) (st2 : S) (G2 : Gh) (H2 : Hp), Post G H G2 H2 → SS K G2 st2 H2 → ResOk K H G2 H2 r v → exD st.length q r st2 → Q v H2 := fun v r st2 G2 H2 p2 s2 r2 h => by
    obtain ⟨h1, h⟩ := h
    rw [← ka] at h1 h
    have s3 := s2.cut p2.le.a h1
    have p3 := p2.cut
    rcases h with ⟨h2, h⟩ | ⟨n, l, rfl, hn, e, hl, h⟩
    · refine hq v r _ _ H2 p3 s3 ?_ h
      cases r with
      | d x => exact Rep.cut p2.le.a r2 h2
      | own l =>
        obtain ⟨p, vs, e1, e2, e3, e4, e5, e6⟩ := r2
        exact ⟨p, vs, e1, e2, e3, fun z => e4 (p2.le.a.subset z), e5, e6.cut p2.le.a h2⟩
      | ownD l =>
        obtain ⟨p, e1, e2, e3, e4, e5⟩ := r2
        exact ⟨p, e1, e2.cut p2.le.a h2, e3, fun z => e4 (p2.le.a.subset z), e5⟩
    · refine hq v (.ownD l) _ _ H2 p3 s3 ?_ h
      cases r2 with
      | ref ep =>
        rename_i p
        obtain ⟨gp, hp⟩ := s2.cell n _ p e ep
        have np : p ∉ G.as := fun z => by
          obtain ⟨i, ei⟩ := List.mem_iff_getElem?.mp z
          have hi := (List.getElem?_eq_some_iff.mp ei).1
          have := (List.getElem?_inj (List.getElem?_eq_some_iff.mp ep).1 s2.nd).mp (ep.trans (pre_get p2.le.a ei).symm)
          omega
        refine ⟨p, rfl, DctAt.cut p2.le.a hp hl, gp, np, ?_⟩
        rcases p2.o p (List.mem_of_getElem? ep) with z | z
        · exact absurd z np
        · exact z
  refine ⟨_, m.2 la s.wf, fun env' σ' st2 G2 H2 p2 s2 l2 h => rt .non (.d .non) st2 G2 H2 p2 s2 Rep.non h, rt, fun _ _ _ _ _ _ _ _ z => z.elim, fun _ _ _ _ _ _ _ _ z => z.elim, fun e c dx env' σ' st2 G2 H2 p2 s2 l2 ea h => ?_⟩
  obtain ⟨h1, h2, h⟩ := h
  rw [← ka] at h1 h2 h
  exact he e c dx _ _ H2 p2.cut (s2.cut p2.le.a h2) (ea.cut p2.le.a h1) h⟩
/-- THE RULE for a def -/
theorem fn_ok {P : Program} {w : World} {K : PySem.W.Frag} {mg : Str → Option Value} {base : Heap} {x qual : Str} {params : Arguments} {body : List Stmt} {scope : Scope} {dvs : List V} {kws : List (Str × V)} {f : Addr} {fd : FuncData} {N ps : List Str} {k : Nat} {as : AS} {m : AF}
    (F : FunD K x qual params body scope dvs kws f fd) (S : FnScope N ps scope) (L : Leads ps.length N.length as m)
    (hb : ∀ (cdv : Value) (A : Around) (outer : List Env) (s : Shared) (H : Hp) (E : XK), CxS (cxOf (L2N.CX P w) P w K mg base N qual scope f cdv A outer s H E) (dE E) k → AXB (cxOf (L2N.CX P w) P w K mg base N qual scope f cdv A outer s H E) (dE E) body as) : FnOk P w K mg base (L2N.CX P w) (k + 1) f fd ps (SpA K m) := by
  refine F.ok S (fun vs H Q E h => ?_) (fun cdv A outer s H vs Q E hr h => ?_)
  · obtain ⟨G, st, args, q, er, ss, r, m, _⟩ := h
    rw [← r.length]
    exact L.ar _ _ _ _ m
  · obtain ⟨G, st, args, q, er, ss, r, m, hq, he⟩ := h
    obtain ⟨ts, p1, p2⟩ := hb cdv A outer s H E ⟨⟨rfl, S.nd, hr, L2N.takes_of rfl rfl rfl rfl⟩, passes_of rfl, rfl, rfl⟩
    refine ⟨ts, p1, ?_⟩
    obtain ⟨kk, hk, tk⟩ := L.run ss r m hq he
    have e : L2.start N vs = vs.map some ++ List.replicate (N.length - ps.length) none := by unfold L2.start; rw [← r.length, L.ar _ _ _ _ m]
    rw [e]
    exact p2 G _ st _ H _ kk ss (r.sl _) hk tk
/-! ### a call -/
def aCall (m : AF) (args : AEs) (dd : List D) : AE := fun env st q er => args env st (fun ds s1 => m (ds ++ dd) s1 (fun r s2 => match r with
  | .d d => q d s2
  | .own l => q (.lst l) s2
  | .ownD l => q (.dic l) s2) er) er
/-- .. whose list nobody else holds -/
def fCall (m : AF) (args : AEs) (dd : List D) : AFr := fun env st q er => args env st (fun ds s1 => m (ds ++ dd) s1 (fun r s2 => match r with
  | .own l => q l s2
  | _ => False) er) er
/-- a call whose dict nobody else holds -/
def fdCall (m : AF) (args : AEs) (dd : List D) : List A → S → (List (D × D) → S → Prop) → QX → Prop := fun env st q er => args env st (fun ds s1 => m (ds ++ dd) s1 (fun r s2 => match r with
  | .ownD l => q l s2
  | _ => False) er) er
section
variable {K : PySem.W.Frag} {W : WX}
theorem refE_call {m : AF} {ta : TA} {args : AEs} {dd : List D} {dvs : List V} (ha : RefA K W ta args) (hd : ∀ G, Reps K G dd dvs) : RefE K W (tCallSD (SpA K m) dvs (fun σ c d H => W c d σ H) ta) (aCall m args dd) := fun G env st σ H Q q er s l h tE tX => by
  refine ha G env st σ H _ _ er s l h (fun vs ds st2 G2 H2 p2 s2 a2 h2 => ?_) tX
  refine ⟨G2, st2, _, _, er, s2, a2.append (hd G2), h2, fun v r st3 G3 H3 p3 s3 r3 h3 => ?_, fun e c dx st3 G3 H3 p3 s3 ea h3 => tX e c dx st3 G3 H3 (p2.trans p3) s3 ea h3⟩
  cases r with
  | d x => exact tE v x st3 G3 H3 (p2.trans p3) s3 r3 h3
  | own l =>
    obtain ⟨G4, s4, p4, r4⟩ := own_frz s3 p3 r3
    exact tE v _ st3 G4 H3 (p2.trans p4) s4 r4 h3
  | ownD l =>
    obtain ⟨G4, s4, p4, r4⟩ := ownd_frz s3 p3 r3
    exact tE v _ st3 G4 H3 (p2.trans p4) s4 r4 h3
theorem refF_call {m : AF} {ta : TA} {args : AEs} {dd : List D} {dvs : List V} (ha : RefA K W ta args) (hd : ∀ G, Reps K G dd dvs) : RefF K W (tCallSD (SpA K m) dvs (fun σ c d H => W c d σ H) ta) (fCall m args dd) := fun G env st σ H Q q er s l h tE tX => by
  refine ha G env st σ H _ _ er s l h (fun vs ds st2 G2 H2 p2 s2 a2 h2 => ?_) tX
  refine ⟨G2, st2, _, _, er, s2, a2.append (hd G2), h2, fun v r st3 G3 H3 p3 s3 r3 h3 => ?_, fun e c dx st3 G3 H3 p3 s3 ea h3 => tX e c dx st3 G3 H3 (p2.trans p3) s3 ea h3⟩
  cases r with
  | d x => exact h3.elim
  | ownD l => exact h3.elim
  | own l => exact tE v l st3 G3 H3 (p2.trans p3) s3 (r3.on p2) h3
end
end AM
set_option Elab.async false
set_option linter.all false
set_option maxRecDepth 100000
set_option maxHeartbeats 4000000
namespace AM
open PySem L2 Evl
/-! ### one reading for a piece of data's reading -/
def rdE (K : PySem.W.Frag) (W : WX) (ae : AE) : TE := fun σ H Q => ∃ G env st q er, SS K G st H ∧ Sl K G env σ ∧ ae env st q er ∧ ThenE K G H q Q ∧ ThenX K W G H σ er
def rdT (K : PySem.W.Frag) (W : WX) (xt : AT) : TT := fun σ H Q => ∃ G env st q er, SS K G st H ∧ Sl K G env σ ∧ xt env st q er ∧ ThenT K G H q Q ∧ ThenX K W G H σ er
def rdS (K : PySem.W.Frag) (W : WX) (as : AS) : TS := fun D σ H => ∃ G env st k, SS K G st H ∧ Sl K G env σ ∧ as env st k ∧ ThenS K W G H k D
def rdI (K : PySem.W.Frag) (W : WX) (ai : AI) : TI := fun σ H R => ∃ G env st q er, SS K G st H ∧ Sl K G env σ ∧ ai env st q er ∧ (∀ J ds gd st2 G2 H2, Post G H G2 H2 → SS K G2 st2 H2 → Walks K G2 J ds gd → q ds gd st2 → R J H2) ∧ ThenX K W G H σ er
def rdG (K : PySem.W.Frag) (vs : List Nat) (ag : AG) : TG := fun v σ H Q => ∃ G env st d q, SS K G st H ∧ Sl K G env σ ∧ Rep K G d v ∧ ag d env st q ∧ ∀ env' σ', Sl K G env' σ' → wipe σ' vs = wipe σ vs → q env' → Q σ' H
theorem AX.pe {X : Cx} {W : WX} {e : Expr} {ae : AE} (h : AX X W e ae) : PE X e (rdE X.K W ae) := by
  obtain ⟨te, p, r⟩ := h
  exact ⟨fun pins s σ H Q I ⟨G, env, st, q, er, sa, sl, a, tE, tX⟩ => p.run pins s σ H Q I (r G env st σ H Q q er sa sl a tE tX)⟩
theorem rdE_ref {K : PySem.W.Frag} {W : WX} {ae : AE} : RefE K W (rdE K W ae) ae := fun G env st σ H Q q er s l a tE tX => ⟨G, env, st, q, er, s, l, a, tE, tX⟩
theorem AXI.pi {X : Cx} {W : WX} {tg e : Expr} {ai : AI} (h : AXI X W tg e ai) : PI X tg e (rdI X.K W ai) := by
  obtain ⟨te, p, r⟩ := h
  exact ⟨fun pins s σ H Q I ⟨G, env, st, q, er, sa, sl, a, tE, tX⟩ => p.run pins s σ H Q I (r G env st σ H Q q er sa sl a tE tX)⟩
theorem rdI_ref {K : PySem.W.Frag} {W : WX} {ai : AI} : RefI K W (rdI K W ai) ai := fun G env st σ H Q q er s l a tE tX => ⟨G, env, st, q, er, s, l, a, tE, tX⟩
theorem AXB.ps {X : Cx} {W : WX} {b : List Stmt} {as : AS} (h : AXB X W b as) : PSs X b (rdS X.K W as) := by
  obtain ⟨ts, p, r⟩ := h
  exact ⟨fun pins s σ H D I ⟨G, env, st, k, sa, sl, a, t⟩ => p.run pins s σ H D I (r G env st σ H D k sa sl a t)⟩
theorem rdS_ref {K : PySem.W.Frag} {W : WX} {as : AS} : RefS K W (rdS K W as) as := fun G env st σ H D k s l a t => ⟨G, env, st, k, s, l, a, t⟩
def AXTs (X : Cx) (W : WX) (es : List Expr) (xt : AT) : Prop := ∃ tt, PTs X es tt ∧ RefT X.K W tt xt
theorem AXTs.pts {X : Cx} {W : WX} {e : List Expr} {xt : AT} (h : AXTs X W e xt) : PTs X e (rdT X.K W xt) := by
  obtain ⟨te, p, r⟩ := h
  exact ⟨fun pins s σ H Q I ⟨G, env, st, q, er, sa, sl, a, tE, tX⟩ => p.run pins s σ H Q I (r G env st σ H Q q er sa sl a tE tX)⟩
theorem rdT_ref {K : PySem.W.Frag} {W : WX} {xt : AT} : RefT K W (rdT K W xt) xt := fun G env st σ H Q q er s l a tE tX => ⟨G, env, st, q, er, s, l, a, tE, tX⟩
def aYes : AT := fun _ st q _ => q true st
theorem axts_nil {X : Cx} {W : WX} : AXTs X W [] aYes := ⟨_, pts_nil, fun G env st σ H Q q er s l h tT _ => tT true st G H Post.refl s h⟩
theorem axts_one {X : Cx} {W : WX} {e : Expr} {xt : AT} (h : AXT X W e xt) : AXTs X W [e] xt := by
  obtain ⟨te, p, r⟩ := h
  exact ⟨_, pts_one p, r⟩
/-- targets within a comprehension -/
def AXGc (X : Cx) (vs : List Nat) (e : Expr) (ag : AG) : Prop := ∃ g, PG X e g ∧ RefG X.K g ag ∧ Stays vs g
def AXGcs (X : Cx) (vs : List Nat) (es : List Expr) (ag : AGs) : Prop := ∃ g, PGs X es g ∧ RefGs X.K g ag ∧ Stayss vs g
theorem AXGc.pg {X : Cx} {vs : List Nat} {e : Expr} {ag : AG} (h : AXGc X vs e ag) : PG X e (rdG X.K vs ag) := by
  obtain ⟨g, p, r, st⟩ := h
  refine ⟨fun pins s σ H v u Q I rv ⟨G, env, sto, d, q, sa, sl, rd, a, t⟩ => p.run pins s σ H v u Q I rv ?_⟩
  exact st v σ H (fun σ' H' => ∃ env', H' = H ∧ Sl X.K G env' σ' ∧ q env') Q σ rfl (fun σ2 H2 hw ⟨env', e2, l2, h2⟩ => by rw [e2]; exact t env' σ2 l2 hw h2) (r G env sto σ H d v _ q sa sl rd a fun env' σ' l2 h2 => ⟨env', rfl, l2, h2⟩)
theorem rdG_ref {K : PySem.W.Frag} {vs : List Nat} {ag : AG} : RefG K (rdG K vs ag) ag := fun G env st σ H d v Q q s l r a t => ⟨G, env, st, d, q, s, l, r, a, fun env' σ' l2 _ h2 => t env' σ' l2 h2⟩
theorem rdG_stays {K : PySem.W.Frag} {vs : List Nat} {ag : AG} : Stays vs (rdG K vs ag) := fun v σ H Q Q' σ0 e k ⟨G, env, st, d, q, s, l, r, a, t⟩ => ⟨G, env, st, d, q, s, l, r, a, fun env' σ' l2 hw h2 => k σ' H (hw.trans e) (t env' σ' l2 hw h2)⟩
section
variable {X : Cx} {vs : List Nat} {pos : Pos} {e : Expr} {es : List Expr} {ag : AG} {ags : AGs}
theorem axgc_name {i : Nat} {x : Str} (hN : X.N.Nodup) (hm : i ∈ vs := by decide) (hi : X.N[i]? = some x := by rfl) (hx : Loc X.env.scope x := by first | exact Or.inl rfl | exact Or.inr rfl) (hf : X.fn x = true ∨ X.env.scope.names.lookup x = some .local := by first | exact .inl rfl | exact .inr rfl) : AXGc X vs (.Name x pos) (agName i) := ⟨_, pg_name hN hi hx hf, refG_name i, stays_name hm⟩
theorem axgcs_nil : AXGcs X vs [] agNil := ⟨_, pgs_nil, refGs_nil, stays_nil⟩
theorem axgcs_cons (h1 : AXGc X vs e ag) (h2 : AXGcs X vs es ags) (hs : (assignEach (e :: es) X.env).map (·.2) = assign e X.env :: (assignEach es X.env).map (·.2) := by rfl) : AXGcs X vs (e :: es) (agCons ag ags) := by
  obtain ⟨g, p, r, st⟩ := h1
  obtain ⟨g', p', r', st'⟩ := h2
  exact ⟨_, pgs_cons p p' hs, refGs_cons r r', stays_cons st st'⟩
theorem axgc_tup {k n : Nat} (hc : X.calm = true) (h : AXGcs X vs es ags) (hn : (assignEach es X.env).length = n := by rfl) (hst : (assignEach es X.env).findIdx? (·.1) = none := by rfl) : AXGc X vs (.Tuple es k pos) (agTup n ags) := by
  obtain ⟨g, p, r, st⟩ := h
  exact ⟨_, pg_tup hc p hn hst, refG_tup r, stays_tup st⟩
theorem axg_name {i : Nat} {x : Str} (hN : X.N.Nodup) (hi : X.N[i]? = some x := by rfl) (hx : Loc X.env.scope x := by first | exact Or.inl rfl | exact Or.inr rfl) (hf : X.fn x = true ∨ X.env.scope.names.lookup x = some .local := by first | exact .inl rfl | exact .inr rfl) : AXG X (.Name x pos) (agName i) := ⟨_, pg_name hN hi hx hf, refG_name i⟩
theorem axgs_nil : AXGs X [] agNil := ⟨_, pgs_nil, refGs_nil⟩
theorem axgs_cons (h1 : AXG X e ag) (h2 : AXGs X es ags) (hs : (assignEach (e :: es) X.env).map (·.2) = assign e X.env :: (assignEach es X.env).map (·.2) := by rfl) : AXGs X (e :: es) (agCons ag ags) := by
  obtain ⟨g, p, r⟩ := h1
  obtain ⟨g', p', r'⟩ := h2
  exact ⟨_, pgs_cons p p' hs, refGs_cons r r'⟩
theorem axg_tup {k n : Nat} (hc : X.calm = true) (h : AXGs X es ags) (hn : (assignEach es X.env).length = n := by rfl) (hst : (assignEach es X.env).findIdx? (·.1) = none := by rfl) : AXG X (.Tuple es k pos) (agTup n ags) := by
  obtain ⟨g, p, r⟩ := h
  exact ⟨_, pg_tup hc p hn hst, refG_tup r⟩
end
/-! ### statements -/
section
variable {X : Cx} {W : WX} {k : Nat} {pos pos' : Pos} {e c : Expr} {ae : AE} {xt : AT} {st : Stmt} {sts a b : List Stmt} {as bs : AS}
theorem axb_nil : AXB X W [] sNext := ⟨_, pss_nil, refS_next⟩
theorem axb_one (h : AXS X W st as) : AXB X W [st] as := by
  obtain ⟨t, p, r⟩ := h
  exact ⟨_, pss_one p, r⟩
theorem axb_cons (h : AXS X W st as) (h2 : AXB X W sts bs) : AXB X W (st :: sts) (sSeq as bs) := by
  obtain ⟨t, p, r⟩ := h
  obtain ⟨t2, p2, r2⟩ := h2
  exact ⟨_, pss_cons p p2, refS_seq r r2⟩
theorem axs_pass : AXS X W (.Pass pos) sNext := ⟨_, ps_pass, refS_next⟩
theorem axs_break : AXS X W (.Break pos) sBreak := ⟨_, ps_break, refS_break⟩
theorem axs_cont : AXS X W (.Continue pos) sCont := ⟨_, ps_continue, refS_cont⟩
theorem axs_expr (h : AX X W e ae) (hs : swapsWith e none pos.line X.env = pure false := by rfl) : AXS X W (.Expr e pos) (sDrop ae) := by
  obtain ⟨t, p, r⟩ := h
  exact ⟨_, ps_expr p hs, refS_drop r⟩
theorem axs_ret (h : AX X W e ae) : AXS X W (.Return (some e) pos) (sRet ae) := by
  obtain ⟨t, p, r⟩ := h
  exact ⟨_, ps_ret p, refS_ret r⟩
theorem axs_retN : AXS X W (.Return none pos) sRetN := ⟨_, ps_retN, refS_retN⟩
theorem axs_if (hc : AXT X W c xt) (ha : AXB X W a as) (hb : AXB X W b bs) : AXS X W (.If c a b pos) (sIf xt as bs) := by
  obtain ⟨t, p, r⟩ := hc
  obtain ⟨t1, p1, r1⟩ := ha
  obtain ⟨t2, p2, r2⟩ := hb
  exact ⟨_, ps_if p p1 p2, refS_if r r1 r2⟩
theorem axs_set {i : Nat} {x : Str} (hN : X.N.Nodup) (h : AX X W e ae) (hi : X.N[i]? = some x := by rfl) (hx : Loc X.env.scope x := by first | exact Or.inl rfl | exact Or.inr rfl) (hs : swapsWith e (some (.Name x pos')) pos.line X.env = pure false := by rfl) (hf : X.fn x = true ∨ X.env.scope.names.lookup x = some .local := by first | exact .inl rfl | exact .inr rfl) :
    AXS X W (.Assign [.Name x pos'] e pos) (sAsg ae (agName i)) := by
  obtain ⟨t, p, r⟩ := h
  exact ⟨_, ps_set hN hi hx p hs hf, refS_asg r (refG_name i)⟩
theorem axs_asg {tg : Expr} {ag : AG} (h : AX X W e ae) (hg : AXG X tg ag) (hs : swapsWithSole [tg] e pos.line X.env = pure false := by rfl) (hw : swappedStores [tg] e X.env = pure none := by rfl) (h1 : (assignEach [tg] X.env).map (·.2) = [assign tg X.env] := by rfl) : AXS X W (.Assign [tg] e pos) (sAsg ae ag) := by
  obtain ⟨t, p, r⟩ := h
  obtain ⟨g, p1, r1⟩ := hg
  exact ⟨_, ps_asg p p1 hs hw h1, refS_asg r r1⟩
theorem axs_par {i j : Nat} {x y : Str} {e1 e2 : Expr} {aa : AEs} {px py pt pt2 : Pos} {kt k2 : Nat} (hc : X.calm = true) (hN : X.N.Nodup) (ha : AXA X W [e1, e2] aa) (hij : i ≠ j := by decide) (hi : X.N[i]? = some x := by rfl) (hj : X.N[j]? = some y := by rfl) (hx : X.env.scope.names.lookup x = some .local := by rfl) (hy : X.env.scope.names.lookup y = some .local := by rfl)
    (hw : swappedStores [.Tuple [.Name x px, .Name y py] kt pt] (.Tuple [e1, e2] k2 pt2) X.env = pure (some [x, y]) := by rfl) (hs : swapsWithSole [.Tuple [.Name x px, .Name y py] kt pt] (.Tuple [e1, e2] k2 pt2) pos.line X.env = pure false := by rfl) :
    AXS X W (.Assign [.Tuple [.Name x px, .Name y py] kt pt] (.Tuple [e1, e2] k2 pt2) pos) (sPar i j aa) := by
  obtain ⟨t, p, r⟩ := ha
  exact ⟨_, ps_par hc hN hi hj hij hx hy p hw hs, refS_par r⟩
theorem axs_aug {i : Nat} {x : Str} {op : Operator} {ti : TIp} {f : O2} (hN : X.N.Nodup) (ho : PIp X op ti ∧ RefO X.K ti f) (h : AX X W e ae) (hi : X.N[i]? = some x := by rfl) (hx : Loc X.env.scope x := by first | exact Or.inl rfl | exact Or.inr rfl) (hf : X.fn x = true ∨ X.env.scope.names.lookup x = some .local := by first | exact .inl rfl | exact .inr rfl) :
    AXS X W (.AugAssign (.Name x pos') op e pos) (sAug i f ae) := by
  obtain ⟨t, p, r⟩ := h
  exact ⟨_, ps_aug hN hi hx p ho.1 hf, refS_aug r ho.2⟩
theorem axs_for {tg iter : Expr} {ai : AI} {ag : AG} (C : CxS X W k) (hi : AXI X W tg iter ai) (hg : AXG X tg ag) (hb : AXB X W b bs) (hs : ∀ x, foldedSetIterable iter X.env x = pure x := by intro _; rfl) : AXS X W (.For tg iter b [] pos) (sFor ai ag bs) := by
  obtain ⟨t, p, r⟩ := hi
  obtain ⟨g, p1, r1⟩ := hg
  obtain ⟨t2, p2, r2⟩ := hb
  exact ⟨_, ps_for C.po C.calm p p1 p2 hs, refS_for r r1 r2⟩
theorem axs_while (C : CxS X W k) (hc : AXT X W c xt) (hb : AXB X W b bs) : AXS X W (.While c b [] pos) (sWhile xt bs) := by
  obtain ⟨t, p, r⟩ := hc
  obtain ⟨t2, p2, r2⟩ := hb
  exact ⟨_, ps_while C.po p p2, refS_while r r2⟩
end
/-! ### fresh lists -/
/-- x = a fresh list: a cell -/
def sCell (f : AFr) (i : Nat) : AS := fun env st k => f env st (fun l s1 => k.nx (env.set i (.d (.ref s1.length))) (s1 ++ [.lst l])) (fun e s1 => k.er e env s1)
/-- return a fresh list -/
def sRetF (f : AFr) : AS := fun env st k => f env st (fun l s1 => k.rt (.own l) s1) (fun e s1 => k.er e env s1)
theorem refS_cell {K : PySem.W.Frag} {W : WX} {te : TE} {af : AFr} {i : Nat} (h : RefF K W te af) : RefS K W (tAsg te (gName i)) (sCell af i) := fun G env st σ H D k s l a t =>
  h G env st σ H _ _ _ s l a (fun v ds st2 G2 H2 p2 s2 r2 h2 => by
    obtain ⟨G3, s3, p3, r3⟩ := own_cell s2 p2 r2
    exact t.nx _ _ _ G3 H2 p3 s3 ((l.mono p3.le).set i r3) h2) (t.x l)
theorem refS_retF {K : PySem.W.Frag} {W : WX} {te : TE} {af : AFr} (h : RefF K W te af) : RefS K W (tRet te) (sRetF af) := fun G env st σ H D k s l a t =>
  h G env st σ H _ _ _ s l a (fun v ds st2 G2 H2 p2 s2 r2 h2 => t.rt v (.own ds) st2 G2 H2 p2 s2 r2 h2) (t.x l)
def fLst (as : AEs) : AFr := fun env st q er => as env st (fun xs s1 => xs.length ≤ 100000 ∧ q xs s1) er
theorem refF_lst {K : PySem.W.Frag} {W : WX} {tr : TA} {ar : AEs} (hr : RefA K W tr ar) : RefF K W (tLst tr) (fLst ar) := fun G env st σ H Q q er s l h tE tX =>
  hr G env st σ H _ _ er s l h (fun vs ds st1 G1 H1 p1 s1 r1 h1 => ⟨sz_of (by rw [← r1.length]; exact h1.1), fun p hp => by
    obtain ⟨s2, p2, np, gp⟩ := s1.room (o := .lst vs) hp
    refine tE _ ds st1 _ _ (p1.trans p2) s2 (ResOk.on p1 ⟨p, vs, rfl, upd_same, gp, np, hp, r1⟩) h1.2⟩) tX
def fIf (t : AT) (a b : AFr) : AFr := fun env st q er => t env st (fun c s1 => if c = true then a env s1 q er else b env s1 q er) er
theorem ThenF.on {K : PySem.W.Frag} {G G2 : Gh} {H H2 : Hp} {q : List D → S → Prop} {Q : VK} (t : ThenF K G H q Q) (p : Post G H G2 H2) : ThenF K G2 H2 q Q := fun v d st3 G3 H3 p2 s3 r3 => t v d st3 G3 H3 (p.trans p2) s3 (r3.on p)
theorem refF_if {K : PySem.W.Frag} {W : WX} {t : TT} {xt : AT} {ta tb : TE} {aa ab : AFr} (ht : RefT K W t xt) (ha : RefF K W ta aa) (hb : RefF K W tb ab) : RefF K W (tIf t ta tb) (fIf xt aa ab) := fun G env st σ H Q q er s l h tE tX => by
  refine ht G env st σ H _ _ er s l h (fun b st1 G1 H1 p1 s1 h1 => ?_) tX
  cases b with
  | true => exact ha G1 env st1 σ H1 Q q er s1 (l.mono p1.le) h1 (tE.on p1) (tX.on p1)
  | false => exact hb G1 env st1 σ H1 Q q er s1 (l.mono p1.le) h1 (tE.on p1) (tX.on p1)
section
variable {X : Cx} {W : WX} {k : Nat} {pos pos' : Pos} {e c a b : Expr} {es : List Expr} {ae : AE} {xt : AT} {af bf : AFr} {ar : AEs}
theorem axf_e (h : AXF X W e af) : AX X W e (aFr af) := by
  obtain ⟨t, p, r⟩ := h
  exact ⟨_, p, r.e⟩
theorem axf_lst (hr : AXA X W es ar) : AXF X W (.List es pos) (fLst ar) := by
  obtain ⟨t, p, r⟩ := hr
  exact ⟨_, pe_lst p, refF_lst r⟩
theorem axf_if (hc : AXT X W c xt) (ha : AXF X W a af) (hb : AXF X W b bf) : AXF X W (.IfExp c a b pos) (fIf xt af bf) := by
  obtain ⟨tc, pc, rc⟩ := hc
  obtain ⟨ta, pa, ra⟩ := ha
  obtain ⟨tb, pb, rb⟩ := hb
  exact ⟨_, pe_ifExp pc pa pb, refF_if rc ra rb⟩
theorem axs_cell {i : Nat} {x : Str} (hN : X.N.Nodup) (h : AXF X W e af) (hi : X.N[i]? = some x := by rfl) (hx : Loc X.env.scope x := by first | exact Or.inl rfl | exact Or.inr rfl) (hs : swapsWith e (some (.Name x pos')) pos.line X.env = pure false := by rfl) (hf : X.fn x = true ∨ X.env.scope.names.lookup x = some .local := by first | exact .inl rfl | exact .inr rfl) :
    AXS X W (.Assign [.Name x pos'] e pos) (sCell af i) := by
  obtain ⟨t, p, r⟩ := h
  exact ⟨_, ps_set hN hi hx p hs hf, refS_cell r⟩
theorem axs_retF (h : AXF X W e af) : AXS X W (.Return (some e) pos) (sRetF af) := by
  obtain ⟨t, p, r⟩ := h
  exact ⟨_, ps_ret p, refS_retF r⟩
end
/-! ### comprehensions -/
section
variable {X : Cx} {W : WX} {k : Nat} {pos spos : Pos} {elt tg iter tg1 iter1 : Expr} {ifs ifs1 : List Expr} {scope : Scope} {own : List (Str × Nat)} {ai ai1 : AI} {ag ag1 : AG} {xt xt1 : AT} {ae : AE}
theorem axf_lc (own : List (Str × Nat)) (C : CxE X W k) (ok : BlkOk X.N X.env.scope scope own) (hi : AXI X W tg iter ai)
    (hg : ∀ (s : Shared) (H : Hp) (C : Addr) (cl : List (Str × Addr)) (fp : List Addr), AXGc (X.blk s H scope (compEnvC scope cl C X.env) fp) (own.map (·.2)) tg ag) (ht : ∀ (s : Shared) (H : Hp) (C : Addr) (cl : List (Str × Addr)) (fp : List Addr), AXTs (X.blk s H scope (compEnvC scope cl C X.env) fp) W0 ifs xt)
    (he : ∀ (s : Shared) (H : Hp) (C : Addr) (cl : List (Str × Addr)) (fp : List Addr), AX (X.blk s H scope (compEnvC scope cl C X.env) fp) W0 elt ae) (hs : ∀ x, foldedSetIterable iter X.env x = pure x := by intro _; rfl) :
    AXF X W (.ListComp elt [⟨tg, iter, ifs, 0⟩] scope pos) (fLc ai ag xt ae (own.map (·.2))) := by
  obtain ⟨t, p, r⟩ := hi
  exact ⟨_, pe_lc C.calm C.nd p ok (fun s H C cl fp => (hg s H C cl fp).pg) (fun s H C cl fp => (ht s H C cl fp).pts) (fun s H C cl fp => (he s H C cl fp).pe) hs, refF_lc r rdG_ref rdG_stays rdT_ref rdE_ref⟩
/-- y = [..]: a frozen list, a cell -/
theorem axs_setLc (own : List (Str × Nat)) {i : Nat} {y : Str} {py : Pos} (C : CxE X W k) (ok : BlkOk X.N X.env.scope scope own) (hi : AXI X W tg iter ai)
    (hg : ∀ (s : Shared) (H : Hp) (C : Addr) (cl : List (Str × Addr)) (fp : List Addr), AXGc (X.blk s H scope (compEnvC scope cl C X.env) fp) (own.map (·.2)) tg ag) (ht : ∀ (s : Shared) (H : Hp) (C : Addr) (cl : List (Str × Addr)) (fp : List Addr), AXTs (X.blk s H scope (compEnvC scope cl C X.env) fp) W0 ifs xt)
    (he : ∀ (s : Shared) (H : Hp) (C : Addr) (cl : List (Str × Addr)) (fp : List Addr), AX (X.blk s H scope (compEnvC scope cl C X.env) fp) W0 elt ae)
    (hsw : swapsWith (.ListComp elt [⟨tg, iter, ifs, 0⟩] scope pos) (some (.Name y py)) spos.line X.env = pure true := by exact sw_true rfl rfl rfl (by decide +kernel)) (hy : X.N[i]? = some y := by rfl) (hyl : X.env.scope.names.lookup y = some .local := by rfl) (hs : ∀ x, foldedSetIterable iter X.env x = pure x := by intro _; rfl) :
    AXS X W (.Assign [.Name y py] (.ListComp elt [⟨tg, iter, ifs, 0⟩] scope pos) spos) (sAsg (aFr (fLc ai ag xt ae (own.map (·.2)))) (agName i)) ∧ AXS X W (.Assign [.Name y py] (.ListComp elt [⟨tg, iter, ifs, 0⟩] scope pos) spos) (sCell (fLc ai ag xt ae (own.map (·.2))) i) := by
  obtain ⟨t, p, r⟩ := hi
  have q := ps_setLc (i := i) (g := rdG X.K (own.map (·.2)) ag) (tt := rdT X.K W0 xt) (te := rdE X.K W0 ae) C.calm C.nd hy hyl hsw p ok (fun s H C cl fp => (hg s H C cl fp).pg) (fun s H C cl fp => (ht s H C cl fp).pts) (fun s H C cl fp => (he s H C cl fp).pe) hs
  have f := refF_lc (vs := own.map (·.2)) r (rdG_ref (vs := own.map (·.2)) (ag := ag)) rdG_stays (rdT_ref (xt := xt)) (rdE_ref (ae := ae))
  exact ⟨⟨_, q, refS_asg f.e (refG_name i)⟩, _, q, refS_cell f⟩
theorem axf_lc2 (own : List (Str × Nat)) (vs1 : List Nat) (C : CxE X W k) (ok : BlkOk X.N X.env.scope scope own) (hi : AXI X W tg iter ai)
    (hg : ∀ (s : Shared) (H : Hp) (C : Addr) (cl : List (Str × Addr)) (fp : List Addr), AXGc (X.blk s H scope (compEnvC scope cl C X.env) fp) (own.map (·.2)) tg ag) (ht : ∀ (s : Shared) (H : Hp) (C : Addr) (cl : List (Str × Addr)) (fp : List Addr), AXTs (X.blk s H scope (compEnvC scope cl C X.env) fp) W0 ifs xt)
    (hi1 : ∀ (s : Shared) (H : Hp) (C : Addr) (cl : List (Str × Addr)) (fp : List Addr), AXI (X.blk s H scope (compEnvC scope cl C X.env) fp) W0 tg1 iter1 ai1) (hg1 : ∀ (s : Shared) (H : Hp) (C : Addr) (cl : List (Str × Addr)) (fp : List Addr), AXGc (X.blk s H scope (compEnvC scope cl C X.env) fp) vs1 tg1 ag1) (ht1 : ∀ (s : Shared) (H : Hp) (C : Addr) (cl : List (Str × Addr)) (fp : List Addr), AXTs (X.blk s H scope (compEnvC scope cl C X.env) fp) W0 ifs1 xt1)
    (he : ∀ (s : Shared) (H : Hp) (C : Addr) (cl : List (Str × Addr)) (fp : List Addr), AX (X.blk s H scope (compEnvC scope cl C X.env) fp) W0 elt ae) (hv : ∀ i ∈ vs1, i ∈ own.map (·.2) := by decide) (hs : ∀ x, foldedSetIterable iter X.env x = pure x := by intro _; rfl) (hs1 : ∀ env x, foldedSetIterable iter1 env x = pure x := by intro _ _; rfl) :
    AXF X W (.ListComp elt [⟨tg, iter, ifs, 0⟩, ⟨tg1, iter1, ifs1, 0⟩] scope pos) (fLc2 ai ag xt ai1 ag1 xt1 ae (own.map (·.2)) vs1) := by
  obtain ⟨t, p, r⟩ := hi
  exact ⟨_, pe_lc2 C.calm C.nd p ok hv (fun s H C cl fp => (hg s H C cl fp).pg) (fun s H C cl fp => (ht s H C cl fp).pts) (fun s H C cl fp => (hi1 s H C cl fp).pi) (fun s H C cl fp => (hg1 s H C cl fp).pg) (fun s H C cl fp => (ht1 s H C cl fp).pts) (fun s H C cl fp => (he s H C cl fp).pe) hs hs1, refF_lc2 r rdG_ref rdG_stays rdT_ref rdI_ref rdG_ref rdG_stays rdT_ref rdE_ref⟩
theorem axs_setLc2 (own : List (Str × Nat)) (vs1 : List Nat) {i : Nat} {y : Str} {py : Pos} (C : CxE X W k) (ok : BlkOk X.N X.env.scope scope own) (hi : AXI X W tg iter ai)
    (hg : ∀ (s : Shared) (H : Hp) (C : Addr) (cl : List (Str × Addr)) (fp : List Addr), AXGc (X.blk s H scope (compEnvC scope cl C X.env) fp) (own.map (·.2)) tg ag) (ht : ∀ (s : Shared) (H : Hp) (C : Addr) (cl : List (Str × Addr)) (fp : List Addr), AXTs (X.blk s H scope (compEnvC scope cl C X.env) fp) W0 ifs xt)
    (hi1 : ∀ (s : Shared) (H : Hp) (C : Addr) (cl : List (Str × Addr)) (fp : List Addr), AXI (X.blk s H scope (compEnvC scope cl C X.env) fp) W0 tg1 iter1 ai1) (hg1 : ∀ (s : Shared) (H : Hp) (C : Addr) (cl : List (Str × Addr)) (fp : List Addr), AXGc (X.blk s H scope (compEnvC scope cl C X.env) fp) vs1 tg1 ag1) (ht1 : ∀ (s : Shared) (H : Hp) (C : Addr) (cl : List (Str × Addr)) (fp : List Addr), AXTs (X.blk s H scope (compEnvC scope cl C X.env) fp) W0 ifs1 xt1)
    (he : ∀ (s : Shared) (H : Hp) (C : Addr) (cl : List (Str × Addr)) (fp : List Addr), AX (X.blk s H scope (compEnvC scope cl C X.env) fp) W0 elt ae)
    (hsw : swapsWith (.ListComp elt [⟨tg, iter, ifs, 0⟩, ⟨tg1, iter1, ifs1, 0⟩] scope pos) (some (.Name y py)) spos.line X.env = pure true := by exact sw_true rfl rfl rfl (by decide +kernel)) (hy : X.N[i]? = some y := by rfl) (hyl : X.env.scope.names.lookup y = some .local := by rfl) (hv : ∀ i ∈ vs1, i ∈ own.map (·.2) := by decide) (hs : ∀ x, foldedSetIterable iter X.env x = pure x := by intro _; rfl) (hs1 : ∀ env x, foldedSetIterable iter1 env x = pure x := by intro _ _; rfl) :
    AXS X W (.Assign [.Name y py] (.ListComp elt [⟨tg, iter, ifs, 0⟩, ⟨tg1, iter1, ifs1, 0⟩] scope pos) spos) (sAsg (aFr (fLc2 ai ag xt ai1 ag1 xt1 ae (own.map (·.2)) vs1)) (agName i)) ∧ AXS X W (.Assign [.Name y py] (.ListComp elt [⟨tg, iter, ifs, 0⟩, ⟨tg1, iter1, ifs1, 0⟩] scope pos) spos) (sCell (fLc2 ai ag xt ai1 ag1 xt1 ae (own.map (·.2)) vs1) i) := by
  obtain ⟨t, p, r⟩ := hi
  have q := ps_setLc2 (i := i) (g := rdG X.K (own.map (·.2)) ag) (tt := rdT X.K W0 xt) (wi1 := rdI X.K W0 ai1) (g1 := rdG X.K vs1 ag1) (tt1 := rdT X.K W0 xt1) (te := rdE X.K W0 ae) C.calm C.nd hy hyl hsw p ok hv (fun s H C cl fp => (hg s H C cl fp).pg) (fun s H C cl fp => (ht s H C cl fp).pts) (fun s H C cl fp => (hi1 s H C cl fp).pi) (fun s H C cl fp => (hg1 s H C cl fp).pg) (fun s H C cl fp => (ht1 s H C cl fp).pts) (fun s H C cl fp => (he s H C cl fp).pe) hs hs1
  have f := refF_lc2 (vs := own.map (·.2)) (vs1 := vs1) r (rdG_ref (vs := own.map (·.2)) (ag := ag)) rdG_stays (rdT_ref (xt := xt)) (rdI_ref (ai := ai1)) (rdG_ref (vs := vs1) (ag := ag1)) rdG_stays (rdT_ref (xt := xt1)) (rdE_ref (ae := ae))
  exact ⟨⟨_, q, refS_asg f.e (refG_name i)⟩, _, q, refS_cell f⟩
end
/-! ### what is walked -/
def iSeq (K : PySem.W.Frag) (tl : TE) : TI := fun σ H R => tl σ H fun x H1 => ∃ a, x = .ref a ∧ ((∃ xs, SqL K H1 a xs ∧ R (Itl K a) H1) ∨ (∃ xs, SqT K H1 a xs ∧ R (Itt K a) H1))
def itemsD : D → Option (List D)
  | .lst l => some l
  | .tup l => some l
  | _ => none
/-- what must stand while d is walked -/
def gdOf (st : S) : D → Gd
  | .ref n => match st[n]? with
    | some c => [(n, c)]
    | none => []
  | _ => []
def aIter (a : AE) : AI := fun env st q er => a env st (fun d s1 => ∃ l, itemsD (vw s1 d) = some l ∧ q l (gdOf s1 d) s1) er
def aRng1 (a : AE) : AI := fun env st q er => a env st (fun d s1 => match d with
  | .int j => (-(2 ^ 62) ≤ j ∧ j < 2 ^ 62) ∧ q ((List.range j.toNat).map fun (i : Nat) => D.int (i : Int)) [] s1
  | _ => False) er
def aRng2 (a b : AE) : AI := fun env st q er => a env st (fun d s1 => b env s1 (fun d2 s2 => match d, d2 with
  | .int i, .int j => (-(2 ^ 62) ≤ i ∧ i < 2 ^ 62 ∧ -(2 ^ 62) ≤ j ∧ j < 2 ^ 62) ∧ q ((List.range (j - i).toNat).map fun (n : Nat) => D.int (i + (n : Int))) [] s2
  | _, _ => False) er) er
section
variable {X : Cx} {W : WX} {tg l e e2 : Expr} {tl : TE} {al ae ab : AE} {p pos : Pos}
theorem pi_seq (hl : PE X l tl) : PI X tg l (iSeq X.K tl) := by
  refine ⟨fun pins s σ H R I h => ?_⟩
  refine thn (hl.run pins s σ H _ I h) fun v s1 ⟨x, H1, I1, r1, q1⟩ => ?_
  obtain ⟨a, e, q1⟩ := q1
  subst e
  cases r1
  rcases q1 with ⟨xs, hq, q⟩ | ⟨xs, hq, q⟩
  · obtain ⟨its, rv, p, hz⟩ := I1.list hq
    refine wpAny_pyIter_list p.isList ?_
    refine ⟨s1.heap.objs.size, [s1.heap.objs.size], _, _, H1, rfl, I1.kept (t' := s1.toks) fun b o e => Heap.get?_push_of_some _ e, turn_list a _, ⟨_, Heap.get?_push_size _ rfl, rfl, rfl⟩, fun b hb => ?_, q⟩
    have e : b = s1.heap.objs.size := by simpa using hb
    subst e
    exact I1.fpOk (Nat.le_refl _) (I1.hok.fresh (Nat.le_refl _))
  · obtain ⟨its, rv, p, hz⟩ := I1.tuple hq
    refine wpAny_pyIter_tuple (show s1.heap.IsTuple a its.toArray from p) ?_
    refine ⟨s1.heap.objs.size, [s1.heap.objs.size], _, _, H1, rfl, I1.kept (t' := s1.toks) fun b o e => Heap.get?_push_of_some _ e, turn_tuple a _, ⟨_, Heap.get?_push_size _ rfl, rfl, rfl⟩, fun b hb => ?_, q⟩
    have e : b = s1.heap.objs.size := by simpa using hb
    subst e
    exact I1.fpOk (Nat.le_refl _) (I1.hok.fresh (Nat.le_refl _))
/-- a sequence that is read as long as it is walked -/
def SeqAt (K : PySem.W.Frag) (G0 : Gh) (gd : Gd) (a : Addr) (vs : List V) (tup : Bool) : Prop := ∀ G st H, G0.le G → SS K G st H → gdOk gd st → if tup = true then SqT K H a vs else SqL K H a vs
/-- the items, wherever they are represented -/
theorem rep_seq {K : PySem.W.Frag} {G : Gh} {st : S} {H : Hp} {d : D} {v : V} {l : List D} (s : SS K G st H) (r : Rep K G d v) (e : itemsD (vw st d) = some l) : ∃ a vs tup, v = .ref a ∧ Reps K G l vs ∧ gdOk (gdOf st d) st ∧ ∀ G2 st2 H2, G.le G2 → SS K G2 st2 H2 → gdOk (gdOf st d) st2 → ∃ us, Reps K G2 l us ∧ if tup = true then SqT K H2 a us else SqL K H2 a us := by
  cases r with
  | lst h rs =>
    cases e
    exact ⟨_, _, false, rfl, rs, fun _ z => (by cases z), fun G2 st2 H2 le s2 _ => ⟨_, rs.mono le, SqL.of (s2.ex _ _ (le.g _ _ h))⟩⟩
  | tup h rs =>
    cases e
    exact ⟨_, _, true, rfl, rs, fun _ z => (by cases z), fun G2 st2 H2 le s2 _ => ⟨_, rs.mono le, SqT.of (s2.ex _ _ (le.g _ _ h))⟩⟩
  | ref hp =>
    rename_i n p
    cases hc : st[n]? with
    | none => simp only [vw, hc] at e; cases e
    | some c =>
      have hgd : gdOf st (.ref n) = [(n, c)] := by unfold gdOf; simp only [hc]
      unfold vw at e
      simp only [hc] at e
      cases c with
      | lst l' =>
        cases e
        obtain ⟨vs, _, h1, rs⟩ := s.cell n _ p hc hp
        refine ⟨p, vs, false, rfl, rs, ?_, fun G2 st2 H2 le s2 gk => ?_⟩
        · rw [hgd]
          intro x hx
          have : x = (n, C.lst l) := by simpa using hx
          subst this
          exact hc
        · rw [hgd] at gk
          obtain ⟨us, _, h2, rs2⟩ := s2.cell n _ p (gk (n, C.lst l) (by simp)) (pre_get le.a hp)
          exact ⟨us, rs2, SqL.of h2⟩
      | _ => cases e
  | _ => cases e
theorem walks_seq {K : PySem.W.Frag} {G : Gh} {gd : Gd} {a : Addr} {ds : List D} (h : ∀ G2 st2 H2, G.le G2 → SS K G2 st2 H2 → gdOk gd st2 → ∃ us, Reps K G2 ds us ∧ SqL K H2 a us) : Walks K G (Itl K a) ds gd where
  stop := fun i G2 st H le s gk hi => by
    obtain ⟨us, r, q⟩ := h G2 st H le s gk
    exact ⟨us, q, by rw [← r.length]; exact Nat.le_of_eq hi⟩
  go := fun i G2 st H le s gk hi => by
    obtain ⟨us, r, q⟩ := h G2 st H le s gk
    exact ⟨us, us[i]'(by rw [← r.length]; exact hi), q, by simp [← r.length, hi]⟩
  yld := fun i G2 st H d x H' le s gk hd y => by
    obtain ⟨us, r, q⟩ := h G2 st H le s gk
    obtain ⟨e1, y⟩ := y
    obtain ⟨v, h1, h2⟩ := r.get hd
    have := y us q
    rw [h1] at this
    cases this
    exact .inl ⟨e1, h2⟩
theorem walks_tup {K : PySem.W.Frag} {G : Gh} {gd : Gd} {a : Addr} {ds : List D} (h : ∀ G2 st2 H2, G.le G2 → SS K G2 st2 H2 → gdOk gd st2 → ∃ us, Reps K G2 ds us ∧ SqT K H2 a us) : Walks K G (Itt K a) ds gd where
  stop := fun i G2 st H le s gk hi => by
    obtain ⟨us, r, q⟩ := h G2 st H le s gk
    exact ⟨us, q, by rw [← r.length]; exact Nat.le_of_eq hi⟩
  go := fun i G2 st H le s gk hi => by
    obtain ⟨us, r, q⟩ := h G2 st H le s gk
    exact ⟨us, us[i]'(by rw [← r.length]; exact hi), q, by simp [← r.length, hi]⟩
  yld := fun i G2 st H d x H' le s gk hd y => by
    obtain ⟨us, r, q⟩ := h G2 st H le s gk
    obtain ⟨e1, y⟩ := y
    obtain ⟨v, h1, h2⟩ := r.get hd
    have := y us q
    rw [h1] at this
    cases this
    exact .inl ⟨e1, h2⟩
theorem walks_rng {K : PySem.W.Frag} {G : Gh} {lo : Int} {n : Nat} : Walks K G (Itr lo n) ((List.range n).map fun (i : Nat) => D.int (lo + i)) [] where
  stop := fun i _ _ H _ _ _ hi => by
    rw [List.length_map, List.length_range] at hi
    exact Nat.le_of_eq hi
  go := fun i _ _ H _ _ _ hi => by
    rw [List.length_map, List.length_range] at hi
    exact hi
  yld := fun i _ _ H d x H' _ _ _ hd y => by
    obtain ⟨e1, y⟩ := y
    rw [List.getElem?_map] at hd
    have hi : i < n := by
      by_cases h : i < n
      · exact h
      · rw [List.getElem?_eq_none (by simpa using h)] at hd; cases hd
    rw [List.getElem?_range hi] at hd
    cases hd
    subst y
    exact .inl ⟨e1, .int _⟩
theorem axi_seq (h : AX X W l al) : AXI X W tg l (aIter al) := by
  obtain ⟨t, p, r⟩ := h
  refine ⟨_, pi_seq p, fun G env st σ H R q er s sl a t tX => r G env st σ H _ _ er s sl a (fun v d st2 G2 H2 p2 s2 r2 ⟨l, el, h2⟩ => ?_) tX⟩
  obtain ⟨a, vs, tup, rfl, rs, gk, hh⟩ := rep_seq s2 r2 el
  obtain ⟨us, _, q2⟩ := hh G2 st2 H2 (Gh.le.refl _) s2 gk
  refine ⟨a, rfl, ?_⟩
  cases tup with
  | false => exact .inl ⟨us, q2, t _ _ _ st2 G2 H2 p2 s2 (walks_seq hh) h2⟩
  | true => exact .inr ⟨us, q2, t _ _ _ st2 G2 H2 p2 s2 (walks_tup hh) h2⟩
theorem axi_rng1 (hm : X.mg "range" = none) (h : AX X W e ae) (hg : Gl X "range" := by rfl) (hs : starEach [e] X.env = [(false, eval e X.env)] := by rfl) : AXI X W tg (.Call (.Name "range" p) [e] [] pos) (aRng1 ae) := by
  obtain ⟨t, p, r⟩ := h
  refine ⟨_, pi_range1 hg hm (pa_cons p pa_nil (by rw [hs]; rfl)) hs, fun G env st σ H R q er s sl a t tX => r G env st σ H _ _ er s sl a (fun v d st2 G2 H2 p2 s2 r2 h2 => ?_) tX⟩
  cases r2 with
  | int j =>
    refine ⟨j, rfl, h2.1.1, h2.1.2, t _ _ _ st2 G2 H2 p2 s2 ?_ h2.2⟩
    have := walks_rng (K := X.K) (G := G2) (lo := 0) (n := j.toNat)
    simpa using this
  | _ => exact h2.elim
theorem axi_rng2 (hm : X.mg "range" = none) (h : AX X W e ae) (h' : AX X W e2 ab) (hg : Gl X "range" := by rfl) (hs : starEach [e, e2] X.env = [(false, eval e X.env), (false, eval e2 X.env)] := by rfl) (hs2 : starEach [e2] X.env = [(false, eval e2 X.env)] := by rfl) : AXI X W tg (.Call (.Name "range" p) [e, e2] [] pos) (aRng2 ae ab) := by
  obtain ⟨t, p, r⟩ := h
  obtain ⟨t', p', r'⟩ := h'
  refine ⟨_, pi_range2 hg hm (pa_cons p (pa_cons p' pa_nil (by rw [hs2]; rfl)) (by rw [hs, hs2])) hs hs2, fun G env st σ H R q er s sl a t tX => r G env st σ H _ _ er s sl a (fun v d st2 G2 H2 p2 s2 r2 h2 => r' G2 env st2 σ H2 _ _ er s2 (sl.mono p2.le) h2 (fun v' d' st3 G3 H3 p3 s3 r3 h3 => ?_) (tX.on p2)) tX⟩
  cases r2 with
  | int i =>
    cases r3 with
    | int j => exact ⟨i, j, rfl, h3.1, t _ _ _ st3 G3 H3 (p2.trans p3) s3 walks_rng h3.2⟩
    | _ => exact h3.elim
  | _ => cases d' <;> exact h3.elim
end
/-! ### calls -/
section
variable {X : Cx} {W : WX} {k j : Nat} {x : Str} {p pos : Pos} {e : Expr} {es : List Expr} {aa : AEs} {m : AF} {f : Addr} {fd : FuncData} {ps : List Str} {ds : List Value} {dd : List D} {dvs : List V}
/-- how defaults come in -/
def BindsD (K : PySem.W.Frag) (fd : FuncData) (ps : List Str) (dvs : List V) : Prop := ∃ ds, Vals dvs ds ∧ Binds K fd ps ds
theorem BindsD.no {K : PySem.W.Frag} {fd : FuncData} {ps : List Str} (b : Binds K fd ps []) : BindsD K fd ps [] := ⟨[], .nil, b⟩
theorem ax_call (C : CxE X W k) (F : FnOk X.prog X.w X.K X.mg X.base (L2N.CX X.prog X.w) j f fd ps (SpA X.K m)) (hm : X.mg x = some (.ref f)) (hk : PySem.W.keepIn X.K (.ref f) = true) (hb : BindsD X.K fd ps dvs) (hdd : ∀ G, Reps X.K G dd dvs) (ha : AXA X W (e :: es) aa) (hj : j ≤ k)
    (hg : Gl X x := by rfl) (hdb : (x == ("__debug__" : Str)) = false := by decide) (he : starEach (e :: es) X.env = (false, eval e X.env) :: starEach es X.env := by rfl) (hpl : (backTo pos (starEach es X.env)).any (·.1) = false := by rfl) : AX X W (.Call (.Name x p) (e :: es) [] pos) (aCall m aa dd) := by
  obtain ⟨t, p, r⟩ := ha
  obtain ⟨ds, hv, hb⟩ := hb
  exact ⟨_, pe_callSD F (C.room.mono hj) hg hm hk hb hv (fun σ => L2N.passAt C.takes σ) p hdb he hpl, refE_call r hdd⟩
theorem axf_call (C : CxE X W k) (F : FnOk X.prog X.w X.K X.mg X.base (L2N.CX X.prog X.w) j f fd ps (SpA X.K m)) (hm : X.mg x = some (.ref f)) (hk : PySem.W.keepIn X.K (.ref f) = true) (hb : BindsD X.K fd ps dvs) (hdd : ∀ G, Reps X.K G dd dvs) (ha : AXA X W (e :: es) aa) (hj : j ≤ k)
    (hg : Gl X x := by rfl) (hdb : (x == ("__debug__" : Str)) = false := by decide) (he : starEach (e :: es) X.env = (false, eval e X.env) :: starEach es X.env := by rfl) (hpl : (backTo pos (starEach es X.env)).any (·.1) = false := by rfl) : AXF X W (.Call (.Name x p) (e :: es) [] pos) (fCall m aa dd) := by
  obtain ⟨t, p, r⟩ := ha
  obtain ⟨ds, hv, hb⟩ := hb
  exact ⟨_, pe_callSD F (C.room.mono hj) hg hm hk hb hv (fun σ => L2N.passAt C.takes σ) p hdb he hpl, refF_call r hdd⟩
end
end AM
set_option Elab.async false
set_option linter.all false
set_option maxRecDepth 100000
set_option maxHeartbeats 4000000
namespace AM
open PySem L2 Evl PyProof.Rows
theorem OpR.or {X : Cx} {f : Value → Value → Sem Value} {r r' : R2} (h : OpR X f r) (h' : OpR X f r') : OpR X f (fun x y H Q => r x y H Q ∨ r' x y H Q) := fun pins s σ H x y v u Q I rx ry q => by
  rcases q with q | q
  · exact h pins s σ H x y v u Q I rx ry q
  · exact h' pins s σ H x y v u Q I rx ry q
theorem CallR.or {X : Cx} {f : Value} {r r' : List V → Hp → VK → Prop} (h : CallR X f r) (h' : CallR X f r') : CallR X f (fun x H Q => r x H Q ∨ r' x H Q) := fun pins s σ H x v Q I rx q => by
  rcases q with q | q
  · exact h pins s σ H x v Q I rx q
  · exact h' pins s σ H x v Q I rx q
/-! ### plain data, equality -/
mutual
def D.py : D → PyData
  | .non => .none
  | .bl b => .bool b
  | .int i => .int i
  | .str x => .str x
  | .lst l => .list (D.pys l)
  | .tup l => .tuple (D.pys l)
  | .dic _ => .dict []
  | .obj _ _ => .dict []
  | .fn _ => .dict []
  | .ty _ => .dict []
  | .ref _ => .dict []
  | .scr _ => .dict []
def D.pys : List D → List PyData
  | [] => []
  | d :: ds => d.py :: D.pys ds
end
mutual
def D.plain : D → Bool
  | .non => true
  | .bl _ => true
  | .int _ => true
  | .str x => PyData.strOk x
  | .lst l => D.plains l
  | .tup l => D.plains l
  | _ => false
def D.plains : List D → Bool
  | [] => true
  | d :: ds => d.plain && D.plains ds
end
mutual
def D.dep : D → Nat
  | .lst l => D.deps l + 1
  | .tup l => D.deps l + 1
  | _ => 0
def D.deps : List D → Nat
  | [] => 0
  | d :: ds => max d.dep (D.deps ds)
end
mutual
def D.eqv : D → D → Bool
  | .non, .non => true
  | .bl a, .bl b => a == b
  | .bl a, .int j => (if a then 1 else 0) == j
  | .int i, .bl b => i == (if b then 1 else 0)
  | .int i, .int j => i == j
  | .str x, .str y => x == y
  | .lst xs, .lst ys => D.eqvs xs ys
  | .tup xs, .tup ys => D.eqvs xs ys
  | _, _ => false
def D.eqvs : List D → List D → Bool
  | [], [] => true
  | x :: xs, y :: ys => D.eqv x y && D.eqvs xs ys
  | _, _ => false
end
mutual
theorem D.py_eqv : ∀ {a b : D}, a.plain = true → b.plain = true → PyData.eqv a.py b.py = D.eqv a b
  | .non, b, _, hb => by cases b <;> first | rfl | cases hb
  | .bl _, b, _, hb => by cases b <;> first | rfl | cases hb
  | .int _, b, _, hb => by cases b <;> first | rfl | cases hb
  | .str _, b, _, hb => by cases b <;> first | rfl | cases hb
  | .lst xs, b, ha, hb => by
    cases b with
    | lst ys => exact D.pys_eqv ha hb
    | _ => first | rfl | cases hb
  | .tup xs, b, ha, hb => by
    cases b with
    | tup ys => exact D.pys_eqv ha hb
    | _ => first | rfl | cases hb
  | .dic _, _, ha, _ => by cases ha
  | .obj _ _, _, ha, _ => by cases ha
  | .fn _, _, ha, _ => by cases ha
  | .ty _, _, ha, _ => by cases ha
  | .ref _, _, ha, _ => by cases ha
  | .scr _, _, ha, _ => by cases ha
theorem D.pys_eqv : ∀ {a b : List D}, D.plains a = true → D.plains b = true → PyData.eqvAll (D.pys a) (D.pys b) = D.eqvs a b
  | [], [], _, _ => rfl
  | [], _ :: _, _, _ => rfl
  | _ :: _, [], _, _ => rfl
  | x :: xs, y :: ys, ha, hb => by
    obtain ⟨h1, h2⟩ := Bool.and_eq_true_iff.mp (show (x.plain && D.plains xs) = true from ha)
    obtain ⟨h3, h4⟩ := Bool.and_eq_true_iff.mp (show (y.plain && D.plains ys) = true from hb)
    show (PyData.eqv x.py y.py && PyData.eqvAll (D.pys xs) (D.pys ys)) = (D.eqv x y && D.eqvs xs ys)
    rw [D.py_eqv h1 h3, D.pys_eqv h2 h4]
end
mutual
theorem D.py_lay : ∀ {a : D}, a.plain = true → PyData.canLay0 a.py = true
  | .non, _ => rfl
  | .bl _, _ => rfl
  | .int _, _ => rfl
  | .str _, h => h
  | .lst xs, h => D.pys_lay (a := xs) h
  | .tup xs, h => D.pys_lay (a := xs) h
  | .dic _, h => by cases h
  | .obj _ _, h => by cases h
  | .fn _, h => by cases h
  | .ty _, h => by cases h
  | .ref _, h => by cases h
  | .scr _, h => by cases h
theorem D.pys_lay : ∀ {a : List D}, D.plains a = true → PyData.canLayAll0 (D.pys a) = true
  | [], _ => rfl
  | x :: xs, h => by
    obtain ⟨h1, h2⟩ := Bool.and_eq_true_iff.mp (show (x.plain && D.plains xs) = true from h)
    show (PyData.canLay0 x.py && PyData.canLayAll0 (D.pys xs)) = true
    rw [D.py_lay h1, D.pys_lay h2]; rfl
end
mutual
theorem D.py_dep : ∀ {a : D}, a.plain = true → PyData.depth a.py = a.dep
  | .non, _ => rfl
  | .bl _, _ => rfl
  | .int _, _ => rfl
  | .str _, h => rfl
  | .lst xs, h => congrArg (· + 1) (D.pys_dep (a := xs) h)
  | .tup xs, h => congrArg (· + 1) (D.pys_dep (a := xs) h)
  | .dic _, h => by cases h
  | .obj _ _, h => by cases h
  | .fn _, h => by cases h
  | .ty _, h => by cases h
  | .ref _, h => by cases h
  | .scr _, h => by cases h
theorem D.pys_dep : ∀ {a : List D}, D.plains a = true → PyData.depthAll (D.pys a) = D.deps a
  | [], _ => rfl
  | x :: xs, h => by
    obtain ⟨h1, h2⟩ := Bool.and_eq_true_iff.mp (show (x.plain && D.plains xs) = true from h)
    show max (PyData.depth x.py) (PyData.depthAll (D.pys xs)) = max x.dep (D.deps xs)
    rw [D.py_dep h1, D.pys_dep h2]
end
def D.shp (d : D) : Prop := d.plain = true ∧ d.dep ≤ 64
theorem D.shaped {d : D} (h : d.shp) : SeqAt.shaped d.py = true := by
  unfold SeqAt.shaped
  rw [D.py_lay h.1, D.py_dep h.1]
  simpa using h.2
section
variable {K : PySem.W.Frag} {G : Gh} {H : Hp}
mutual
theorem Rep.dp (e : Ex G.g H) : ∀ {d : D} {v : V}, Rep K G d v → d.plain = true → Dp K H v d.py
  | _, _, .non, _ => .non
  | _, _, .bl b, _ => .bl b
  | _, _, .int b, _ => .int b
  | _, _, .str b, _ => .str b
  | _, _, .lst h r, p => .lst (SqL.of (e _ _ h)) (Reps.dp e r p)
  | _, _, .tup h r, p => .tup (SqT.of (e _ _ h)) (Reps.dp e r p)
  | _, _, .dicT _ _, p => by cases p
  | _, _, .obj _ _, p => by cases p
  | _, _, .fn _, p => by cases p
  | _, _, .ty _, p => by cases p
  | _, _, .ref _, p => by cases p
  | _, _, .scr _ _, p => by cases p
theorem Reps.dp (e : Ex G.g H) : ∀ {d : List D} {v : List V}, Reps K G d v → D.plains d = true → DpAll K H v (D.pys d)
  | _, _, .nil, _ => .nil
  | _, _, .cons (d := x) (ds := xs) h r, p => by
    obtain ⟨h1, h2⟩ := Bool.and_eq_true_iff.mp (show (x.plain && D.plains xs) = true from p)
    exact .cons (Rep.dp e h h1) (Reps.dp e r h2)
end
end
theorem Rv.dp {K : PySem.W.Frag} {G : Gh} {H : Hp} (e : Ex G.g H) {d : D} {v : V} (r : Rv K G H d v) (p : d.plain = true) : Dp K H v d.py := by
  cases r with
  | non => exact .non
  | bl b => exact .bl b
  | int b => exact .int b
  | str b => exact .str b
  | lst h r => exact .lst (SqL.of h) (Reps.dp e r p)
  | tup h r _ => exact .tup (SqT.of h) (Reps.dp e r p)
  | _ => cases p
def oEq : O2 := fun x y q => x.shp ∧ y.shp ∧ q (.bl (D.eqv x y))
def oNe : O2 := fun x y q => x.shp ∧ y.shp ∧ q (.bl (!D.eqv x y))
section
variable {X : Cx} {K : PySem.W.Frag}
theorem ref_eq : RefO K (rEqD K) oEq := fun G st H x y dx dy Q q s rx ry ⟨h1, h2, h⟩ t =>
  ⟨dx.py, dy.py, rx.dp s.ex h1.1, ry.dp s.ex h2.1, D.shaped h1, D.shaped h2, by rw [D.py_eqv h1.1 h2.1]; exact t.here s (.bl _) h⟩
theorem ref_ne : RefO K (rNeD K) oNe := fun G st H x y dx dy Q q s rx ry ⟨h1, h2, h⟩ t =>
  ⟨dx.py, dy.py, rx.dp s.ex h1.1, ry.dp s.ex h2.1, D.shaped h1, D.shaped h2, by rw [D.py_eqv h1.1 h2.1]; exact t.here s (.bl _) h⟩
theorem u64 {A : Around} {k : Nat} (h : Room k A) : A.units + 65 < cLine := by have := h.un; omega
theorem op_Eq {W : WX} {k : Nat} (C : CxE X W k) : OpR X (compareOp .Eq) (rEqD X.K) ∧ RefO X.K (rEqD X.K) oEq := ⟨op_eqD (by have := u64 C.room; omega), ref_eq⟩
theorem op_Ne {W : WX} {k : Nat} (C : CxE X W k) : OpR X (compareOp .NotEq) (rNeD X.K) ∧ RefO X.K (rNeD X.K) oNe := ⟨op_neD (by have := u64 C.room; omega), ref_ne⟩
/-! ### numbers -/
def oI (g : Int → Int → D) : O2 := fun x y q => match x, y with
  | .int i, .int j => q (g i j)
  | _, _ => False
def oIC (C : Int → Int → Prop) (g : Int → Int → D) : O2 := fun x y q => match x, y with
  | .int i, .int j => C i j ∧ q (g i j)
  | _, _ => False
def CFd (_ j : Int) : Prop := j ≠ 0 ∧ j.natAbs.log2 < 9000
theorem ref_i {g : Int → Int → V} {g' : Int → Int → D} (h : ∀ G i j, Rep K G (g' i j) (g i j)) : RefO K (rI0 g) (oI g') := fun G st H x y dx dy Q q s rx ry h1 t => by
  cases rx with
  | int i =>
    cases ry with
    | int j => exact ⟨i, j, rfl, rfl, t.here s (h G i j) h1⟩
    | _ => exact h1.elim
  | _ => cases dy <;> exact h1.elim
theorem ref_ic {C : Int → Int → Prop} {g : Int → Int → V} {g' : Int → Int → D} (h : ∀ G i j, Rep K G (g' i j) (g i j)) : RefO K (rI C g) (oIC C g') := fun G st H x y dx dy Q q s rx ry h1 t => by
  cases rx with
  | int i =>
    cases ry with
    | int j => exact ⟨i, j, rfl, rfl, h1.1, t.here s (h G i j) h1.2⟩
    | _ => exact h1.elim
  | _ => cases dy <;> exact h1.elim
abbrev oSub : O2 := oI fun i j => .int (i - j)
abbrev oMul : O2 := oIC CMulW fun i j => .int (i * j)
abbrev oFdiv : O2 := oIC CFd fun i j => .int (i.fdiv j)
abbrev oMod : O2 := oIC (fun _ j => j ≠ 0) fun i j => .int (i.fmod j)
abbrev oPow : O2 := oIC CPow fun i j => .int (i ^ j.toNat)
abbrev oLt : O2 := oI fun i j => .bl (decide (i < j))
abbrev oLe : O2 := oI fun i j => .bl (decide (i ≤ j))
abbrev oGt : O2 := oI fun i j => .bl (decide (j < i))
abbrev oGe : O2 := oI fun i j => .bl (decide (j ≤ i))
theorem op_fdivX : OpR X (binaryOp .FloorDiv) (rI CFd fun i j => .int (i.fdiv j)) := opI fun i j _ _ _ _ _ hc q => floordiv_int hc.1 q (.inl (PyProof.noPylong_of_log2 hc.2))
theorem op_Sub : OpR X (binaryOp .Sub) (rI0 fun i j => .int (i - j)) ∧ RefO X.K (rI0 fun i j => .int (i - j)) oSub := ⟨op_sub, ref_i fun _ _ _ => .int _⟩
theorem op_Mul : OpR X (binaryOp .Mult) (rI CMulW fun i j => .int (i * j)) ∧ RefO X.K (rI CMulW fun i j => .int (i * j)) oMul := ⟨op_mulW, ref_ic fun _ _ _ => .int _⟩
theorem op_Fdiv : OpR X (binaryOp .FloorDiv) (rI CFd fun i j => .int (i.fdiv j)) ∧ RefO X.K (rI CFd fun i j => .int (i.fdiv j)) oFdiv := ⟨op_fdivX, ref_ic fun _ _ _ => .int _⟩
theorem op_Mod : OpR X (binaryOp .Mod) (rI (fun _ j => j ≠ 0) fun i j => .int (i.fmod j)) ∧ RefO X.K (rI (fun _ j => j ≠ 0) fun i j => .int (i.fmod j)) oMod := ⟨op_modN, ref_ic fun _ _ _ => .int _⟩
theorem op_Pow : OpR X (binaryOp .Pow) (rI CPow fun i j => .int (i ^ j.toNat)) ∧ RefO X.K (rI CPow fun i j => .int (i ^ j.toNat)) oPow := ⟨op_pow, ref_ic fun _ _ _ => .int _⟩
theorem op_Lt : OpR X (compareOp .Lt) (rI0 fun i j => .bl (decide (i < j))) ∧ RefO X.K (rI0 fun i j => .bl (decide (i < j))) oLt := ⟨op_lt, ref_i fun _ _ _ => .bl _⟩
theorem op_Le : OpR X (compareOp .LtE) (rI0 fun i j => .bl (decide (i ≤ j))) ∧ RefO X.K (rI0 fun i j => .bl (decide (i ≤ j))) oLe := ⟨op_le, ref_i fun _ _ _ => .bl _⟩
theorem op_Gt : OpR X (compareOp .Gt) (rI0 fun i j => .bl (decide (j < i))) ∧ RefO X.K (rI0 fun i j => .bl (decide (j < i))) oGt := ⟨op_gt, ref_i fun _ _ _ => .bl _⟩
theorem op_Ge : OpR X (compareOp .GtE) (rI0 fun i j => .bl (decide (j ≤ i))) ∧ RefO X.K (rI0 fun i j => .bl (decide (j ≤ i))) oGe := ⟨op_ge, ref_i fun _ _ _ => .bl _⟩
def oNeg : O1 := fun x q => match x with
  | .int i => q (.int (-i))
  | _ => False
theorem op_Neg : UnR X (unaryOp .USub) (rU fun i => .int (-i)) ∧ RefU X.K (rU fun i => .int (-i)) oNeg := ⟨un_neg, fun G st H x dx Q q s rx h t => by
  cases rx with
  | int i => exact ⟨i, rfl, t.here s (.int _) h⟩
  | _ => exact h.elim⟩
/-- +: ints, lists, texts -/
def oAdd : O2 := fun x y q => match x, y with
  | .int i, .int j => q (.int (i + j))
  | .lst a, .lst b => a.length + b.length ≤ 100000 ∧ q (.lst (a ++ b))
  | .str a, .str b => a.length + b.length ≤ 100000 ∧ q (.str (a ++ b))
  | .tup a, .tup b => a.length + b.length ≤ 100000 ∧ q (.tup (a ++ b))
  | _, _ => False
def rSqL2 (K : PySem.W.Frag) : R2 := fun x y H Q => ∃ p p' a b, x = .ref p ∧ y = .ref p' ∧ SqL K H p a ∧ SqL K H p' b ∧ a.length + b.length ≤ sizeLine ∧ ∀ l, H l = none → Q (.ref l) (upd H l (.lst (a ++ b)))
end
section
variable {X : Cx} {K : PySem.W.Frag} {W : WX} {k : Nat}
def rAddA (K : PySem.W.Frag) : R2 := fun x y H Q => rI0 (fun i j => .int (i + j)) x y H Q ∨ rCat x y H Q ∨ rCatA K x y H Q ∨ (∃ i j, x = .str i ∧ y = .str j ∧ i.length + j.length ≤ sizeLine ∧ Q (.str (i ++ j)) H)
theorem op_Add : OpR X (binaryOp .Add) (rAddA X.K) ∧ RefO X.K (rAddA X.K) oAdd := by
  refine ⟨OpR.or op_add (OpR.or op_cat (OpR.or op_catA op_add_str)), fun G st H x y dx dy Q q s rx ry h t => ?_⟩
  cases rx with
  | int i =>
    cases ry with
    | int j => exact .inl ⟨i, j, rfl, rfl, t.here s (.int _) h⟩
    | _ => exact h.elim
  | lst h1 r1 =>
    cases ry with
    | lst h2 r2 => exact .inr (.inl ⟨_, _, _, _, rfl, rfl, h1, h2, sz_of (by rw [← r1.length, ← r2.length]; exact h.1), fun p hp => t.newL s (r1.append r2) h.2 hp⟩)
    | _ => exact h.elim
  | str i =>
    cases ry with
    | str j => exact .inr (.inr (.inr ⟨i, j, rfl, rfl, sz_of h.1, t.here s (.str _) h.2⟩))
    | _ => exact h.elim
  | tup h1 r1 ra =>
    cases ry with
    | tup h2 r2 rb =>
      refine .inr (.inr (.inl ⟨_, _, _, _, rfl, rfl, SqT.of h1, SqT.of h2, sz_of (by rw [← r1.length, ← r2.length]; exact h.1), fun e => ?_, fun _ e => ?_, fun _ _ p hp => t.newT s (r1.append r2) h.2 hp⟩))
      · subst e
        cases r1
        exact t.here s rb h.2
      · subst e
        cases r2
        have h2' := h.2
        rw [List.append_nil] at h2'
        exact t.here s ra h2'
    | _ => exact h.elim
  | _ => cases dy <;> exact h.elim
/-- x[i] -/
theorem atI_reps {G : Gh} {ds : List D} {vs : List V} {i : Int} {d : D} (r : Reps K G ds vs) (h : atI ds i = some d) : ∃ v, atI vs i = some v ∧ Rep K G d v := by
  unfold atI at h ⊢
  rw [← r.length]
  cases hj : ixN ds.length i with
  | none => rw [hj] at h; cases h
  | some j =>
    rw [hj] at h
    exact r.get h
def oIx : O2 := fun x y q => match x, y with
  | .lst l, .int i => ∃ d, atI l i = some d ∧ q d
  | .tup l, .int i => ∃ d, atI l i = some d ∧ q d
  | .str s, .int i => s.length ≤ 100000 ∧ ∃ c, atI s.cps.toList i = some c ∧ q (.str ⟨#[c]⟩)
  | _, _ => False
def rIxA (K : PySem.W.Frag) : R2 := fun x y H Q => rIxL K x y H Q ∨ rIxT K x y H Q ∨ rIxS x y H Q
theorem op_Ix : IxR X (rIxA X.K) ∧ RefO X.K (rIxA X.K) oIx := by
  refine ⟨IxR.or ix_list (IxR.or ix_tup ix_str), fun G st H x y dx dy Q q s rx ry h t => ?_⟩
  cases rx with
  | lst h1 r1 =>
    cases ry with
    | int i =>
      obtain ⟨d, hd, h⟩ := h
      obtain ⟨v, hv, rv⟩ := atI_reps r1 hd
      exact .inl ⟨_, _, i, v, rfl, rfl, SqL.of h1, hv, t.here s rv h⟩
    | _ => exact h.elim
  | tup h1 r1 rt =>
    cases ry with
    | int i =>
      obtain ⟨d, hd, h⟩ := h
      obtain ⟨v, hv, rv⟩ := atI_reps r1 hd
      exact .inr (.inl ⟨_, _, i, v, rfl, rfl, SqT.of h1, hv, t.here s rv h⟩)
    | _ => exact h.elim
  | str sx =>
    cases ry with
    | int i =>
      obtain ⟨hl, c, hc, h⟩ := h
      exact .inr (.inr ⟨sx, i, c, rfl, rfl, sz_of hl, hc, t.here s (.str _) h⟩)
    | _ => exact h.elim
  | _ => cases dy <;> exact h.elim
/-! ### built-ins -/
def bAbs : ON := fun xs q => match xs with
  | [.int i] => q (.int (if i < 0 then -i else i))
  | _ => False
theorem cb_abs : CB X (.builtin "abs") bAbs := ⟨_, call_abs, fun G st H xs ds Q q s r h t => by
  unfold bAbs at h
  split at h
  · cases r with
    | cons r1 r2 => cases r1; cases r2; exact ⟨_, rfl, t.here s (.int _) h⟩
  · exact h.elim⟩
def bMax2 : ON := fun xs q => match xs with
  | [.int i, .int j] => q (.int (if j > i then j else i))
  | _ => False
theorem cb_max2 (C : CxE X W k) : CB X (.builtin "max") bMax2 := ⟨_, call_max2 C.calm, fun G st H xs ds Q q s r h t => by
  unfold bMax2 at h
  split at h
  · cases r with
    | cons r1 r2 =>
      cases r2 with
      | cons r2 r3 => cases r1; cases r2; cases r3; exact ⟨_, _, rfl, t.here s (.int _) h⟩
  · exact h.elim⟩
def bMin2 : ON := fun xs q => match xs with
  | [.int i, .int j] => q (.int (if j < i then j else i))
  | _ => False
theorem cb_min2 (C : CxE X W k) : CB X (.builtin "min") bMin2 := ⟨_, call_min2 C.calm, fun G st H xs ds Q q s r h t => by
  unfold bMin2 at h
  split at h
  · cases r with
    | cons r1 r2 =>
      cases r2 with
      | cons r2 r3 => cases r1; cases r2; cases r3; exact ⟨_, _, rfl, t.here s (.int _) h⟩
  · exact h.elim⟩
def bInt : ON := fun xs q => match xs with
  | [.int i] => q (.int i)
  | [.bl b] => q (.int (if b then 1 else 0))
  | _ => False
theorem cb_int : CB X (.type "int") bInt := ⟨_, call_int1, fun G st H xs ds Q q s r h t => by
  unfold bInt at h
  split at h
  · cases r with
    | cons r1 r2 => cases r1; cases r2; exact .inl ⟨_, rfl, t.here s (.int _) h⟩
  · cases r with
    | cons r1 r2 => cases r1; cases r2; exact .inr ⟨_, rfl, t.here s (.int _) h⟩
  · exact h.elim⟩
def lenD : D → Option Nat
  | .lst l => some l.length
  | .tup l => some l.length
  | .str s => if s.length ≤ 100000 then some s.length else none
  | _ => none
def bLen : ON := fun xs q => match xs with
  | [x] => ∃ n, lenD x = some n ∧ q (.int n)
  | _ => False
theorem cb_len : CB X (.builtin "len") bLen := ⟨_, call_len, fun G st H xs ds Q q s r h t => by
  unfold bLen at h
  split at h
  · rename_i x
    obtain ⟨n, hn, h⟩ := h
    cases r with
    | cons r1 r2 =>
      cases r2
      refine ⟨_, n, rfl, ?_, t.here s (.int _) h⟩
      cases r1 with
      | lst h1 r1 => cases hn; exact .inl ⟨_, SqL.of h1, r1.length⟩
      | tup h1 r1 rt => cases hn; exact .inr ⟨_, SqT.of h1, r1.length⟩
      | str s =>
        have hn' : (if s.length ≤ 100000 then some s.length else none) = some n := hn
        by_cases hz : s.length ≤ 100000
        · rw [if_pos hz] at hn'
          cases hn'
          exact ⟨sz_of hz, rfl⟩
        · rw [if_neg hz] at hn'; cases hn'
      | _ => cases hn
  · exact h.elim⟩
def bList : ON := fun xs q => match xs with
  | [x] => ∃ l, itemsD x = some l ∧ q (.lst l)
  | _ => False
theorem cb_list : CB X (.type "list") bList := ⟨_, call_list_of, fun G st H xs ds Q q s r h t => by
  unfold bList at h
  split at h
  · obtain ⟨l, hl, h⟩ := h
    cases r with
    | cons r1 r2 =>
      cases r2
      cases r1 with
      | lst h1 r1 => cases hl; exact ⟨_, _, rfl, .inl (SqL.of h1), fun p hp => t.newL s r1 h hp⟩
      | tup h1 r1 rt => cases hl; exact ⟨_, _, rfl, .inr (SqT.of h1), fun p hp => t.newL s r1 h hp⟩
      | _ => cases hl
  · exact h.elim⟩
def bTuple : ON := fun xs q => match xs with
  | [x] => ∃ l, itemsD x = some l ∧ q (.tup l)
  | _ => False
theorem cb_tuple : CB X (.type "tuple") bTuple := ⟨_, call_tuple_of, fun G st H xs ds Q q s r h t => by
  unfold bTuple at h
  split at h
  · obtain ⟨l, hl, h⟩ := h
    cases r with
    | cons r1 r2 =>
      cases r2
      cases r1 with
      | lst h1 r1 => cases hl; exact ⟨_, _, rfl, .inl ⟨SqL.of h1, fun p hp => t.newT s r1 h hp⟩⟩
      | tup h1 r1 rt => cases hl; exact ⟨_, _, rfl, .inr ⟨SqT.of h1, t.here s rt h⟩⟩
      | _ => cases hl
  · exact h.elim⟩
/-! ### isinstance of data and built-in classes -/
def tyD : D → Option String
  | .non => some "NoneType"
  | .bl _ => some "bool"
  | .int _ => some "int"
  | .str _ => some "str"
  | .lst _ => some "list"
  | .tup _ => some "tuple"
  | .dic _ => some "dict"
  | _ => none
theorem ty_ok {G : Gh} {H : Hp} {d : D} {v : V} {t : String} (r : Rv K G H d v) (h : tyD d = some t) : TyX K H v (.type t) := by
  cases r with
  | non => cases h; exact .base .non
  | bl b => cases h; exact .base (.bl b)
  | int b => cases h; exact .base (.int b)
  | str b => cases h; exact .base (.str b)
  | lst h1 _ => cases h; exact .base (.lst h1)
  | tup h1 _ _ => cases h; exact .base (.tup h1)
  | dicT h1 _ => cases h; exact .base (.dT h1)
  | _ => cases h
def clsD : D → Option (List String)
  | .ty n => some [n]
  | .tup l => l.mapM fun d => match d with
    | .ty n => some n
    | _ => none
  | _ => none
def kitS (t : String) : List String → Option Bool
  | [] => some false
  | c :: r => match kitB t c with
    | some true => some true
    | some false => kitS t r
    | none => none
def bIsi : ON := fun xs q => match xs with
  | [x, .ty c] => ∃ t b, tyD x = some t ∧ kitB t c = some b ∧ q (.bl b)
  | [x, .tup l] => ∃ t cs b, tyD x = some t ∧ l = cs.map D.ty ∧ kitS t cs = some b ∧ q (.bl b)
  | _ => False
theorem kitS_ok {t : String} {b : Bool} : ∀ {cs : List String}, kitS t cs = some b → PySem.W.kitAny K (.type t) (cs.map fun c => Value.type c) = some b
  | [], h => h
  | c :: cs, h => by
    have h' : (match kitB t c with | some true => some true | some false => kitS t cs | none => none) = some b := h
    show (match PySem.W.kitOne K (.type t) (.type c) with | some true => some true | some false => PySem.W.kitAny K (.type t) (cs.map fun c => Value.type c) | none => none) = some b
    cases hk : kitB t c with
    | none => rw [hk] at h'; cases h'
    | some x =>
      rw [kit_ty hk]
      rw [hk] at h'
      cases x with
      | true => exact h'
      | false => exact kitS_ok h'
theorem tys_ok {G : Gh} : ∀ {cs : List String} {vs : List V}, Reps K G (cs.map D.ty) vs → vs = cs.map V.ty
  | [], _, .nil => rfl
  | c :: cs, _, .cons h r => by
    cases h
    rw [tys_ok (cs := cs) r]; rfl
theorem cls_tys : ∀ (cs : List String), Paired ClsV (cs.map V.ty) (cs.map fun c => Value.type c)
  | [] => .nil
  | c :: cs => .cons (.ty c) (cls_tys cs)
theorem cb_isi : CB X (.builtin "isinstance") bIsi := ⟨_, CallR.or call_isi call_isiT, fun G st H xs ds Q q s r h t => by
  unfold bIsi at h
  split at h
  · obtain ⟨ty, b, h1, h2, h⟩ := h
    cases r with
    | cons r1 r2 =>
      cases r2 with
      | cons r2 r3 =>
        cases r2; cases r3
        exact .inl ⟨_, _, _, _, b, rfl, .ty _, ty_ok r1 h1, kit_ty h2, t.here s (.bl _) h⟩
  · obtain ⟨ty, cs, b, h1, rfl, h2, h⟩ := h
    cases r with
    | cons r1 r2 =>
      cases r2 with
      | cons r2 r3 =>
        cases r3
        cases r2 with
        | tup ht rt _ =>
          have := tys_ok rt
          subst this
          exact .inr ⟨_, _, _, _, _, b, rfl, ht, cls_tys cs, ty_ok r1 h1, kitS_ok h2, t.here s (.bl _) h⟩
  · exact h.elim⟩
/-- a built-in class's name as a value -/
theorem ax_ty {x : Str} {n : String} {pos : Pos} (hm : X.mg x = none) (hv : bootBuiltins x = some (.type n)) (hg : Gl X x := by rfl) (hn : x ≠ "__name__" := by decide) (hd : (x == ("__debug__" : Str)) = false := by decide) : AX X W (.Name x pos) (aC (.ty n)) := ⟨_, pe_bltn (v := .ty n) hg hm hv rfl hn hd, refE_c fun _ => .ty n⟩
/-- all, any, sum of lists -/
theorem bls_ok {G : Gh} : ∀ {bs : List Bool} {vs : List V}, Reps K G (bs.map D.bl) vs → vs = bs.map V.bl
  | [], _, .nil => rfl
  | c :: cs, _, .cons h r => by
    cases h
    rw [bls_ok (bs := cs) r]; rfl
theorem ints_ok {G : Gh} : ∀ {bs : List Int} {vs : List V}, Reps K G (bs.map D.int) vs → vs = bs.map V.int
  | [], _, .nil => rfl
  | c :: cs, _, .cons h r => by
    cases h
    rw [ints_ok (bs := cs) r]; rfl
def bAll : ON := fun xs q => ∃ bs : List Bool, xs = [.lst (bs.map D.bl)] ∧ q (.bl (bs.all id))
def bAny : ON := fun xs q => ∃ bs : List Bool, xs = [.lst (bs.map D.bl)] ∧ q (.bl (bs.any id))
def bSum : ON := fun xs q => ∃ ns : List Int, xs = [.lst (ns.map D.int)] ∧ q (.int ns.sum)
theorem cb_all (C : CxE X W k) : CB X (.builtin "all") bAll := ⟨_, cr_all C.calm, fun G st H xs ds Q q s r ⟨bs, eb, h⟩ t => by
  subst eb
  cases r with
  | cons r1 r2 =>
    cases r2
    cases r1 with
    | lst h1 r1 =>
      have := bls_ok r1
      subst this
      exact ⟨_, bs, rfl, SqL.of h1, t.here s (.bl _) h⟩⟩
theorem cb_any (C : CxE X W k) : CB X (.builtin "any") bAny := ⟨_, cr_any C.calm, fun G st H xs ds Q q s r ⟨bs, eb, h⟩ t => by
  subst eb
  cases r with
  | cons r1 r2 =>
    cases r2
    cases r1 with
    | lst h1 r1 =>
      have := bls_ok r1
      subst this
      exact ⟨_, bs, rfl, SqL.of h1, t.here s (.bl _) h⟩⟩
theorem cb_sum (C : CxE X W k) : CB X (.builtin "sum") bSum := ⟨_, cr_sum C.calm, fun G st H xs ds Q q s r ⟨bs, eb, h⟩ t => by
  subst eb
  cases r with
  | cons r1 r2 =>
    cases r2
    cases r1 with
    | lst h1 r1 =>
      have := ints_ok r1
      subst this
      exact ⟨_, bs, rfl, SqL.of h1, t.here s (.int _) h⟩⟩
end
end AM
set_option Elab.async false
set_option linter.all false
set_option maxRecDepth 100000
set_option maxHeartbeats 4000000
namespace AM
open PySem PySem.W PySem.Calls PyProof.Rows
/-! ### an own error's __init__: super().__init__(text), then at most one field -/
section
variable {prog : Program} {w : World} {A : Around} {E : Value → Shared → Prop} {h : Heap} {g : Array GenState} {d : Drawn} {t : Nat} {os : OsState}
variable {nm q : Str} {C N : Addr} {bs bm : List Value} {hdct : Bool} {sn : List Str} {sub : List Value} {ab : Bool} {col : Option Bool} {dd : Option Addr} {k0 k1 k2 k3 k5 : Option Value}
theorem call_mw {u e t0 : Addr} {rest : List Value} {Q : Value → Shared → Prop}
    (hC : h.get? C = some (excClassObj nm q C N bs bm hdct sn sub ab col dd k0 k1 k2 k3 k5 "ValueError.__new__")) (he : h.get? e = some (HandSPX.excO C t0)) (hu : h.get? u = some (kxs_mw "ValueError.__init__" e)) (hrest : rest.length ≤ sizeLine)
    (hq : ∀ h' t1, (∀ b o, b ≠ e → h.get? b = some o → h'.get? b = some o) → h'.get? e = some (HandSPX.excO C t1) → h.objs.size ≤ h'.objs.size → Q .none ⟨h', g, d, t, os⟩) :
    wpAny (model prog w) A (call (.ref u) rest) Q E ⟨h, g, d, t, os⟩ := by
  refine wpAny_call (codeAny_of_tree ?_)
  show wpAny _ A.in1 (callAny (.ref u) ⟨rest, []⟩) _ _ _
  simp only [callAny]
  refine wpAny_bind (wpAny_load hu ?_)
  simp only [kxs_mw, show (Value.type "method-wrapper" == Value.type "method" || Value.type "method-wrapper" == Value.type "builtin_function_or_method" || Value.type "method-wrapper" == Value.type "method-wrapper") = true by decide, if_true]
  refine KFB.if_so (by decide) ?_
  refine wpAny_bind (check_bound_init F.excBase_ValueError.toExcCallFacts hC he rfl ?_)
  refine wpAny_bind (wpAny_pure (wpAny_pure ?_))
  refine ⟨Code.quiet_builtin _ (by decide +kernel), codeAny_builtin F.excBase_ValueError.initEntry ?_⟩
  rw [Around.under_plainId F.excBase_ValueError.init.plain _]
  wp_walk
  refine hq _ h.objs.size (fun b o hb ho => ?_) ?_ ?_
  · rw [Heap.get?_update_other _ _ (Ne.symm hb)]
    exact Heap.get?_push_of_some _ ho
  · rw [Heap.get?_update_self _ (Heap.get?_push_of_some _ he) rfl]
    rfl
  · rw [Heap.size_update, Heap.size_push]; exact Nat.le_succ _
end
/-- what is known of the class and of its __init__ -/
structure XC (P : Program) (K : Frag) (mg : Str → Option Value) (C f : Addr) (fd : FuncData) (params : Arguments) (body : List Stmt) (scope : Scope) : Prop where
  ox : L2.OexC K C
  fn : ∃ (qual : Str) (kV doc pm ct oc : Value) (an od : Option Addr) (osl : Array (Option Value)) (cc cda : Addr) (cl : Value) (cld : Option Addr) (csl : Array (Option Value)) (ccl : Value) (cdd : Option Addr) (vs : Array Value) (ccs : Array (Option Value)) (tf : Tok),
    fd = ksFn "__init__" qual params body scope .none kV doc pm an (.ref cda) ct cc ∧ K.lookup f = some ⟨oc, od, .func fd, osl⟩ ∧ codeIn K (.ref cda) qual = true ∧ K.lookup cc = some ⟨cl, cld, .cell (some (.ref C)), csl⟩ ∧
    K.lookup cda = some ⟨ccl, cdd, .fields vs, ccs⟩ ∧ vs[2]? = some (.str P.main.file tf)
  su : ks_superIn K C C "__init__" = some (some (.builtin "ValueError.__init__"))
  ve : subIn K (.ref C) (.type "ValueError") = some true
  mr : mroIn K C (.ref C) = some true
  st : nsIn K cStatics "thirdparty.any" = some none
  mgs : mg "super" = none
  top : (P.main.scope.names.lookup ("super" : Str)).isSome = false
  ini : findIn K (.ref C) "__init__" = some (some (.ref f))
  tyf : typeIn K (.ref f) = some (.type "function")
section
variable {P : Program} {w : World} {K : Frag} {mg : Str → Option Value} {C f : Addr} {fd : FuncData} {params : Arguments} {body : List Stmt} {scope : Scope} {A : Around} {R : Result → Shared → Prop} {base : Heap}
/-- the run of super().__init__(text) within the def's frame -/
theorem run_super {rest : List Stmt} {E : Value → Shared → Prop} {L cc cda e t0 : Addr} {qual : Str} {dV kV doc pm ct oc : Value} {an od : Option Addr} {osl : Array (Option Value)} {cl : Value} {cld : Option Addr} {csl : Array (Option Value)} {ccl : Value} {cdd : Option Addr} {vs : Array Value} {ccs : Array (Option Value)} {tf : Tok} {body : List Stmt}
    {m : Str → Option Value} {hh : Heap} {g : Array GenState} {d : Drawn} {t : Nat} {os : OsState} {txt : Str} {k : Nat} {p0 p1 p2 p3 p4 p5 : Pos} {ar : PySem.Arg} {Q : Flow → Shared → Prop}
    (ox : L2.OexC K C) (hf : K.lookup f = some ⟨oc, od, .func (ksFn "__init__" qual params body scope dV kV doc pm an (.ref cda) ct cc), osl⟩) (hcell : K.lookup cc = some ⟨cl, cld, .cell (some (.ref C)), csl⟩) (hcode : K.lookup cda = some ⟨ccl, cdd, .fields vs, ccs⟩) (hvs : vs[2]? = some (.str P.main.file tf))
    (su : ks_superIn K C C "__init__" = some (some (.builtin "ValueError.__init__"))) (ve : subIn K (.ref C) (.type "ValueError") = some true) (mr : mroIn K C (.ref C) = some true) (st : nsIn K cStatics "thirdparty.any" = some none) (mgs : mg "super" = none) (top : (P.main.scope.names.lookup ("super" : Str)).isSome = false)
    (X : K.In hh) (G : hh.Ns mainGlobals mg) (B : ∃ mb, hh.Ns builtinsNs mb ∧ ∀ x : Str, x ≠ "__name__" → mb x = bootBuiltins x) (hL : hh.Ns L m) (hself : m "self" = some (.ref e)) (he : hh.get? e = some (HandSPX.excO C t0))
    (hev : ∀ env : Env, ∃ pl : Sem Bool, eval (.Call (.Attribute (.Call (.Name "super" p0) [] [] p1) "__init__" p2) [.Constant (.str txt) k p3] [] p4) env = (do
      let ov ← attributeBase (.Call (.Name "super" p0) [] [] p1) "__init__" env (eval (.Call (.Name "super" p0) [] [] p1) env)
      standAt p2.atName
      let (f, first) ← holding [ov] (getMethod ov "__init__" pl)
      callWith p4 f first (backTo p4 (starEach [.Constant (.str txt) k p3] env)) []))
    (hp : (params.posonlyargs ++ params.args).head? = some ar) (har : ar.arg = "self") (hks : scope.names.lookup ("super" : Str) = some .globalImplicit) (hkc : scope.names.lookup ("__class__" : Str) = some .free) (hka : scope.names.lookup ("self" : Str) = some .local) (hk : scope.kind = .function)
    (h : ∀ h' t1 tk, (∀ b o, b ≠ e → hh.get? b = some o → h'.get? b = some o) → h'.get? e = some (HandSPX.excO C t1) → hh.objs.size ≤ h'.objs.size → _root_.PySem.wpAt (model P w) A (.func body (ksEnv qual scope L f (.ref cda) cc)) (execs rest (ksEnv qual scope L f (.ref cda) cc)) Q E ⟨h', g, d, tk, os⟩) :
    _root_.PySem.wpAt (model P w) A (.func body (ksEnv qual scope L f (.ref cda) cc)) (execs (.Expr (.Call (.Attribute (.Call (.Name "super" p0) [] [] p1) "__init__" p2) [.Constant (.str txt) k p3] [] p4) p5 :: rest) (ksEnv qual scope L f (.ref cda) cc)) Q E ⟨hh, g, d, t, os⟩ := by
  obtain ⟨nm, q, N, bs, bm, sn, sub, ab, col, dd, k0, k1, k2, k3, k5, hC, hbm⟩ := ox.cls
  obtain ⟨mb, hmb, hbb⟩ := B
  have hcd : clsIn K C = some { name := nm, bases := bs, mro := .ref C :: bm, ns := N, qualname := q, hasDict := true, slotNames := sn, subclasses := sub, abstract := ab, collection := col, hasDel := false } := by unfold clsIn; rw [hC] <;> rfl
  have I : InstAt hh e (HandSPX.excO C t0) C none := ⟨he, rfl, rfl, trivial⟩
  obtain ⟨pl, hev⟩ := hev (ksEnv qual scope L f (.ref cda) cc)
  refine ks_wpAt_execs_cons (ks_wpAt_Expr_any (ks_wpAt_MethodCall (pl := pl) ?_ hev) (by show interactive _ = false; simp [interactive, hk]) rfl)
  refine ks_wpAt_super_base (env := ksEnv qual scope L f (.ref cda) cc) hks hkc (by decide) rfl (X _ _ hf) rfl hp rfl (X _ _ hcode) rfl hvs (by simp) top ?_
  refine ks_loadName_global hk hks (loadGlobal_builtin (env := ksEnv qual scope L f (.ref cda) cc) G mgs hmb ((hbb _ (by decide +kernel)).trans (by decide +kernel)) ⟨rfl, ?_⟩)
  refine wpAny_loadName_free hk hkc rfl ⟨_, X _ _ hcell, rfl⟩ ?_
  rw [har]
  refine wpAny_loadName_local hk hka hL hself ?_
  refine ks_wpAny_isType_cls (X _ _ hC) rfl ⟨rfl, ?_⟩
  refine ks_wpAny_call_super (X _ _ hC) rfl he rfl (fun c z => by cases z) (looks_mroIn X mr) (fun h1 e1 k1 => ?_)
  have X1 : K.In h1 := X.keeps k1
  have I1 : InstAt h1 e (HandSPX.excO C t0) C none := ⟨k1 _ _ he, rfl, rfl, trivial⟩
  unfold ks_superIn at su
  rw [hcd] at su
  refine kxs_getMethod kxs_ValueError (so := hh.objs.size) (D := C) (x := e) (C := C) e1 (looks_opaque X1 st) (l₀ := .ref C :: bm) ?_ rfl X1 su (I1.type.andThen (looks_subIn X1 ve)) (ks_ne X1 I1 hcd) (by decide) ?_
  · exact fun A Q E s k q => wpAny_bind ((looks_clsIn X1 hcd) A _ E s k (wpAny_pure q))
  have hu : (h1.push (kxs_mw "ValueError.__init__" e)).get? h1.objs.size = some (kxs_mw "ValueError.__init__" e) := Heap.get?_push_size _ rfl
  have k2 : ∀ b o, h1.get? b = some o → (h1.push (kxs_mw "ValueError.__init__" e)).get? b = some o := fun b o z => Heap.get?_push_of_some _ z
  refine kxs_callWith (i := "ValueError.__init__") (x := e) rfl ?_
  refine evalArgs_plain (spliced_cons (Calls.Constant_str (k := k) (pos := p3) ?_))
  refine Calls.spliced_nil ⟨hu, ?_⟩
  refine call_mw (t0 := t0) (X1.keeps k2 _ _ hC) (k2 _ _ (k1 _ _ he)) hu (by show 1 ≤ sizeLine; decide) fun h' t1 k3 e3 z3 => ?_
  refine h h' t1 _ (fun b o hb ho => k3 b o hb (k2 _ _ (k1 _ _ ho))) e3 ?_
  have e5 : hh.objs.size < h1.objs.size := Heap.lt_size e1
  rw [Heap.size_push] at z3
  omega
end
open L2 in
/-- no field -/
def spX0 (C : Addr) : L2.Sp := fun vs H Q _ => ∃ e : Addr, vs = [.ref e] ∧ H e = some (L2.exo e C none) ∧ Q .non H
open L2 in
/-- one field -/
def spX1 (C : Addr) (fld : Str) : L2.Sp := fun vs H Q _ => ∃ (e : Addr) (v : V), vs = [.ref e, v] ∧ H e = some (L2.exo e C none) ∧ ∀ dx, H dx = none → dx ≠ e → Q .non (L2.upd (L2.upd H dx (L2.exd dx [(fld, v)])) e (L2.exo e C (some dx)))
section
open L2
variable {P : Program} {w : World} {K : Frag} {mg : Str → Option Value} {C f : Addr} {fd : FuncData} {params : Arguments} {scope : Scope} {base : Heap} {CX : CXT}
theorem ns_keep {h h' : Heap} {L e : Addr} {m : Str → Option Value} (n : h.Ns L m) (ne : L ≠ e) (k : ∀ b o, b ≠ e → h.get? b = some o → h'.get? b = some o) : h'.Ns L m := by
  obtain ⟨o, es, ep, ho, r⟩ := n
  exact ⟨o, es, ep, k _ _ ne ho, r⟩
theorem ns_lt {h : Heap} {L : Addr} {m : Str → Option Value} (n : h.Ns L m) : L < h.objs.size := by
  obtain ⟨o, es, ep, ho, r⟩ := n
  exact Heap.lt_size ho
/-- the tracked things but e, where e's own object has changed -/
theorem un_at {fs : List Addr} {H H' : Hp} {h h' : Heap} {e : Addr} {x : HO} (hx : H e = some x) (k : ∀ b o, b ≠ e → h.get? b = some o → h'.get? b = some o) (he : ∃ o, h'.get? e = some o) (fr : ∀ b o, h.get? b = some o → H b = none → H' b = none)
    (tu : ∀ b xs, H b = some (.tup xs) → H' b = some (.tup xs)) (fz : ∀ b o v, H b = some (.frz o v) → H' b = some (.frz o v)) (tb : ∀ b ps, H b = some (.tbl ps) → H' b = some (.tbl ps)) : Un fs [] H H' h h' where
  keep := fun b o q n _ _ => k b o (fun z => by rw [z, hx] at n; cases n) q
  slot := fun b o q n _ _ => ⟨o.slots, k b o (fun z => by rw [z, hx] at n; cases n) q⟩
  free := fun b o q n _ => fr b o q n
  there := fun b o q _ => by
    by_cases hb : b = e
    · rw [hb]; exact he
    · exact ⟨o, k b o hb q⟩
  tups := tu
  frzs := fz
  tbls := fun b ps q => ⟨#[], by rw [tb b ps q]; simp⟩
theorem xfn0 {txt : Str} {k : Nat} {p0 p1 p2 p3 p4 p5 : Pos} {ar : PySem.Arg} {j : Nat}
    (T : XC P K mg C f fd params [.Expr (.Call (.Attribute (.Call (.Name "super" p0) [] [] p1) "__init__" p2) [.Constant (.str txt) k p3] [] p4) p5] scope)
    (hev : ∀ env : Env, ∃ pl : Sem Bool, eval (.Call (.Attribute (.Call (.Name "super" p0) [] [] p1) "__init__" p2) [.Constant (.str txt) k p3] [] p4) env = (do
      let ov ← attributeBase (.Call (.Name "super" p0) [] [] p1) "__init__" env (eval (.Call (.Name "super" p0) [] [] p1) env)
      standAt p2.atName
      let (f, first) ← holding [ov] (getMethod ov "__init__" pl)
      callWith p4 f first (backTo p4 (starEach [.Constant (.str txt) k p3] env)) []))
    (hp : (params.posonlyargs ++ params.args).head? = some ar) (har : ar.arg = "self") (hks : scope.names.lookup ("super" : Str) = some .globalImplicit) (hkc : scope.names.lookup ("__class__" : Str) = some .free) (hka : scope.names.lookup ("self" : Str) = some .local) (hk : scope.kind = .function)
    (hcell : ∀ x ∈ scope.names, x.2 ≠ .cell) (hco : scope.isCoroutine = false) (hgen : scope.isGenerator = false) : FnOk P w K mg base CX (j + 1) f fd ["self"] (spX0 C) := by
  obtain ⟨qual, kV, doc, pm, ct, oc, an, od, osl, cc, cda, cl, cld, csl, ccl, cdd, vs, ccs, tf, rfl, lk, hcd, hcc, hcda, hvs⟩ := T.fn
  refine ⟨fun vs H Q E h => ?_, fun A outer s H args us vs Q E hr e0 hb r h => ?_⟩
  · obtain ⟨e, rfl, _⟩ := h
    rfl
  · obtain ⟨e, rfl, hx, hq⟩ := h
    cases r with
    | @cons _ u0 _ ur ra rr =>
    cases rr
    obtain rfl : u0 = Value.ref e := ra
    have KX : K.In s.heap := e0.mod.kin.keeps fun b o z => (e0.bs b o z).1
    obtain ⟨t1, he⟩ := exo_at e0.hok hx
    have hel := Heap.lt_size he
    refine ks_codeAny_call_defAt (fd := ksFn "__init__" qual params _ scope .none kV doc pm an (.ref cda) ct cc) (body := _) (binds := (["self"] : List Str).zip [Value.ref e]) (by have := hr.dp; omega) (KX _ _ lk) rfl (e0.mod.nolimit.keeps fun b o z => (e0.bs b o z).1) (codeRec_of KX hcd) rfl hb hcell (fun x hx => ?_) (fun h0 hns hk0 => ?_) hco hgen hk
    · have : x = (("self" : Str), Value.ref e) := by simpa using hx
      subst this
      exact hka
    · obtain ⟨hh, gg, dd, tt, oo⟩ := s
      refine run_super (L := hh.objs.size) (e := e) (t0 := t1) (m := fun x => ((["self"] : List Str).zip [Value.ref e]).reverse.lookup x) T.ox lk hcc hcda hvs T.su T.ve T.mr T.st T.mgs T.top (KX.keeps hk0) (e0.mod.glob.keeps fun b o z => hk0 _ _ (e0.bs b o z).1) ?_ hns rfl (hk0 _ _ he) hev hp har hks hkc hka hk fun h2 t2 tk k2 e2 z2 => ?_
      · obtain ⟨mb, hmb, hbb⟩ := e0.mod.blt
        exact ⟨mb, hmb.keeps fun b o z => hk0 _ _ (e0.bs b o z).1, hbb⟩
      · refine wpAt_of_wpAny (wpAny_execs_nil ?_)
        have kk : ∀ b o, b ≠ e → hh.get? b = some o → h2.get? b = some o := fun b o hb z => k2 b o hb (hk0 _ _ z)
        refine ⟨.non, H, rfl, e0.bare, un_at hx kk ⟨_, e2⟩ (fun _ _ _ z => z) (fun _ _ z => z) (fun _ _ _ z => z) (fun _ _ z => z), fun b o z => ?_, rfl, hq⟩
        by_cases hb : b = e
        · subst hb
          rw [hx] at z
          cases z
          exact exo_ok e2
        · exact (e0.hok b o z).stay (fun c v hc y => kk c v (by
            rcases hc with hc | hc
            · rw [hc]; exact hb
            · exact at_ne hx hc exo_own) y) (fun c hc => hc) (fun c xs hc => hc)
theorem xfn1 {txt fld : Str} {k : Nat} {p0 p1 p2 p3 p4 p5 p6 p7 p8 p9 : Pos} {ar : PySem.Arg} {j : Nat}
    (T : XC P K mg C f fd params [.Expr (.Call (.Attribute (.Call (.Name "super" p0) [] [] p1) "__init__" p2) [.Constant (.str txt) k p3] [] p4) p5, .Assign [.Attribute (.Name "self" p6) fld p7] (.Name fld p8) p9] scope)
    (hev : ∀ env : Env, ∃ pl : Sem Bool, eval (.Call (.Attribute (.Call (.Name "super" p0) [] [] p1) "__init__" p2) [.Constant (.str txt) k p3] [] p4) env = (do
      let ov ← attributeBase (.Call (.Name "super" p0) [] [] p1) "__init__" env (eval (.Call (.Name "super" p0) [] [] p1) env)
      standAt p2.atName
      let (f, first) ← holding [ov] (getMethod ov "__init__" pl)
      callWith p4 f first (backTo p4 (starEach [.Constant (.str txt) k p3] env)) []))
    (hp : (params.posonlyargs ++ params.args).head? = some ar) (har : ar.arg = "self") (hks : scope.names.lookup ("super" : Str) = some .globalImplicit) (hkc : scope.names.lookup ("__class__" : Str) = some .free) (hka : scope.names.lookup ("self" : Str) = some .local) (hkf : scope.names.lookup fld = some .local) (hk : scope.kind = .function)
    (hcell : ∀ x ∈ scope.names, x.2 ≠ .cell) (hco : scope.isCoroutine = false) (hgen : scope.isGenerator = false) (hno : findIn K (.ref C) fld = some none) (hsf : ("self" : Str) ≠ fld) (hdb : (fld == ("__debug__" : Str)) = false) (hsw : ∀ env : Env, swapsWith (.Name fld p8) (some (.Attribute (.Name "self" p6) fld p7)) p9.line env = pure false) :
    FnOk P w K mg base CX (j + 1) f fd ["self", fld] (spX1 C fld) := by
  obtain ⟨qual, kV, doc, pm, ct, oc, an, od, osl, cc, cda, cl, cld, csl, ccl, cdd, vs, ccs, tf, rfl, lk, hcd, hcc, hcda, hvs⟩ := T.fn
  refine ⟨fun vs H Q E h => ?_, fun A outer s H args us vs Q E hr e0 hb r h => ?_⟩
  · obtain ⟨e, v, rfl, _⟩ := h
    rfl
  · obtain ⟨e, v, rfl, hx, hq⟩ := h
    cases r with
    | @cons _ u0 _ ur ra rr =>
    cases rr with
    | @cons _ u1 _ ur rv rr =>
    cases rr
    obtain rfl : u0 = Value.ref e := ra
    have KX : K.In s.heap := e0.mod.kin.keeps fun b o z => (e0.bs b o z).1
    obtain ⟨t1, he⟩ := exo_at e0.hok hx
    have hel := Heap.lt_size he
    refine ks_codeAny_call_defAt (fd := ksFn "__init__" qual params _ scope .none kV doc pm an (.ref cda) ct cc) (body := _) (binds := (["self", fld] : List Str).zip [Value.ref e, u1]) (by have := hr.dp; omega) (KX _ _ lk) rfl (e0.mod.nolimit.keeps fun b o z => (e0.bs b o z).1) (codeRec_of KX hcd) rfl hb hcell (fun x hx => ?_) (fun h0 hns hk0 => ?_) hco hgen hk
    · have : x = (("self" : Str), Value.ref e) ∨ x = (fld, u1) := by simpa using hx
      rcases this with rfl | rfl
      · exact hka
      · exact hkf
    · obtain ⟨hh, gg, dd, tt, oo⟩ := s
      have m1 : ((["self", fld] : List Str).zip [Value.ref e, u1]).reverse.lookup ("self" : Str) = some (.ref e) := by
        show ([(fld, u1), (("self" : Str), Value.ref e)]).lookup ("self" : Str) = some (.ref e)
        have : (("self" : Str) == fld) = false := by simpa using hsf
        simp [List.lookup, this]
      have m2 : ((["self", fld] : List Str).zip [Value.ref e, u1]).reverse.lookup fld = some u1 := by
        show ([(fld, u1), (("self" : Str), Value.ref e)]).lookup fld = some u1
        simp [List.lookup]
      refine run_super (L := hh.objs.size) (e := e) (t0 := t1) (m := fun x => ((["self", fld] : List Str).zip [Value.ref e, u1]).reverse.lookup x) T.ox lk hcc hcda hvs T.su T.ve T.mr T.st T.mgs T.top (KX.keeps hk0) (e0.mod.glob.keeps fun b o z => hk0 _ _ (e0.bs b o z).1) ?_ hns m1 (hk0 _ _ he) hev hp har hks hkc hka hk fun h2 t2 tk k2 e2 z2 => ?_
      · obtain ⟨mb, hmb, hbb⟩ := e0.mod.blt
        exact ⟨mb, hmb.keeps fun b o z => hk0 _ _ (e0.bs b o z).1, hbb⟩
      · have kk : ∀ b o, b ≠ e → hh.get? b = some o → h2.get? b = some o := fun b o hb z => k2 b o hb (hk0 _ _ z)
        have ns2 := ns_keep hns (Ne.symm (Nat.ne_of_lt hel)) k2
        obtain ⟨nm, q, N, bs, bm, sn, sub, ab, col, dd', k0, k1, k2', k3, k5, hC, hbm⟩ := T.ox.cls
        have hcl : clsIn K C = some { name := nm, bases := bs, mro := .ref C :: bm, ns := N, qualname := q, hasDict := true, slotNames := sn, subclasses := sub, abstract := ab, collection := col, hasDel := false } := by unfold clsIn; rw [hC] <;> rfl
        have KC : K.In h2 := fun a o z => by
          refine kk a o (fun y => ?_) (KX a o z)
          subst y
          have y := e0.mod.kin a o z
          have y2 := (e0.bs a o y).2
          rw [hx] at y2
          cases y2
        refine ks_wpAt_execs_cons (ks_wpAt_Assign_Attr (wpAt_of_wpAny (wpAny_Name (wpAny_loadName_local hk hkf ns2 m2 ?_) hdb)) (hsw _))
        refine wpAny_Name (wpAny_loadName_local hk hka ns2 m1 ?_) (by decide)
        refine set_plain KC (ox := HandSPX.excO C t2) (od := none) ⟨e2, rfl, rfl, trivial⟩ T.ox.sa ?_
        refine HandSPX.exc_osa KC e2 hcl (show HandSPX.refsVE (.ref C :: bm) = true from hbm) rfl hno (fun h3 tk3 dx k3 dn dne hx3 hn3 => ?_)
        refine wpAt_of_wpAny (wpAny_execs_nil ?_)
        have nL : hh.objs.size < h0.objs.size := ns_lt hns
        have z5 : hh.objs.size ≤ dx := Nat.le_trans (Nat.le_of_lt nL) (Nat.le_trans z2 dn)
        have hnd : H dx = none := e0.hok.fresh z5
        have kk3 : ∀ b o, b ≠ e → hh.get? b = some o → h3.get? b = some o := fun b o hb z => k3 b o hb (kk b o hb z)
        have nd : ∀ {b : Addr} {o : Obj}, hh.get? b = some o → b ≠ dx := fun {b o} z y => by
          have z6 := Heap.lt_size z
          rw [y] at z6
          exact absurd z6 (Nat.not_lt_of_le z5)
        have na : ∀ {b : Addr}, H b = none → b ≠ e := fun {b} n z => by
          rw [z, hx] at n
          cases n
        refine ⟨.non, _, rfl, e0.bare, un_at hx kk3 ⟨_, hx3⟩ (fun b o z n => by rw [upd_ne (na n), upd_ne (nd z)]; exact n) (fun b xs z => by rw [upd_ne (at_ne hx z exo_tup), upd_ne (ne_of_none z hnd)]; exact z) (fun b o v z => by rw [upd_ne (at_ne hx z exo_frz), upd_ne (ne_of_none z hnd)]; exact z) (fun b ps z => by rw [upd_ne (at_ne hx z exo_tbl), upd_ne (ne_of_none z hnd)]; exact z), fun b o z => ?_, rfl, hq dx hnd dne⟩
        by_cases hb : b = e
        · subst hb
          rw [upd_same] at z
          cases z
          exact exo_ok hx3
        · rw [upd_ne hb] at z
          by_cases hd : b = dx
          · subst hd
            rw [upd_same] at z
            cases z
            exact exd_ok hn3 (relO_put (fs := []) rv fun g => True.intro)
          · rw [upd_ne hd] at z
            exact (e0.hok b o z).stay (fun c v hc y => kk3 c v (by
              rcases hc with hc | hc
              · rw [hc]; exact hb
              · exact at_ne hx hc exo_own) y)
              (fun c hc => by rw [upd_ne (at_ne hx hc exo_own), upd_ne (ne_of_none hc hnd)]; exact hc) (fun c xs hc => by rw [upd_ne (at_ne hx hc exo_tup), upd_ne (ne_of_none hc hnd)]; exact hc)
end
end AM
set_option Elab.async false
set_option linter.all false
set_option maxRecDepth 100000
set_option maxHeartbeats 4000000
namespace AM
open PySem PySem.Spec PyProof.Rows L2 Evl
section
variable {X : Cx} {e : Expr} {es : List Expr} {ta : TA} {p pos : Pos}
theorem mk_endN {pins : List (Addr × Obj)} {σ : L2.St} {H1 H2 : Hp} {Q : XK} {hp hp2 h2 : Heap} {g1 g2 : Array GenState} {d1 d2 : Drawn} {t1 t2 : Nat} {os1 os2 : OsState} {a C : Addr} (T : Raises X (.ref C)) (I1 : Inv X pins σ H1 ⟨hp, g1, d1, t1, os1⟩)
    (ha : hp.objs.size ≤ a) (k : ∀ b o, hp.get? b = some o → hp2.get? b = some o) (un : Un (frs X.stack) [] (upd H1 a (exo a C none)) H2 hp2 h2) (hok : HOk X.prog X.w H2 h2) (ho : os2 = os1) (hb : AllBare g2)
    (ea : H2 a = some (exo a C none)) (q : Q (.ref C) none (del H2 a)) : L2N.MkP X pins σ Q (.ref a) ⟨h2, g2, d2, t2, os2⟩ := by
  obtain ⟨t0, hoe⟩ := exo_at hok ea
  have hn : H1 a = none := I1.hok.fresh ha
  obtain ⟨G, g1', g2'⟩ := restrict h2 fun b => decide (b ≠ a)
  have gk : ∀ b, b ≠ a → G.get? b = h2.get? b := fun b hb => g1' b (decide_eq_true hb)
  have ge : G.get? a = none := g2' a (by simp)
  have nha : ∀ {b : Addr} {o : Obj}, hp.get? b = some o → b ≠ a := fun {b o} z => Nat.ne_of_lt (Nat.lt_of_lt_of_le (Heap.lt_size z) ha)
  have up : ∀ {b : Addr}, b ≠ a → H1 b = none → upd H1 a (exo a C none) b = none := fun {b} hb n => by rw [upd_ne hb]; exact n
  have U : Un (frs X.stack) [] H1 (del H2 a) hp G := {
    keep := fun b o z n hf hx => by
      rw [gk b (nha z)]
      exact un.keep b o (k b o z) (up (nha z) n) hf hx
    slot := fun b o z n hf hx => by
      rw [gk b (nha z)]
      exact un.slot b o (k b o z) (up (nha z) n) hf hx
    free := fun b o z n hx => by
      rw [del_ne (nha z)]
      exact un.free b o (k b o z) (up (nha z) n) hx
    there := fun b o z hx => by
      rw [gk b (nha z)]
      exact un.there b o (k b o z) hx
    tups := fun b xs z => by
      rw [del_ne (ne_of_none z hn)]
      exact un.tups b xs (by rw [upd_ne (ne_of_none z hn)]; exact z)
    frzs := fun b o v z => by
      rw [del_ne (ne_of_none z hn)]
      exact un.frzs b o v (by rw [upd_ne (ne_of_none z hn)]; exact z)
    tbls := fun b ps z => by
      rw [del_ne (ne_of_none z hn)]
      exact un.tbls b ps (by rw [upd_ne (ne_of_none z hn)]; exact z) }
  have hok3 : HOk X.prog X.w (del H2 a) G := fun b o z => by
    have hba : b ≠ a := fun e => by
      rw [e, del_same] at z
      cases z
    rw [del_ne hba] at z
    have noa : ∀ {c : Addr}, H2 c = some (.own b) → c ≠ a := fun {c} hc => at_ne ea hc exo_own
    exact (hok b o z).stay (fun c v hc y => by
        have hca : c ≠ a := by
          rcases hc with hc | hc
          · rw [hc]
            exact hba
          · exact noa hc
        rw [gk c hca]
        exact y)
      (fun c hc => by rw [del_ne (noa hc)]; exact hc) (fun c xs hc => by rw [del_ne (at_ne ea hc exo_tup)]; exact hc)
  have J : Inv X pins σ (del H2 a) ⟨G, g2, d2, t2, os2⟩ := I1.call' (ch := []) ho U hok3 hb (fun b z => absurd z (by simp))
  have kG : ∀ b o, G.get? b = some o → h2.get? b = some o := fun b o z => by
    by_cases hba : b = a
    · rw [hba, ge] at z
      cases z
    · exact (gk b hba).symm.trans z
  exact ⟨a, _, _, ⟨G, g2, d2, t2, os2⟩, _, .ref C, none, rfl, J, kG, ge, hoe, ⟨rfl, rfl, fun vs hv => by cases hv; rfl⟩, rfl, rfl, del_same, rfl, hb, T, q⟩
/-- C() -/
def tMk0 (C : Addr) : L2.St → Hp → XK → Prop := fun σ H Q => Q (.ref C) none H
theorem pmk_oex0 {CX : CXT} {x : Str} {C fI : Addr} {k : Nat} {fd : FuncData} {ps : List Str} (T : OexC X.K C) (iC : PySem.W.findIn X.K (.ref C) "__init__" = some (some (.ref fI))) (tI : PySem.W.typeIn X.K (.ref fI) = some (.type "function"))
    (F1 : FnOk X.prog X.w X.K X.mg X.base CX k fI fd ps (spX0 C)) (hr : Room (k + 1) X.A) (hb : Binds X.K fd ps []) (hx : Passes CX X (fun _ _ _ => False)) (hg : Gl X x) (hm : X.mg x = some (.ref C))
    (hdb : (x == ("__debug__" : Str)) = false := by decide) :
    L2N.PMk X (.Call (.Name x p) [] [] pos) (tMk0 C) := by
  intro pins s σ H Q I h
  obtain ⟨nm, q, N, bs, bm, sn, sub, ab, col, dd, k0, k1, k2, k3, k5, hC, hbm⟩ := T.cls
  refine wpAny_Call_Name_kw (ld_glob I hg hm ?_ hdb)
  refine PySem.W.callWith_K0 I.kIn T.kC ?_
  show wpAny _ _ (call (.ref C) []) _ _ _
  obtain ⟨hp, g, dr, tk, os⟩ := s
  have hsz : hp.objs.size ≤ hp.objs.size + 1 := Nat.le_succ _
  have hn : H (hp.objs.size + 1) = none := I.hok.fresh hsz
  have kk : ∀ b o, hp.get? b = some o → ((hp.push (PySem.W.kdv_tup [])).push (PySem.HandSPX.excO C hp.objs.size)).get? b = some o := fun b o e => Heap.get?_push_of_some _ (Heap.get?_push_of_some _ e)
  have hget : ((hp.push (PySem.W.kdv_tup [])).push (PySem.HandSPX.excO C hp.objs.size)).get? (hp.objs.size + 1) = some (PySem.HandSPX.excO C hp.objs.size) := by heap_get
  have I2 : Inv X pins σ (upd H (hp.objs.size + 1) (exo (hp.objs.size + 1) C none)) ⟨(hp.push (PySem.W.kdv_tup [])).push (PySem.HandSPX.excO C hp.objs.size), g, dr, tk, os⟩ :=
    I.laid (t' := tk) (a := hp.objs.size + 1) (o := exo (hp.objs.size + 1) C none) (h' := (hp.push (PySem.W.kdv_tup [])).push (PySem.HandSPX.excO C hp.objs.size)) kk hsz (exo_ok hget)
  have r2 : Vals [V.ref (hp.objs.size + 1)] [Value.ref (hp.objs.size + 1)] := .cons rfl .nil
  have hq : spX0 C [V.ref (hp.objs.size + 1)] (upd H (hp.objs.size + 1) (exo (hp.objs.size + 1) C none)) (fun v H2 => v = .non ∧ H2 (hp.objs.size + 1) = some (exo (hp.objs.size + 1) C none) ∧ Q (.ref C) none (del H2 (hp.objs.size + 1))) (fun _ _ _ => False) := by
    refine ⟨_, rfl, upd_same, rfl, upd_same, ?_⟩
    have e : del (upd H (hp.objs.size + 1) (exo (hp.objs.size + 1) C none)) (hp.objs.size + 1) = H := by
      funext b
      by_cases hb : b = hp.objs.size + 1
      · rw [hb, del_same, hn]
      · rw [del_ne hb, upd_ne hb]
    rw [e]
    exact h
  have hl : ([Value.ref (hp.objs.size + 1)] ++ [] : List Value).length = ps.length := by
    have e := F1.len _ _ _ _ hq
    exact e
  have bb := hb ⟨(hp.push (PySem.W.kdv_tup [])).push (PySem.HandSPX.excO C hp.objs.size), g, dr, tk, os⟩ [Value.ref (hp.objs.size + 1)] I2.kIn hl
  rw [List.append_nil] at bb
  refine wpAny_call (PySem.HandSPX.call_own F.excBase_ValueError (fun Y => PySem.HandSPX.refsVE_contains Y bm hbm) (I.kIn _ _ hC) (PySem.W.looks_findIn I.kIn iC) (fun self => PySem.W.bind_fn I.kIn self tI) (Nat.zero_le _)
    (codeAny_mono (F1.run _ X.stack _ _ ⟨[Value.ref (hp.objs.size + 1)], []⟩ [Value.ref (hp.objs.size + 1)] _ _ (fun _ _ _ => False) (hr.make C [] []) (I2.env0.make C [] []) bb r2 hq) fun r s' hq' => ?_))
  cases r with
  | error er => exact hx pins σ _ _ er s' I2 hq'
  | ok fl =>
    cases fl with
    | ret u =>
      obtain ⟨v, H2, os2, bare2, un2, hok2, rv, ev, ea, q2⟩ := hq'
      subst ev
      obtain ⟨h2, g2, d2, t2, os'⟩ := s'
      exact ⟨rv, mk_endN (raises_own T.exC T.tyC) I hsz kk un2 hok2 os2 bare2 ea q2⟩
    | next => exact False.elim hq'
    | brk => exact False.elim hq'
    | cont => exact False.elim hq'
/-- C(e, ..) -/
theorem pmk_oex1 {CX : CXT} {x : Str} {C fI : Addr} {k : Nat} {fd : FuncData} {ps : List Str} {sp : Sp} (T : OexC X.K C) (iC : PySem.W.findIn X.K (.ref C) "__init__" = some (some (.ref fI))) (tI : PySem.W.typeIn X.K (.ref fI) = some (.type "function"))
    (F1 : FnOk X.prog X.w X.K X.mg X.base CX k fI fd ps sp) (hr : Room (k + 1) X.A) (hb : Binds X.K fd ps []) (hx : Passes CX X (fun _ _ _ => False)) (hg : Gl X x) (hm : X.mg x = some (.ref C)) (ha : PA X (e :: es) ta)
    (hdb : (x == ("__debug__" : Str)) = false := by decide) (he : starEach (e :: es) X.env = (false, eval e X.env) :: starEach es X.env := by rfl) (hpl : (backTo pos (starEach es X.env)).any (·.1) = false := by rfl) :
    L2N.PMk X (.Call (.Name x p) (e :: es) [] pos) (tMkO C sp [] ta) := by
  intro pins s σ H Q I h
  obtain ⟨nm, q, N, bs, bm, sn, sub, ab, col, dd, k0, k1, k2, k3, k5, hC, hbm⟩ := T.cls
  refine wpAny_Call_Name_kw (ld_glob I hg hm ?_ hdb)
  refine PySem.W.callWith_K (h₀ := X.base) I.ok.mod.kin T.kC (thn (ha.run pos pins s σ H _ I h) fun us s1 ⟨vs, H1, I1, r1, hz, q1⟩ => ⟨I1.kIn, ?_⟩) he hpl
  show wpAny _ _ (call (.ref C) us) _ _ _
  obtain ⟨hp, g, dr, tk, os⟩ := s1
  have hn : H1 (hp.objs.size + 1) = none := I1.hok.fresh (Nat.le_succ _)
  have hq := q1 (hp.objs.size + 1) hn
  rw [List.append_nil] at hq
  have kk : ∀ b o, hp.get? b = some o → ((hp.push (PySem.W.kdv_tup us)).push (PySem.HandSPX.excO C hp.objs.size)).get? b = some o := fun b o e => Heap.get?_push_of_some _ (Heap.get?_push_of_some _ e)
  have I2 : Inv X pins σ (upd H1 (hp.objs.size + 1) (exo (hp.objs.size + 1) C none)) ⟨(hp.push (PySem.W.kdv_tup us)).push (PySem.HandSPX.excO C hp.objs.size), g, dr, tk, os⟩ :=
    I1.laid (t' := tk) (a := hp.objs.size + 1) (o := exo (hp.objs.size + 1) C none) (h' := (hp.push (PySem.W.kdv_tup us)).push (PySem.HandSPX.excO C hp.objs.size)) kk (Nat.le_succ _) (exo_ok (by heap_get))
  have r2 : Vals (V.ref (hp.objs.size + 1) :: vs) (Value.ref (hp.objs.size + 1) :: us) := .cons rfl r1
  have hl : (Value.ref (hp.objs.size + 1) :: us ++ []).length = ps.length := by
    rw [List.append_nil, ← r2.length]
    exact F1.len _ _ _ _ hq
  have hus : us.length ≤ sizeLine := by rw [← Paired.length r1, sizeLine_eq]; omega
  have b2 := hb _ (Value.ref (hp.objs.size + 1) :: us) I2.kIn hl
  rw [List.append_nil] at b2
  refine wpAny_call (PySem.HandSPX.call_own F.excBase_ValueError (fun Y => PySem.HandSPX.refsVE_contains Y bm hbm) (I1.kIn _ _ hC) (PySem.W.looks_findIn I1.kIn iC) (fun self => PySem.W.bind_fn I1.kIn self tI) hus
    (codeAny_mono (F1.run _ X.stack _ _ ⟨Value.ref (hp.objs.size + 1) :: us, []⟩ (Value.ref (hp.objs.size + 1) :: us) _ _ (fun _ _ _ => False) (hr.make C us []) (I2.env0.make C us []) b2 r2 hq) fun r s' hq' => ?_))
  cases r with
  | error er => exact hx pins σ _ _ er s' I2 hq'
  | ok fl =>
    cases fl with
    | ret u =>
      obtain ⟨v, H2, os2, bare2, un2, hok2, rv, ev, d, fs, ea, ed, hd1, q2⟩ := hq'
      subst ev
      obtain ⟨h2, g2, d2, t2, os'⟩ := s'
      obtain ⟨t0, G, J, kG, ge, hoe, na⟩ := mk_end0 (d2 := d2) (t2 := t2) I1 (Nat.le_succ _) kk un2 hok2 os2 bare2 ea ed hd1
      exact ⟨rv, hp.objs.size + 1, _, _, ⟨G, g2, d2, t2, os'⟩, _, .ref C, some d, rfl, J, kG, ge, hoe, ⟨rfl, rfl, fun vs hv => by cases hv; rfl⟩, rfl, rfl, na, rfl, bare2, raises_own T.exC T.tyC, q2⟩
    | _ => exact False.elim hq'
end
/-! ### raise, by data -/
def sRaise0 (c : Str) : AS := fun env st k => k.er ⟨c, none⟩ env st
def sRaise1 (c f : Str) (a : AE) : AS := fun env st k => a env st (fun d s1 => k.er ⟨c, some (f, d)⟩ env s1) (fun e s1 => k.er e env s1)
section
variable {X : Cx} {W : WX} {k j : Nat} {e : Expr} {ae : AE} {c fld : Str} {fI : Addr} {fd : FuncData} {p pos pos' : Pos}
theorem axs_raise0 (C : CxS X W (k + 1)) (T : OexC X.K (He.ga X.K c)) (iC : PySem.W.findIn X.K (.ref (He.ga X.K c)) "__init__" = some (some (.ref fI))) (tI : PySem.W.typeIn X.K (.ref fI) = some (.type "function"))
    (F1 : FnOk X.prog X.w X.K X.mg X.base CX0 k fI fd ["self"] (spX0 (He.ga X.K c))) (hb : Binds X.K fd ["self"] []) (hm : X.mg c = some (.ref (He.ga X.K c))) (hg : Gl X c := by rfl) (hdb : (c == ("__debug__" : Str)) = false := by decide) :
    AXS X W (.Raise (some (.Call (.Name c p) [] [] pos)) none pos') (sRaise0 c) :=
  ⟨_, L2N.ps_raise C.calm C.takes (pmk_oex0 T iC tI F1 C.room hb pass0 hg hm hdb), fun G env st σ H D k s l h t => t.er ⟨c, none⟩ _ _ env σ st G H Post.refl s l ⟨rfl, rfl⟩ h⟩
theorem axs_raise1 (C : CxS X W (k + 1)) (T : OexC X.K (He.ga X.K c)) (iC : PySem.W.findIn X.K (.ref (He.ga X.K c)) "__init__" = some (some (.ref fI))) (tI : PySem.W.typeIn X.K (.ref fI) = some (.type "function"))
    (F1 : FnOk X.prog X.w X.K X.mg X.base CX0 k fI fd ["self", fld] (spX1 (He.ga X.K c) fld)) (hb : Binds X.K fd ["self", fld] []) (hm : X.mg c = some (.ref (He.ga X.K c))) (ha : AX X W e ae) (hg : Gl X c := by rfl) (hdb : (c == ("__debug__" : Str)) = false := by decide)
    (hs : starEach [e] X.env = (false, eval e X.env) :: starEach [] X.env := by rfl) :
    AXS X W (.Raise (some (.Call (.Name c p) [e] [] pos)) none pos') (sRaise1 c fld ae) := by
  obtain ⟨ta, pa, ra⟩ := ha
  refine ⟨_, L2N.ps_raise C.calm C.takes (pmk_oex1 T iC tI F1 C.room hb pass0 hg hm (pa_cons pa pa_nil hs) hdb hs rfl), fun G env st σ H D k s l h t => ?_⟩
  refine ra G env st σ H _ _ _ s l h (fun v d st1 G1 H1 p1 s1 r1 h1 => ?_) (t.x l)
  refine ⟨by show 1 ≤ 1000; decide, fun a hna => ⟨a, v, rfl, upd_same, fun dx hdx ne => ⟨rfl, dx, [(fld, v)], upd_same, ?_, ?_, ?_⟩⟩⟩
  · rw [upd_ne ne, upd_same]
  · rw [upd_ne ne] at hdx; exact hdx
  · have hdx1 : H1 dx = none := by rw [upd_ne ne] at hdx; exact hdx
    have e : upd (del (upd (upd (upd H1 a (exo a (He.ga X.K c) none)) dx (exd dx [(fld, v)])) a (exo a (He.ga X.K c) (some dx))) a) dx (.xd [(fld, v)]) = upd H1 dx (.xd [(fld, v)]) := by
      funext b
      by_cases hb : b = dx
      · rw [hb, upd_same, upd_same]
      · rw [upd_ne hb, upd_ne hb]
        by_cases hba : b = a
        · rw [hba, del_same, hna]
        · rw [del_ne hba, upd_ne hba, upd_ne hb, upd_ne hba]
    rw [e]
    obtain ⟨s2, p2⟩ := s1.new (o := .xd [(fld, v)]) hdx1
    exact t.er ⟨c, some (fld, d)⟩ _ _ env σ st1 _ _ (p1.trans p2) s2 (l.mono (p1.trans p2).le) ⟨rfl, dx, v, rfl, upd_same, r1.mono p2.le⟩ h1
end
end AM
set_option Elab.async false
set_option linter.all false
set_option maxRecDepth 100000
set_option maxHeartbeats 4000000
namespace AM
open PySem PySem.Spec L2 Evl
/-! ### try: body, except h as n: suite -/
/-- what an error of the body meets: xm tells which classes the clause takes -/
def erAs (xm : Str → Option Bool) (i : Nat) (su : Addr → Value → Option Addr → AS) (k : AK) : Er → List A → S → Prop := fun e env st => ∃ b, xm e.cls = some b ∧
  (b = true → ∀ a c dx, su a c dx (env.set i (.exc a c dx e)) st { nx := fun env' s => k.nx (env'.set i .no) s, rt := k.rt, bk := fun env' s => k.bk (env'.set i .no) s, ct := fun env' s => k.ct (env'.set i .no) s, er := fun _ _ _ => False }) ∧
  (b = false → k.er e env st)
def sTryAs (xm : Str → Option Bool) (i : Nat) (b : AS) (su : Addr → Value → Option Addr → AS) : AS := fun env st k => b env st { k with er := erAs xm i su k }
/-- clauses without names -/
def erOnly : List ((Str → Option Bool) × AS) → AK → Er → List A → S → Prop
  | [], k, e, env, st => k.er e env st
  | (xm, su) :: r, k, e, env, st => ∃ b, xm e.cls = some b ∧ (b = true → su env st { k with er := fun _ _ _ => False }) ∧ (b = false → erOnly r k e env st)
def sTryOnly (b : AS) (cs : List ((Str → Option Bool) × AS)) : AS := fun env st k => b env st { k with er := erOnly cs k }
/-- the field of a caught error -/
def aXf (a : Addr) (c : Value) (dx : Option Addr) (cn : Str) (i : Nat) (f : Str) : AE := fun env st q _ => match env[i]? with
  | some (.exc a' c' dx' e) => a' = a ∧ c' = c ∧ dx' = dx ∧ e.cls = cn ∧ ∃ x, e.fld = some (f, x) ∧ q x st
  | _ => False
section
variable {X : Cx} {W : WX} {k : Nat} {x n cn f : Str} {i : Nat} {body suite : List Stmt} {b0 : Stmt} {np pos pos' : Pos} {ab : AS} {xm : Str → Option Bool}
theorem CxS.tr (C : CxS X W k) {W' : WX} {pn : List (Addr × Obj)} {xe : Value → Shared → Prop} (tk : L2N.Takes (X.tr pn xe) W') (po : PassesOwn (model X.prog X.w) X.A X.env xe) : CxS (X.tr pn xe) W' k := ⟨⟨C.calm, C.nd, C.room, tk⟩, po, C.stk, C.frm⟩
theorem axs_tryAs {su : Addr → Value → Option Addr → AS} (C : CxS X W k) (hm : X.mg x = some (.ref (He.ga X.K x))) (hx : ∀ c b, xm c = some b → PySem.W.exmOne X.K (.ref (He.ga X.K c)) (.ref (He.ga X.K x)) = some b)
    (hb : ∀ (W' : WX) (pn : List (Addr × Obj)) (xe : Value → Shared → Prop), CxS (X.tr pn xe) W' k → AXB (X.tr pn xe) W' body ab)
    (hs : ∀ (a : Addr) (oe : Obj) (cls : Value) (d : Option Addr) (pn : List (Addr × Obj)), L2N.Zn cls d oe → (∃ vs, oe.data = .fields vs) → AXB (X.suite a ((a, oe) :: pn)) W0 (b0 :: suite) (su a cls d))
    (hi : X.N[i]? = some n := by rfl) (hln : X.env.kindOf n = some .local := by rfl) (hg : Gl X x := by rfl) (hdb : (x == ("__debug__" : Str)) = false := by decide) :
    AXS X W (.Try body [.ExceptHandler (some (.Name x np)) (some n) (b0 :: suite) pos'] [] [] pos) (sTryAs xm i ab su) := by
  refine ⟨_, L2N.ps_try_as (tb := fun W' => rdS X.K W' ab) (ts := fun a cls d => rdS X.K W0 (su a cls d)) C.stk C.frm C.nd hi hln ⟨hg, hdb, .inl hm⟩ C.takes (fun W' pn xe tk po => (hb W' pn xe (C.tr tk po)).ps) (fun a oe cls d pn hz hf => (hs a oe cls d pn hz hf).ps), fun G env st σ H D kk s l h t => ?_⟩
  refine ⟨G, env, st, _, s, l, h, ⟨t.nx, t.rt, t.bk, t.ct, fun e c dx env' σ' st2 G2 H2 p2 s2 l2 ea he => ?_⟩⟩
  obtain ⟨b, hb1, h1, h2⟩ := he
  refine ⟨b, ?_, fun hbt a ha => ?_, fun hbf => t.er e c dx env' σ' st2 G2 H2 p2 s2 l2 ea (h2 hbf)⟩
  · obtain ⟨rfl, _⟩ := ea
    exact hx _ _ hb1
  · refine ⟨G2, _, st2, _, s2, l2.put i (x := .exc a c dx e) (v := some (.ref a)) ⟨rfl, ea⟩, h1 hbt a c dx, ?_⟩
    exact ⟨fun env4 σ4 st4 G4 H4 p4 s4 l4 h4 => t.nx _ _ st4 G4 H4 (p2.trans p4) s4 (l4.drop i none) h4, (t.on p2).rt,
      fun env4 σ4 st4 G4 H4 p4 s4 l4 h4 => t.bk _ _ st4 G4 H4 (p2.trans p4) s4 (l4.drop i none) h4, fun env4 σ4 st4 G4 H4 p4 s4 l4 h4 => t.ct _ _ st4 G4 H4 (p2.trans p4) s4 (l4.drop i none) h4, fun _ _ _ _ _ _ _ _ _ _ _ _ z => z.elim⟩
/-- the clauses of a try, one by one: which classes each takes, what it does -/
def AXHs (X : Cx) (hds : List ExceptHandler) (cs : List ((Str → Option Bool) × AS)) : Prop := ∃ l, L2N.HdsOk X hds l ∧ ∀ (W : WX) (G : Gh) (H : Hp) (kk : AK) (D : Ends), ThenS X.K W G H kk D → ∀ e c dx env σ st, SS X.K G st H → Sl X.K G env σ → ErAt X.K G e c dx → erOnly cs kk e env st → wMany X.K W D l c dx σ H
theorem axh_nil : AXHs X [] [] := ⟨[], .nil, fun W G H kk D t e c dx env σ st s l ea h => t.er e c dx env σ st G H Post.refl s l ea h⟩
theorem axh_cons {hds : List ExceptHandler} {cs : List ((Str → Option Bool) × AS)} {su : AS} (hm : X.mg x = some (.ref (He.ga X.K x))) (hx : ∀ c b, xm c = some b → PySem.W.exmOne X.K (.ref (He.ga X.K c)) (.ref (He.ga X.K x)) = some b)
    (hs : ∀ (a : Addr) (oe : Obj) (cls : Value) (d : Option Addr) (pn : List (Addr × Obj)), L2N.Zn cls d oe → (∃ vs, oe.data = .fields vs) → AXB (X.suite a ((a, oe) :: pn)) W0 (b0 :: suite) su) (hr : AXHs X hds cs)
    (hg : Gl X x := by rfl) (hdb : (x == ("__debug__" : Str)) = false := by decide) : AXHs X (.ExceptHandler (some (.Name x np)) none (b0 :: suite) pos' :: hds) ((xm, su) :: cs) := by
  obtain ⟨l, hl, hh⟩ := hr
  refine ⟨_, .cons (ts := fun a cls d => rdS X.K W0 su) ⟨hg, hdb, .inl hm⟩ (fun a oe cls d pn hz hf => (hs a oe cls d pn hz hf).ps) hl, fun W G H kk D t e c dx env σ st s sl ea h => ?_⟩
  obtain ⟨b, hb1, h1, h2⟩ := h
  refine ⟨b, ?_, fun hbt a ha => ?_, fun hbf => hh W G H kk D t e c dx env σ st s sl ea (h2 hbf)⟩
  · obtain ⟨rfl, _⟩ := ea
    exact hx _ _ hb1
  · exact ⟨G, _, st, _, s, sl, h1 hbt, ⟨t.nx, t.rt, t.bk, t.ct, fun _ _ _ _ _ _ _ _ _ _ _ _ z => z.elim⟩⟩
theorem axs_tryOnly {h0 : ExceptHandler} {hds : List ExceptHandler} {cs : List ((Str → Option Bool) × AS)} (C : CxS X W k)
    (hb : ∀ (W' : WX) (pn : List (Addr × Obj)) (xe : Value → Shared → Prop), CxS (X.tr pn xe) W' k → AXB (X.tr pn xe) W' body ab) (hh : AXHs X (h0 :: hds) cs) :
    AXS X W (.Try body (h0 :: hds) [] [] pos) (sTryOnly ab cs) := by
  obtain ⟨l, hl, hh⟩ := hh
  refine ⟨_, L2N.ps_try_many (tb := fun W' => rdS X.K W' ab) C.stk C.frm C.takes (fun W' pn xe tk po => (hb W' pn xe (C.tr tk po)).ps) hl, fun G env st σ H D kk s sl h t => ?_⟩
  exact ⟨G, env, st, _, s, sl, h, ⟨t.nx, t.rt, t.bk, t.ct, fun e c dx env' σ' st2 G2 H2 p2 s2 l2 ea he => hh W G2 H2 kk D (t.on p2) e c dx env' σ' st2 s2 l2 ea he⟩⟩
theorem ax_xf {a : Addr} {oe : Obj} {cls : Value} {d : Option Addr} {pn : List (Addr × Obj)} {y : Str} (T : XfC X.K (He.ga X.K cn)) (hno : PySem.W.findIn X.K (.ref (He.ga X.K cn)) f = some none) (hz : L2N.Zn cls d oe) (hf : ∃ vs, oe.data = .fields vs)
    (hN : X.N[i]? = some y := by rfl) (hv : Vis X.env.scope y := by first | exact Or.inl rfl | exact Or.inr (Or.inl rfl)) (hd : (y == ("__debug__" : Str)) = false := by decide) (hcd : (y == ("__classdict__" : Str)) = false := by decide)
    (hb : attributeBase (.Name y np) f X.env (eval (.Name y np) X.env) = eval (.Name y np) X.env := by rfl) : AX (X.suite a ((a, oe) :: pn)) W0 (.Attribute (.Name y np) f pos) (aXf a cls d cn i f) := by
  refine ⟨_, pe_xf T hno hz.zc hf (pe_var (X := X.suite a ((a, oe) :: pn)) (i := i) hN hv hd hcd) hb, fun G env st σ H Q q er s l h tE tX => ?_⟩
  unfold aXf at h
  split at h
  · rename_i a' c' dx' e ee
    obtain ⟨rfl, rfl, rfl, hcn, x, hx, h⟩ := h
    obtain ⟨e1, e2, e3⟩ := l.slot i _ ee
    rw [hx] at e3
    obtain ⟨dd, v, h1, h2, h3⟩ := e3
    refine ⟨.ref a', e1, rfl, by rw [e2, hcn], dd, _, v, h1, s.ex _ _ h2, ?_, tE v x st G H Post.refl s h3 h⟩
    simp [List.lookup]
  · exact h.elim
end
end AM
set_option Elab.async false
set_option linter.all false
set_option maxRecDepth 100000
set_option maxHeartbeats 4000000
namespace AM
open PySem PySem.Spec L2 Evl
/-! ### cells are changed -/
section
variable {K : PySem.W.Frag} {W : WX}
/-- x.append(e) -/
def aApp (o a : AE) : AE := fun env st q er => o env st (fun x s1 => ∃ n l, x = .ref n ∧ s1[n]? = some (.lst l) ∧ a env s1 (fun y s2 => ∃ l, s2[n]? = some (.lst l) ∧ l.length < 100000 ∧ q .non (s2.set n (.lst (l ++ [y])))) er) er
theorem refE_app {to te : TE} {ao ae : AE} (ho : RefE K W to ao) (he : RefE K W te ae) : RefE K W (tBM K "list" rAppend to (tCons te tNil)) (aApp ao ae) := fun G env st σ H Q q er s l h tE tX => by
  refine ho G env st σ H _ _ er s l h (fun v d st1 G1 H1 p1 s1 r1 h1 => ?_) tX
  obtain ⟨n, ls, rfl, hn, h1⟩ := h1
  cases r1 with
  | ref ep =>
    rename_i p
    obtain ⟨vs, gp, hp, rs⟩ := s1.cell n _ p hn ep
    refine ⟨Or.inl ⟨rfl, _, Or.inl (Or.inl hp)⟩, he G1 env st1 σ H1 _ _ er s1 (l.mono p1.le) h1 (fun w d st2 G2 H2 p2 s2 r2 h2 => ?_) (tX.on p1)⟩
    obtain ⟨ls2, hn2, hl, h2⟩ := h2
    obtain ⟨vs2, gp2, hp2, rs2⟩ := s2.cell n _ p hn2 (pre_get p2.le.a ep)
    obtain ⟨s3, p3⟩ := s2.setCell (n := n) (c' := .lst (ls2 ++ [d])) (o := .lst (vs2 ++ [w])) (pre_get p2.le.a ep) gp2 ⟨_, gp2, upd_same, rs2.append (.one r2)⟩
    exact ⟨p, vs2, w, rfl, rfl, hp2, sz_lt (by rw [← rs2.length]; exact hl), tE .non .non _ G2 _ ((p1.trans p2).trans p3) s3 .non h2⟩
/-- x[i] = e: the value first -/
def sSetIx (o b a : AE) : AS := fun env st k => a env st (fun d s1 => o env s1 (fun x s2 => b env s2 (fun j s3 => match x, j with
  | .ref n, .int i => ∃ l j, s3[n]? = some (.lst l) ∧ ixN l.length i = some j ∧ k.nx env (s3.set n (.lst (l.set j d)))
  | _, _ => False) (fun e s => k.er e env s)) (fun e s => k.er e env s)) (fun e s => k.er e env s)
theorem refS_setIx {ta to tb : TE} {aa ao ab : AE} (ha : RefE K W ta aa) (ho : RefE K W to ao) (hb : RefE K W tb ab) : RefS K W (tAsg ta (gSub to tb rSetL)) (sSetIx ao ab aa) := fun G env st σ H D k s l h t => by
  refine ha G env st σ H _ _ _ s l h (fun v d st1 G1 H1 p1 s1 r1 h1 => ?_) (t.x l)
  refine ho G1 env st1 σ H1 _ _ _ s1 (l.mono p1.le) h1 (fun w x st2 G2 H2 p2 s2 r2 h2 => ?_) ((t.x l).on p1)
  refine hb G2 env st2 σ H2 _ _ _ s2 (l.mono (p1.trans p2).le) h2 (fun u j st3 G3 H3 p3 s3 r3 h3 => ?_) ((t.x l).on (p1.trans p2))
  split at h3
  · rename_i n i
    obtain ⟨ls, j, hn, hj, h3⟩ := h3
    cases r2 with
    | ref ep =>
      rename_i p
      cases r3
      have ep3 := pre_get p3.le.a ep
      obtain ⟨vs, gp, hp, rs⟩ := s3.cell n _ p hn ep3
      obtain ⟨s4, p4⟩ := s3.setCell (n := n) (c' := .lst (ls.set j d)) (o := .lst (vs.set j v)) ep3 gp ⟨_, gp, upd_same, rs.set (r1.mono (p2.trans p3).le) j⟩
      exact ⟨p, vs, i, j, rfl, rfl, hp, by rw [← rs.length]; exact hj, t.nx env σ _ G3 _ (((p1.trans p2).trans p3).trans p4) s4 (l.mono (((p1.trans p2).trans p3).trans p4).le) h3⟩
  · exact h3.elim
/-- list(e), fresh -/
def fList (a : AE) : AFr := fun env st q er => a env st (fun d s1 => ∃ l, itemsD (vw s1 d) = some l ∧ q l s1) er
end
section
variable {X : Cx} {W : WX} {k : Nat} {o e a b : Expr} {ao ae ab aa : AE} {p pos apos spos : Pos} {x : Str}
theorem ax_app (ho : AX X W o ao) (he : AX X W e ae) (hbase : attributeBase o "append" X.env (eval o X.env) = eval o X.env := by rfl)
    (hfew : ((backTo pos (starEach [e] X.env)).all (fun x => !x.1) && (backToKw pos (keywordEach [] X.env)).all (fun x => x.1.isSome) && decide (([e] : List Expr).length + ([] : List Keyword).length + (if ([] : List Keyword).isEmpty then 0 else 1) < 30)) = true := by rfl)
    (hline : (apos.endLine == pos.line) = true := by rfl) (hs : starEach [e] X.env = (false, eval e X.env) :: starEach [] X.env := by rfl) : AX X W (.Call (.Attribute o "append" apos) [e] [] pos) (aApp ao ae) := by
  obtain ⟨to, po, ro⟩ := ho
  obtain ⟨te, pe, re⟩ := he
  exact ⟨_, pe_bm PySem.F.plainAttrs_list PySem.F.slot_list_append PySem.F.type_list_append mt_append po (pa_cons pe pa_nil hs) hbase hfew hline hs rfl, refE_app ro re⟩
theorem axs_setIx (ha : AX X W a aa) (ho : AX X W o ao) (hb : AX X W b ab)
    (hg : ∀ v, assign (.Subscript o b spos) X.env v = (do
      let ov ← holding [v] (eval o X.env)
      let iv ← holding [v, ov] (eval b X.env)
      standAt spos
      holding [v, ov, iv] (setItem ov iv v)
      release [v, ov, iv] []) := by intro _; rfl)
    (hs : swapsWithSole [.Subscript o b spos] a pos.line X.env = pure false := by rfl) (hw : swappedStores [.Subscript o b spos] a X.env = pure none := by rfl) (h1 : (assignEach [.Subscript o b spos] X.env).map (·.2) = [assign (.Subscript o b spos) X.env] := by rfl) :
    AXS X W (.Assign [.Subscript o b spos] a pos) (sSetIx ao ab aa) := by
  obtain ⟨ta, pa, ra⟩ := ha
  obtain ⟨to, po, ro⟩ := ho
  obtain ⟨tb, pb, rb⟩ := hb
  exact ⟨_, ps_asg pa (pg_sub po pb set_list hg) hs hw h1, refS_setIx ra ro rb⟩
theorem axf_list (hm : X.mg "list" = none) (ha : AX X W e ae) (hg : Gl X "list" := by rfl) (he : starEach [e] X.env = (false, eval e X.env) :: starEach [] X.env := by rfl) (hpl : (backTo pos (starEach [] X.env)).any (·.1) = false := by rfl) : AXF X W (.Call (.Name "list" p) [e] [] pos) (fList ae) := by
  obtain ⟨ta, pa, ra⟩ := ha
  refine ⟨_, pe_callTy call_list_of hg hm (by decide +kernel) (pa_cons pa pa_nil he) (by decide) (by decide) he hpl, fun G env st σ H Q q er s sl h tF tX => ra G env st σ H _ _ er s sl h (fun v d st1 G1 H1 p1 s1 r1 h1 => ?_) tX⟩
  obtain ⟨l, hl, h1⟩ := h1
  have fin : ∀ {vs : List V}, Reps X.K G1 l vs → ∀ ad, H1 ad = none → Q (.ref ad) (upd H1 ad (.lst vs)) := fun {vs} rs ad hn => by
    obtain ⟨s2, p2, n2, g2⟩ := s1.room (o := .lst vs) hn
    exact tF _ l st1 G1 _ (p1.trans p2) s2 (ResOk.on p1 ⟨ad, vs, rfl, upd_same, g2, n2, hn, rs⟩) h1
  have rv := r1.vw s1
  generalize vw st1 d = d' at hl rv
  cases rv with
  | lst h1 rs => cases hl; exact ⟨_, _, rfl, .inl (SqL.of h1), fin rs⟩
  | tup h1 rs _ => cases hl; exact ⟨_, _, rfl, .inr (SqT.of h1), fin rs⟩
  | _ => cases hl
end
/-! ### a cell's list is frozen, ahead of a piece -/
def sFrz (i : Nat) (a : AS) : AS := fun env st k => ∃ n l, env[i]? = some (.d (.ref n)) ∧ st[n]? = some (.lst l) ∧ a (env.set i (.d (.lst l))) (st.set n .dead) k
theorem refS_frz {K : PySem.W.Frag} {W : WX} {ts : TS} {as : AS} (i : Nat) (h : RefS K W ts as) : RefS K W ts (sFrz i as) := fun G env st σ H D k s l a t => by
  obtain ⟨n, ls, ei, hn, a⟩ := a
  obtain ⟨u, eu, r⟩ := l.slot i _ ei
  cases r with
  | ref ep =>
    obtain ⟨vs, gp, hp, rs⟩ := s.cell n _ _ hn ep
    obtain ⟨s2, p2⟩ := s.freezeCell ep gp hp
    refine h _ _ _ σ H D k s2 ?_ a (t.on p2)
    refine ⟨by rw [List.length_set]; exact l.len, fun j x e => ?_⟩
    rcases get_set e with ⟨rfl, rfl, _⟩ | ⟨hj, e⟩
    · exact ⟨_, eu, .lst upd_same (rs.mono p2.le)⟩
    · exact (l.slot j x e).mono p2.le
theorem axs_frz {X : Cx} {W : WX} {st : Stmt} {as : AS} (i : Nat) (h : AXS X W st as) : AXS X W st (sFrz i as) := by
  obtain ⟨t, p, r⟩ := h
  exact ⟨_, p, refS_frz i r⟩
/-- a slot is forgotten, ahead of a piece -/
def sForget (i : Nat) (a : AS) : AS := fun env st k => a (env.set i .no) st k
theorem axs_forget {X : Cx} {W : WX} {st : Stmt} {as : AS} (i : Nat) (h : AXS X W st as) : AXS X W st (sForget i as) := by
  obtain ⟨t, p, r⟩ := h
  refine ⟨_, p, fun G env st σ H D k s l a t => r G _ st σ H D k s ⟨by rw [List.length_set]; exact l.len, fun j x e => ?_⟩ a t⟩
  rcases get_set e with ⟨rfl, rfl, _⟩ | ⟨hj, e⟩
  · trivial
  · exact l.slot j x e
/-! ### the pool -/
theorem ax_listScr {X : Cx} {W : WX} {p p' pos : Pos} {x : Str} (i : Nat) (hm : X.mg "list" = none) (hN : X.N[i]? = some x := by rfl) (hv : Vis X.env.scope x := by first | exact Or.inl rfl | exact Or.inr (Or.inl rfl)) (hd : (x == ("__debug__" : Str)) = false := by decide) (hcd : (x == ("__classdict__" : Str)) = false := by decide)
    (hg : Gl X "list" := by rfl) (he : starEach [.Name x p'] X.env = (false, eval (.Name x p') X.env) :: starEach [] X.env := by rfl) (hpl : (backTo pos (starEach [] X.env)).any (·.1) = false := by rfl) :
    AX X W (.Call (.Name "list" p) [.Name x p'] [] pos) (fun env st q _ => ∃ ns, env[i]? = some (.d (.scr ns)) ∧ q (.lst (ns.map .int)) st) := by
  refine ⟨_, pe_callTy call_list_of hg hm (by decide +kernel) (pa_cons (pe_var (i := i) hN hv hd hcd) pa_nil he) (by decide) (by decide) he hpl, fun G env st σ H Q q er s sl h tF tX => ?_⟩
  obtain ⟨ns, e, h⟩ := h
  obtain ⟨u, eu, r⟩ := sl.slot i _ e
  cases r with
  | scr hs hl =>
    refine ⟨_, eu, _, _, rfl, .inl (ex_l s.ex hs), fun ad hn => ?_⟩
    obtain ⟨s2, p2⟩ := s.new (o := .lst (ns.map V.int)) hn
    exact tF _ _ st _ _ p2 s2 (.lst upd_same (Reps.ints ns)) h
def aPoolIx (i c : Nat) : AE := fun env st q _ => ∃ n m ns, env[i]? = some (.d (.ref n)) ∧ st[n]? = some (.pool m ns) ∧ match c with
  | 0 => ∀ a : Int, 0 ≤ a → a ≤ m → q (.int a) st
  | 1 => ∀ l : Int, 0 ≤ l → q (.int l) st
  | _ => ns.length ≤ 63 → q (.lst (ns.map .int)) st
theorem ax_poolIx {X : Cx} {W : WX} {c : Nat} {kk : Nat} {p p' pos : Pos} {x : Str} (i : Nat) (hc : c < 3 := by decide) (hN : X.N[i]? = some x := by rfl) (hv : Vis X.env.scope x := by first | exact Or.inl rfl | exact Or.inr (Or.inl rfl)) (hd : (x == ("__debug__" : Str)) = false := by decide) (hcd : (x == ("__classdict__" : Str)) = false := by decide) :
    AX X W (.Subscript (.Name x p) (.Constant (.int (c : Int)) kk p') pos) (aPoolIx i c) := by
  refine ⟨_, pe_ix ix_list (pe_var (i := i) hN hv hd hcd) pe_int (fun _ _ => rfl), fun G env st σ H Q q er s sl h tE tX => ?_⟩
  obtain ⟨n, m, ns, e, hn, h⟩ := h
  obtain ⟨u, eu, r⟩ := sl.slot i _ e
  cases r with
  | ref ep =>
    rename_i a
    obtain ⟨ga, at_, lf, qa, hp, h1, h2, h3, h4, h5⟩ := s.cell n _ a hn ep
    refine ⟨.ref a, eu, ?_⟩
    match c, hc, h with
    | 0, _, h => exact ⟨a, _, 0, .int at_, rfl, rfl, SqL.of hp, rfl, tE _ _ st G H Post.refl s (.int _) (h at_ h1 h2)⟩
    | 1, _, h => exact ⟨a, _, 1, .int lf, rfl, rfl, SqL.of hp, rfl, tE _ _ st G H Post.refl s (.int _) (h lf h3)⟩
    | 2, _, h => exact ⟨a, _, 2, .ref qa, rfl, rfl, SqL.of hp, rfl, tE _ _ st G H Post.refl s (.lst h4 (Reps.ints _)) (h h5)⟩
def sPoolSet (i : Nat) (c : Nat) (a : AE) : AS := fun env st k => a env st (fun d s1 => ∃ n m ns v, env[i]? = some (.d (.ref n)) ∧ s1[n]? = some (.pool m ns) ∧ d = .int v ∧ 0 ≤ v ∧ match c with
  | 0 => k.nx env (s1.set n (.pool (max m v.toNat) ns))
  | _ => k.nx env (s1.set n (.pool m ns))) (fun e s => k.er e env s)
theorem axs_poolSet {X : Cx} {W : WX} {c : Nat} {kk : Nat} {p p' pos spos : Pos} {x : Str} {a : Expr} {ae : AE} (i : Nat) (ha : AX X W a ae) (hc : c < 2 := by decide) (hN : X.N[i]? = some x := by rfl) (hv : Vis X.env.scope x := by first | exact Or.inl rfl | exact Or.inr (Or.inl rfl)) (hd : (x == ("__debug__" : Str)) = false := by decide) (hcd : (x == ("__classdict__" : Str)) = false := by decide)
    (hg : ∀ v, assign (.Subscript (.Name x p) (.Constant (.int (c : Int)) kk p') spos) X.env v = (do
      let ov ← holding [v] (eval (.Name x p) X.env)
      let iv ← holding [v, ov] (eval (.Constant (.int (c : Int)) kk p') X.env)
      standAt spos
      holding [v, ov, iv] (setItem ov iv v)
      release [v, ov, iv] []) := by intro _; rfl)
    (hs : swapsWithSole [.Subscript (.Name x p) (.Constant (.int (c : Int)) kk p') spos] a pos.line X.env = pure false := by rfl) (hw : swappedStores [.Subscript (.Name x p) (.Constant (.int (c : Int)) kk p') spos] a X.env = pure none := by rfl) (h1 : (assignEach [.Subscript (.Name x p) (.Constant (.int (c : Int)) kk p') spos] X.env).map (·.2) = [assign (.Subscript (.Name x p) (.Constant (.int (c : Int)) kk p') spos) X.env] := by rfl) :
    AXS X W (.Assign [.Subscript (.Name x p) (.Constant (.int (c : Int)) kk p') spos] a pos) (sPoolSet i c ae) := by
  obtain ⟨ta, pa, ra⟩ := ha
  refine ⟨_, ps_asg pa (pg_sub (pe_var (i := i) hN hv hd hcd) pe_int set_list hg) hs hw h1, fun G env st σ H D k s l h t => ?_⟩
  refine ra G env st σ H _ _ _ s l h (fun v d st1 G1 H1 p1 s1 r1 h1 => ?_) (t.x l)
  obtain ⟨n, m, ns, w, e, hn, rfl, h0, h1⟩ := h1
  cases r1
  obtain ⟨u, eu, r⟩ := (l.mono p1.le).slot i _ e
  cases r with
  | ref ep =>
    rename_i ad
    obtain ⟨ga, at_, lf, qa, hp, g1, g2, g3, g4, g5⟩ := s1.cell n _ ad hn ep
    refine ⟨.ref ad, eu, ad, _, (c : Int), c, rfl, rfl, hp, ?_, ?_⟩
    · match c, hc with
      | 0, _ => rfl
      | 1, _ => rfl
    · match c, hc, h1 with
      | 0, _, h1 =>
        obtain ⟨s2, p2⟩ := s1.setCell (n := n) (c' := .pool (max m w.toNat) ns) (o := .lst [.int w, .int lf, .ref qa]) ep ga ⟨ga, w, lf, qa, upd_same, h0, by show w ≤ ((max m w.toNat : Nat) : Int); omega, g3, g4, g5⟩
        exact t.nx _ _ _ G1 _ (p1.trans p2) s2 (l.mono (p1.trans p2).le) h1
      | 1, _, h1 =>
        obtain ⟨s2, p2⟩ := s1.setCell (n := n) (c' := .pool m ns) (o := .lst [.int at_, .int w, .ref qa]) ep ga ⟨ga, at_, w, qa, upd_same, g1, g2, h0, g4, g5⟩
        exact t.nx _ _ _ G1 _ (p1.trans p2) s2 (l.mono (p1.trans p2).le) h1
/-- a cell that is a pool's list is a pool from now on -/
theorem SS.pool {K : PySem.W.Frag} {G : Gh} {st : S} {H : Hp} (s : SS K G st H) {n : Nat} {a l : Int} {ns : List Int} (h : st[n]? = some (.lst [.int a, .int l, .lst (ns.map .int)])) (h0 : 0 ≤ a) (h1 : 0 ≤ l) (h2 : ns.length ≤ 63) : SS K G (st.set n (.pool a.toNat ns)) H := by
  refine ⟨s.ex, by rw [List.length_set]; exact s.len, s.nd, fun m c p e1 e2 => ?_⟩
  rcases get_set e1 with ⟨rfl, rfl, _⟩ | ⟨hj, e1⟩
  · obtain ⟨vs, gp, hp, rs⟩ := s.cell m _ p h e2
    match vs, rs with
    | [_, _, _], .cons (.int _) (.cons (.int _) (.cons (.lst hq rq) .nil)) =>
      have : ∀ {ns : List Int} {vs : List V}, Reps K G (ns.map D.int) vs → vs = ns.map V.int := fun {ns} => by
        induction ns with
        | nil => intro vs r; cases r; rfl
        | cons n ns ih =>
          intro vs r
          cases r with
          | cons h r => cases h; rw [ih r]; rfl
      have e := this rq
      subst e
      exact ⟨gp, a, l, _, hp, h0, by omega, h1, hq, h2⟩
  · exact s.cell m c p e1 e2
end AM
set_option Elab.async false
set_option linter.all false
set_option maxRecDepth 100000
set_option maxHeartbeats 4000000
namespace AM
open PySem PySem.Spec L2 Evl
/-! ### a def's data by its place -/
def fdAt (K : PySem.W.Frag) (a : Addr) : FuncData := match K.lookup a with
  | some ⟨_, _, .func fd, _⟩ => fd
  | _ => PySem.W.fnOf "" "" { posonlyargs := [], args := [], vararg := none, kwonlyargs := [], kw_defaults := [], kwarg := none, defaults := [] } [] { kind := .function, names := [], isGenerator := false, isCoroutine := false } .none .none .none .none none .none .none
theorem fdAt_of {K : PySem.W.Frag} {x qual : Str} {params : Arguments} {body : List Stmt} {scope : Scope} {dvs : List V} {kws : List (Str × V)} {f : Addr} {fd : FuncData} (F : FunD K x qual params body scope dvs kws f fd) : FunD K x qual params body scope dvs kws f (fdAt K f) := by
  have e : fdAt K f = fd := by
    obtain ⟨oc, od, dV, kV, doc, pm, an, cdv, ct, osl, _, lk, _⟩ := F.ex
    unfold fdAt
    rw [lk]
  rw [e]
  exact F
theorem XC.binds {P : Program} {K : PySem.W.Frag} {mg : Str → Option Value} {C f : Addr} {fd : FuncData} {params : Arguments} {body : List Stmt} {scope : Scope} {ps : List Str} (T : XC P K mg C f fd params body scope)
    (h : ∀ (qual : Str) (kV doc pm ct : Value) (an : Option Addr) (cda cc : Addr) (us : List Value), us.length = ps.length → bindArgs (PySem.W.ksFn "__init__" qual params body scope .none kV doc pm an (.ref cda) ct cc) ⟨us, []⟩ = pure (ps.zip us)) : Binds K fd ps [] := by
  obtain ⟨qual, kV, doc, pm, ct, oc, an, od, osl, cc, cda, cl, cld, csl, ccl, cdd, vs, ccs, tf, rfl, _⟩ := T.fn
  exact .all (h qual kV doc pm ct an cda cc)
/-! ### a comprehension's scope, looked at once -/
def blkB (N : List Str) (sc scope : Scope) (own : List (Str × Nat)) : Bool := decide (scope.kind = .function) && (scope.names.all (fun y => decide (scope.names.lookup y.1 = some y.2)) && (own.all (fun p => decide (N[p.2]? = some p.1)) &&
  (scope.names.all (fun y => !decide (y.2 = .free) || (decide (sc.names.lookup y.1 = some .cell) || decide (sc.names.lookup y.1 = some .free))) && scope.names.all (fun y => !(decide (y.2 = .local) || decide (y.2 = .cell)) || (decide (y.1 ∈ own.map (·.1)) || !decide (y.1 ∈ N))))))
theorem blk_of {N : List Str} {sc scope : Scope} {own : List (Str × Nat)} (h : blkB N sc scope own = true) : BlkOk N sc scope own := by
  unfold blkB at h
  simp only [Bool.and_eq_true, decide_eq_true_eq, List.all_eq_true, Bool.or_eq_true, Bool.not_eq_true', decide_eq_false_iff_not] at h
  obtain ⟨h1, h2, h3, h4, h5⟩ := h
  refine ⟨h1, fun y hy => h2 y hy, fun p hp => h3 p hp, fun y hy e => ?_, fun y hy e => ?_⟩
  · exact (h4 y hy).resolve_left fun n => n e
  · rcases h5 y hy with n | n
    · rcases e with e | e <;> simp [e] at n
    · exact n
/-! ### a promise may be weakened -/
theorem FnOk.weak {P : Program} {w : World} {K : PySem.W.Frag} {mg : Str → Option Value} {base : Heap} {CX : CXT} {k : Nat} {f : Addr} {fd : FuncData} {ps : List Str} {m m' : AF} (F : FnOk P w K mg base CX k f fd ps (SpA K m)) (h : ∀ args st q er, m' args st q er → m args st q er) : FnOk P w K mg base CX k f fd ps (SpA K m') := by
  have e : ∀ vs H Q E, SpA K m' vs H Q E → SpA K m vs H Q E := fun vs H Q E ⟨G, st, args, q, er, a, b, c, d⟩ => ⟨G, st, args, q, er, a, b, h _ _ _ _ c, d⟩
  exact ⟨fun vs H Q E z => F.len vs H Q E (e _ _ _ _ z), fun A outer s H args us vs Q E h1 h2 h3 h4 z => F.run A outer s H args us vs Q E h1 h2 h3 h4 (e _ _ _ _ z)⟩
/-! ### the law's own def -/
def aPoolNew : AS := sRetF (fLst (aCons (aC (.int 0)) (aCons (aC (.int 0)) (aCons (fun env st q _ => ∃ ns, env[0]? = some (.d (.scr ns)) ∧ q (.lst (ns.map .int)) st) (aNil)))))
def spLaw (K : PySem.W.Frag) : Sp := fun vs H Q _ => ∃ (a : Addr) (ns : List Int), vs = [.ref a] ∧ SqL K H a (ns.map V.int) ∧ ns.length ≤ 63 ∧ ∀ H', Q (.bl true) H'
/-- the end that a law wants -/
def yes : AK := ⟨fun _ _ => False, fun r _ => r = .d (.bl true), fun _ _ => False, fun _ _ => False, fun _ _ _ => False⟩
theorem law_fn {P : Program} {w : World} {K : PySem.W.Frag} {mg : Str → Option Value} {base : Heap} {x qual : Str} {params : Arguments} {st : Stmt} {rest : List Stmt} {scope : Scope} {dvs : List V} {kws : List (Str × V)} {f : Addr} {fd : FuncData} {p1 p2 : Str} {N : List Str} {k : Nat} {as : AS}
    (F : FunD K x qual params (st :: rest) scope dvs kws f fd) (S : FnScope (p1 :: p2 :: N) [p1] scope)
    (hb : ∀ (cdv : Value) (Ar : Around) (outer : List Env) (s : Shared) (H : Hp) (E : XK), CxS (cxOf (L2N.CX P w) P w K mg base (p1 :: p2 :: N) qual scope f cdv Ar outer s H E) (dE E) k → AXS (cxOf (L2N.CX P w) P w K mg base (p1 :: p2 :: N) qual scope f cdv Ar outer s H E) (dE E) st (sCell (fCall (fnP 1 1 aPoolNew) (aCons (aVar 0) aNil) []) 1) ∧ AXB (cxOf (L2N.CX P w) P w K mg base (p1 :: p2 :: N) qual scope f cdv Ar outer s H E) (dE E) rest as)
    (hm : ∀ (ns : List Int), ns.length ≤ 63 → as (.d (.scr ns) :: .d (.ref 0) :: List.replicate N.length .no) [.pool 0 ns] yes) : FnOk P w K mg base (L2N.CX P w) (k + 1) f fd [p1] (spLaw K) := by
  refine F.ok S (fun vs H Q E h => ?_) (fun cdv Ar outer s H vs Q E hr h => ?_)
  · obtain ⟨a, ns, rfl, _⟩ := h
    rfl
  · obtain ⟨a, ns, rfl, hs, hl, hq⟩ := h
    obtain ⟨⟨t1, q1, r1⟩, t2, q2, r2⟩ := hb cdv Ar outer s H E ⟨⟨rfl, S.nd, hr, L2N.takes_of rfl rfl rfl rfl⟩, passes_of rfl, rfl, rfl⟩
    refine ⟨_, pss_cons q1 q2, ?_⟩
    have G0 : ∃ G : Hp, Ex G H ∧ SqL K G a (ns.map V.int) := by
      rcases hs with hs | hs
      · refine ⟨fun b => if b = a then H a else none, fun b o e => ?_, .inl ?_⟩
        · by_cases hb : b = a
          · subst hb; simpa using e
          · simp [hb] at e
        · rcases hs with hs | ⟨o, hs⟩
          · exact .inl (by show (if a = a then H a else none) = _; rw [if_pos rfl]; exact hs)
          · exact .inr ⟨o, by show (if a = a then H a else none) = _; rw [if_pos rfl]; exact hs⟩
      · exact ⟨fun _ => none, fun _ _ e => (by cases e), .inr hs⟩
    obtain ⟨G, gx, gs⟩ := G0
    have e : L2.start (p1 :: p2 :: N) [V.ref a] = [V.ref a].map some ++ List.replicate (N.length + 1) none := by
      unfold L2.start
      rfl
    have ss : SS K ⟨G, []⟩ [] H := ⟨gx, rfl, List.nodup_nil, fun n c p e => by simp at e⟩
    have rr : Reps K ⟨G, []⟩ [.scr ns] [V.ref a] := .one (.scr gs hl)
    rw [e]
    refine r1 ⟨G, []⟩ _ [] _ H _ ⟨fun env st => env = .d (.scr ns) :: .d (.ref 0) :: List.replicate N.length .no ∧ st = [.lst [.int 0, .int 0, .lst (ns.map .int)]], fun _ _ => False, fun _ _ => False, fun _ _ => False, fun _ _ _ => False⟩ ss (rr.sl (N.length + 1)) ?_ ⟨fun env' σ' st2 G2 H2 _ s2 l2 h2 => ?_, fun _ _ _ _ _ _ _ _ z => z.elim, fun _ _ _ _ _ _ _ _ z => z.elim, fun _ _ _ _ _ _ _ _ z => z.elim, fun _ _ _ _ _ _ _ _ _ _ _ _ z => z.elim⟩
    · refine ⟨rfl, ?_⟩
      refine ⟨ns, rfl, ?_⟩
      exact ⟨by show 3 ≤ 100000; decide, rfl, rfl⟩
    · obtain ⟨rfl, rfl⟩ := h2
      have s3 := s2.pool (n := 0) (a := 0) (l := 0) (ns := ns) rfl (by decide) (by decide) hl
      refine r2 G2 _ _ σ' H2 _ yes s3 l2 (hm ns hl) ⟨fun _ _ _ _ _ _ _ _ z => z.elim, fun v r _ _ H3 _ _ r3 h3 => ?_, fun _ _ _ _ _ _ _ _ z => z.elim, fun _ _ _ _ _ _ _ _ z => z.elim, fun _ _ _ _ _ _ _ _ _ _ _ _ z => z.elim⟩
      have h4 : r = .d (.bl true) := h3
      subst h4
      cases r3
      exact hq H3
end AM
set_option Elab.async false
set_option linter.all false
set_option maxRecDepth 100000
set_option maxHeartbeats 4000000
namespace AM
open PySem PySem.Spec L2 Evl
/-! ### f(k = e, ..): keywords alone, every parameter named or filled up -/
/-- the values in the parameters' order: ix tells where each stands among the keywords -/
def pick {α : Type} (ix : List Nat) (l : List α) : List α := ix.filterMap fun i => l[i]?
theorem pick_vals {zs : List V} {ws : List Value} (r : Vals zs ws) : ∀ ix, Vals (pick ix zs) (pick ix ws)
  | [] => .nil
  | i :: ix => by
    have ih := pick_vals r ix
    unfold pick at ih ⊢
    cases h : zs[i]? with
    | some z =>
      obtain ⟨u, hu, rv⟩ := r.get h
      rw [List.filterMap_cons_some h, List.filterMap_cons_some hu]
      exact .cons rv ih
    | none =>
      have hn : ws[i]? = none := by
        rw [List.getElem?_eq_none_iff] at h ⊢
        rw [← r.length]; exact h
      rw [List.filterMap_cons_none h, List.filterMap_cons_none hn]
      exact ih
theorem pick_reps {K : PySem.W.Frag} {G : Gh} : ∀ {ds : List D} {vs : List V} (i : Nat), Reps K G ds vs → (∀ d, ds[i]? = some d → ∃ v, vs[i]? = some v ∧ Rep K G d v) ∧ (ds[i]? = none → vs[i]? = none)
  | [], _, i, .nil => ⟨fun d h => by simp at h, fun _ => by simp⟩
  | d :: ds, v :: vs, 0, .cons r _ => ⟨fun d' h => ⟨v, rfl, by cases h; exact r⟩, fun h => by simp at h⟩
  | d :: ds, v :: vs, i + 1, .cons _ rs => ⟨fun d' h => (pick_reps i rs).1 d' h, fun h => (pick_reps i rs).2 h⟩
theorem pick_rep {K : PySem.W.Frag} {G : Gh} {ds : List D} {vs : List V} (r : Reps K G ds vs) : ∀ ix, Reps K G (pick ix ds) (pick ix vs)
  | [] => .nil
  | i :: ix => by
    have ih := pick_rep r ix
    unfold pick at ih ⊢
    cases h : ds[i]? with
    | some z =>
      obtain ⟨u, hu, rv⟩ := (pick_reps i r).1 z h
      rw [List.filterMap_cons_some h, List.filterMap_cons_some hu]
      exact .cons rv ih
    | none =>
      rw [List.filterMap_cons_none h, List.filterMap_cons_none ((pick_reps i r).2 h)]
      exact ih
def BindsK (K : PySem.W.Frag) (fd : FuncData) (ps ks : List Str) (ix : List Nat) : Prop := ∀ (s : Shared) (ws : List Value), K.In s.heap → ws.length = ks.length → BindsTo s fd ⟨[], ks.zip ws⟩ (ps.zip (pick ix ws))
section
variable {K : PySem.W.Frag} {x qual : Str} {params : Arguments} {body : List Stmt} {scope : Scope} {dvs : List V} {kws : List (Str × V)} {f : Addr} {fd : FuncData} {ps ks : List Str} {ix : List Nat}
/-- with defaults, none of them read -/
theorem bindsK1 (F : FunD K x qual params body scope dvs kws f fd) (hd : dvs ≠ [])
    (h : ∀ (T : Addr) (kV doc pm : Value) (an : Option Addr) (cdv ct : Value) (ws its : List Value), ws.length = ks.length → its.length = dvs.length → ∃ k, bindArgs (PySem.W.fnOf x qual params body scope (.ref T) kV doc pm an cdv ct) ⟨[], ks.zip ws⟩ = seqItems? (.ref T) >>= k ∧ k (some its.toArray) = pure (ps.zip (pick ix ws))) : BindsK K fd ps ks ix := by
  obtain ⟨oc, od, dV, kV, doc, pm, an, cdv, ct, osl, rfl, lk, hcd, hD, hK⟩ := F.ex
  rcases hD with ⟨e, _⟩ | ⟨_, T, o, its, m, rfl, lT, oT, rT⟩
  · exact absurd e hd
  · intro s ws X hl
    obtain ⟨k, e1, e2⟩ := h T kV doc pm an cdv ct ws its hl rT.length.symm
    refine BindsTo.of_looks fun M => ?_
    rw [e1]
    exact looks_items X lT oT (.of_pure e2)
theorem bindsK0 (F : FunD K x qual params body scope [] kws f fd)
    (h : ∀ (kV doc pm : Value) (an : Option Addr) (cdv ct : Value) (ws : List Value), ws.length = ks.length → bindArgs (PySem.W.fnOf x qual params body scope .none kV doc pm an cdv ct) ⟨[], ks.zip ws⟩ = pure (ps.zip (pick ix ws))) : BindsK K fd ps ks ix := by
  obtain ⟨oc, od, dV, kV, doc, pm, an, cdv, ct, osl, rfl, lk, hcd, hD, hK⟩ := F.ex
  rcases hD with ⟨_, rfl⟩ | ⟨e, _⟩
  · exact fun s ws X hl => .of_eq (h kV doc pm an cdv ct ws hl)
  · exact absurd rfl e
end
def tCallK0 (n : Nat) (sp : Sp) (ix : List Nat) (E : L2.St → XK) (tk : TA) : TE := fun σ H Q => tk σ H fun zs H2 => zs.length = n ∧ sp (pick ix zs) H2 Q (E σ)
section
variable {X : Cx} {CX : CXT} {W : WX} {j k : Nat} {f : Addr} {fd : FuncData} {ps ks : List Str} {ix : List Nat} {sp : Sp} {E : L2.St → XK} {x : Str} {p pos : Pos} {kws : List Keyword} {tk : TA}
theorem pe_callK0 (F : FnOk X.prog X.w X.K X.mg X.base CX k f fd ps sp) (hr : Room k X.A) (hg : Gl X x) (hm : X.mg x = some (.ref f)) (hk : PySem.W.keepIn X.K (.ref f) = true) (hb : BindsK X.K fd ps ks ix) (hx : ∀ σ, PassesAt CX X σ (E σ)) (hkw : PK X kws tk)
    (hall : (backToKw pos (keywordEach kws X.env)).all (·.1.isSome) = true := by rfl) (hks : (backToKw pos (keywordEach kws X.env)).filterMap (·.1) = ks := by rfl) (hdb : (x == ("__debug__" : Str)) = false := by decide)
    (hpl : ((backTo pos (starEach [] X.env)).any (·.1) || (backToKw pos (keywordEach kws X.env)).any (·.1.isNone)) = false := by rfl) : PE X (.Call (.Name x p) [] kws pos) (tCallK0 ks.length sp ix E tk) := by
  refine ⟨fun pins s σ H Q I h => ?_⟩
  refine wpAny_Call_Name_kw (ld_glob I hg hm ?_ hdb)
  refine PySem.W.callWith_KW0 (h₀ := X.base) I.ok.mod.kin hk hall (thn (hkw.run pos pins s σ H _ I h) fun ws s2 ⟨zs, H2, I2, rz, l2, q2⟩ => ⟨I2.kIn, ?_⟩) hpl
  rw [hks]
  refine wpAny_call (codeAny_mono (F.run X.A X.stack s2 H2 ⟨[], ks.zip ws⟩ (pick ix ws) (pick ix zs) Q (E σ) hr I2.env0 (hb s2 ws I2.kIn (rz.length.symm.trans l2)) (pick_vals rz ix) q2) fun r s' hq => ?_)
  cases r with
  | error e => exact hx σ pins H2 s2 e s' I2 hq
  | ok fl =>
    cases fl with
    | ret u => exact I2.after hq
    | _ => exact False.elim hq
def AXK (X : Cx) (W : WX) (kws : List Keyword) (aa : AEs) : Prop := ∃ ta, PK X kws ta ∧ RefA X.K W ta aa
theorem axk_nil : AXK X W [] aNil := ⟨_, pk_nil, refA_nil⟩
theorem axk_cons {e : Expr} {aa : AE} {ar : AEs} {nm : Option Str} {kpos : Pos} (ha : AX X W e aa) (hr : AXK X W kws ar) : AXK X W (⟨nm, e, kpos⟩ :: kws) (aCons aa ar) := by
  obtain ⟨t, p, r⟩ := ha
  obtain ⟨t2, p2, r2⟩ := hr
  exact ⟨_, pk_cons p p2, refA_cons r r2⟩
def aCallK (n : Nat) (m : AF) (ix : List Nat) (as : AEs) : AE := fun env st q er => as env st (fun ds s1 => ds.length = n ∧ m (pick ix ds) s1 (fun r s2 => match r with
  | .d d => q d s2
  | .own xs => q (.lst xs) s2
  | .ownD xs => q (.dic xs) s2) er) er
theorem refE_callK {K : PySem.W.Frag} {m : AF} {as : AEs} {n : Nat} (ha : RefA K W tk as) : RefE K W (tCallK0 n (SpA K m) ix (fun σ c d H => W c d σ H) tk) (aCallK n m ix as) := fun G env st σ H Q q er s l h tE tX => by
  refine ha G env st σ H _ _ er s l h (fun vs ds st2 G2 H2 p2 s2 r2 h2 => ?_) tX
  obtain ⟨hl, h2⟩ := h2
  refine ⟨by rw [← r2.length]; exact hl, G2, st2, _, _, er, s2, pick_rep r2 ix, h2, fun v r st3 G3 H3 p3 s3 r3 h3 => ?_, fun e c dx st3 G3 H3 p3 s3 ea h3 => tX e c dx st3 G3 H3 (p2.trans p3) s3 ea h3⟩
  cases r with
  | d x => exact tE v x st3 G3 H3 (p2.trans p3) s3 r3 h3
  | own l =>
    obtain ⟨G4, s4, p4, r4⟩ := own_frz s3 p3 r3
    exact tE v _ st3 G4 H3 (p2.trans p4) s4 r4 h3
  | ownD l =>
    obtain ⟨G4, s4, p4, r4⟩ := ownd_frz s3 p3 r3
    exact tE v _ st3 G4 H3 (p2.trans p4) s4 r4 h3
theorem ax_callK {m : AF} {as : AEs} {C0 : Nat} (C : CxE X W k) (F : FnOk X.prog X.w X.K X.mg X.base (L2N.CX X.prog X.w) j f fd ps (SpA X.K m)) (hm : X.mg x = some (.ref f)) (hk : PySem.W.keepIn X.K (.ref f) = true) (hb : BindsK X.K fd ps ks ix) (ha : AXK X W kws as) (hj : j ≤ k)
    (hg : Gl X x := by rfl) (hall : (backToKw pos (keywordEach kws X.env)).all (·.1.isSome) = true := by rfl) (hks : (backToKw pos (keywordEach kws X.env)).filterMap (·.1) = ks := by rfl) (hdb : (x == ("__debug__" : Str)) = false := by decide)
    (hpl : ((backTo pos (starEach [] X.env)).any (·.1) || (backToKw pos (keywordEach kws X.env)).any (·.1.isNone)) = false := by rfl) : AX X W (.Call (.Name x p) [] kws pos) (aCallK ks.length m ix as) := by
  obtain ⟨t, p, r⟩ := ha
  exact ⟨_, pe_callK0 F (C.room.mono hj) hg hm hk hb (fun σ => L2N.passAt C.takes σ) p hall hks hdb hpl, refE_callK r⟩
end
end AM
set_option Elab.async false
set_option linter.all false
set_option maxRecDepth 100000
set_option maxHeartbeats 4000000
namespace AM
open PySem PySem.Spec L2 Evl
/-! ### defs called within an except suite -/
theorem fn_okH {P : Program} {w : World} {K : PySem.W.Frag} {mg : Str → Option Value} {base : Heap} {x qual : Str} {params : Arguments} {body : List Stmt} {scope : Scope} {dvs : List V} {kws : List (Str × V)} {f : Addr} {fd : FuncData} {N ps : List Str} {k : Nat} {as : AS} {m : AF}
    (F : FunD K x qual params body scope dvs kws f fd) (S : FnScope N ps scope) (L : Leads ps.length N.length as m)
    (hb : ∀ (cdv : Value) (A : Around) (outer : List Env) (s : Shared) (H : Hp) (E : XK) (p : Addr × Obj), AXB (L2H.cxH (L2N.CX P w) P w K mg base N qual scope f cdv A outer s H E p) (dE E) body as) : L2H.FnH P w K mg base (L2N.CX P w) (k + 1) f fd ps (SpA K m) := by
  obtain ⟨oc, od, dV, kV, doc, pm, an, cdv, ct, osl, rfl, lk, hcd, _, _⟩ := F.ex
  refine L2H.fn_ofH lk hcd S (fun vs H Q E h => ?_) (fun A outer s H vs Q E p hot hr h => ?_)
  · obtain ⟨G, st, args, q, er, ss, r, m, _⟩ := h
    rw [← r.length]
    exact L.ar _ _ _ _ m
  · obtain ⟨G, st, args, q, er, ss, r, m, hq, he⟩ := h
    obtain ⟨ts, p1, p2⟩ := hb cdv A outer s H E p
    refine ⟨ts, p1, ?_⟩
    obtain ⟨kk, hk, tk⟩ := L.run ss r m hq he
    have e : L2.start N vs = vs.map some ++ List.replicate (N.length - ps.length) none := by unfold L2.start; rw [← r.length, L.ar _ _ _ _ m]
    rw [e]
    exact p2 G _ st _ H _ kk ss (r.sl _) hk tk
section
variable {X : Cx} {W : WX} {k j : Nat} {x : Str} {p pos : Pos} {e : Expr} {es : List Expr} {aa : AEs} {m : AF} {f : Addr} {fd : FuncData} {ps : List Str} {a : Addr} {oe : Obj} {cls : Value} {d : Option Addr} {pn : List (Addr × Obj)}
theorem ax_callH (C : CxE X W k) (hz : L2N.Zn cls d oe) (hf : ∃ vs, oe.data = .fields vs) (F : L2H.FnH X.prog X.w X.K X.mg X.base (L2N.CX X.prog X.w) j f fd ps (SpA X.K m)) (hm : X.mg x = some (.ref f)) (hk : PySem.W.keepIn X.K (.ref f) = true) (hb : BindsD X.K fd ps []) (ha : AXA (X.suite a ((a, oe) :: pn)) W0 (e :: es) aa) (hj : j ≤ k)
    (hg : Gl X x := by rfl) (hdb : (x == ("__debug__" : Str)) = false := by decide) (he : starEach (e :: es) X.env = (false, eval e X.env) :: starEach es X.env := by rfl) (hpl : (backTo pos (starEach es X.env)).any (·.1) = false := by rfl) : AX (X.suite a ((a, oe) :: pn)) W0 (.Call (.Name x p) (e :: es) [] pos) (aCall m aa []) := by
  obtain ⟨t, pa, r⟩ := ha
  obtain ⟨ds, hv, hb⟩ := hb
  cases hv
  obtain ⟨vs, hvs⟩ := hf
  have hot : L2H.HotC (X.suite a ((a, oe) :: pn)) := ⟨(a, oe), ⟨rfl, vs, hvs, hz.2.2 vs hvs⟩, by simp [Cx.suite]⟩
  have rm : L2H.RoomH j (X.suite a ((a, oe) :: pn)).A := ⟨by have := (C.room.mono hj).dp; exact this, by have := (C.room.mono hj).un; exact this⟩
  refine ⟨_, L2H.pe_callH (X := X.suite a ((a, oe) :: pn)) (E := fun σ c d H => W0 c d σ H) F rm hot hg hm hk hb (fun σ => L2N.passAt (W := W0) takesN0 σ) pa hdb he hpl, fun G env st σ H Q q er s l h tE tX => ?_⟩
  refine r G env st σ H _ _ er s l h (fun vs ds st2 G2 H2 p2 s2 a2 h2 => ?_) tX
  rw [List.append_nil] at h2
  refine ⟨G2, st2, _, _, er, s2, a2, h2, fun v r st3 G3 H3 p3 s3 r3 h3 => ?_, fun e c dx st3 G3 H3 p3 s3 ea h3 => tX e c dx st3 G3 H3 (p2.trans p3) s3 ea h3⟩
  cases r with
  | d x => exact tE v x st3 G3 H3 (p2.trans p3) s3 r3 h3
  | own l =>
    obtain ⟨G4, s4, p4, r4⟩ := own_frz s3 p3 r3
    exact tE v _ st3 G4 H3 (p2.trans p4) s4 r4 h3
  | ownD l =>
    obtain ⟨G4, s4, p4, r4⟩ := ownd_frz s3 p3 r3
    exact tE v _ st3 G4 H3 (p2.trans p4) s4 r4 h3
end
/-! ### == within an except suite: enough that there is room -/
theorem op_EqR {X : Cx} {k : Nat} (r : Room k X.A) {a : Addr} {pn : List (Addr × Obj)} : OpR (X.suite a pn) (compareOp .Eq) (rEqD X.K) ∧ RefO X.K (rEqD X.K) oEq := ⟨op_eqD (by have := u64 r; show X.A.units + _ < _; omega), ref_eq⟩
end AM
set_option Elab.async false
set_option linter.all false
set_option maxRecDepth 100000
set_option maxHeartbeats 4000000
namespace AM
open PySem PySem.Spec PyProof.Rows L2 Evl
/-! ### methods and classes, what is raised at the caller's slots -/
section
variable {X : Cx} {CX : CXT} {k : Nat} {f C : Addr} {fd : FuncData} {ps : List Str} {sp : Sp} {dvs : List V} {ds : List Value} {E : L2.St → XK} {x m : Str} {p pos apos : Pos} {e o : Expr} {es : List Expr} {ta : TE} {t : TA}
def tMethSD (C : Addr) (m : Str) (sp : Sp) (dvs : List V) (E : L2.St → XK) (ta : TE) (t : TA) : TE := fun σ H Q => ta σ H fun x H1 => ∃ a dx fs, x = .ref a ∧ H1 a = some (.ins C dx fs) ∧ fs.lookup m = none ∧ t σ H1 fun vs H2 => sp (x :: (vs ++ dvs)) H2 Q (E σ)
theorem pe_methSD {pl : Sem Bool} (he : PE X o ta) (c : Cls X.K C) (hm : Meth X.K C m f) (F : FnOk X.prog X.w X.K X.mg X.base CX k f fd ps sp) (hr : Room k X.A) (hb : Binds X.K fd ps ds) (hd : Vals dvs ds) (hx : ∀ σ, PassesAt CX X σ (E σ)) (ha : PA X (e :: es) t)
    (hst : starEach (e :: es) X.env = (false, eval e X.env) :: starEach es X.env := by rfl) (hpl : (backTo pos (starEach es X.env)).any (·.1) = false := by rfl)
    (ht : eval (.Call (.Attribute o m apos) (e :: es) [] pos) X.env = (do
      let ov ← eval o X.env
      standAt apos.atName
      let (f, first) ← holding [ov] (getMethod ov m pl)
      callWith pos f first (backTo pos (starEach (e :: es) X.env)) (backToKw pos (keywordEach [] X.env))) := by rfl) :
    PE X (.Call (.Attribute o m apos) (e :: es) [] pos) (tMethSD C m sp dvs E ta t) := by
  refine ⟨fun pins s σ H Q I h => ?_⟩
  refine PySem.W.methodCall_KW (pl := pl) (thn (he.run pins s σ H _ I h) fun u s1 ⟨x, H1, I1, rx, a, dx, fs, ex, ea, l, q⟩ => ?_) ht
  subst ex
  obtain rfl : u = Value.ref a := rx
  refine getmeth_ok I1 ea c hm l ?_
  refine PySem.W.callWith_K (first := [.ref a]) (h₀ := X.base) I.ok.mod.kin hm.kp (thn (ha.run pos pins s1 σ H1 _ I1 q) fun us s2 ⟨vs, H2, I2, r, q2⟩ => ⟨I2.kIn, ?_⟩) hst hpl
  exact run_fnSD (us := .ref a :: us) (vs := .ref a :: vs) F hr hb hd (hx σ) I2 (.cons rfl r) q2
theorem pe_meth0SD {pl : Sem Bool} (he : PE X o ta) (c : Cls X.K C) (hm : Meth X.K C m f) (F : FnOk X.prog X.w X.K X.mg X.base CX k f fd ps sp) (hr : Room k X.A) (hb : Binds X.K fd ps ds) (hd : Vals dvs ds) (hx : ∀ σ, PassesAt CX X σ (E σ))
    (ht : eval (.Call (.Attribute o m apos) [] [] pos) X.env = (do
      let ov ← eval o X.env
      standAt apos.atName
      let (f, first) ← holding [ov] (getMethod ov m pl)
      callWith pos f first (backTo pos (starEach [] X.env)) (backToKw pos (keywordEach [] X.env))) := by rfl) :
    PE X (.Call (.Attribute o m apos) [] [] pos) (tMethSD C m sp dvs E ta tNil) := by
  refine ⟨fun pins s σ H Q I h => ?_⟩
  refine PySem.W.methodCall_KW (pl := pl) (thn (he.run pins s σ H _ I h) fun u s1 ⟨x, H1, I1, rx, a, dx, fs, ex, ea, l, q⟩ => ?_) ht
  subst ex
  obtain rfl : u = Value.ref a := rx
  refine getmeth_ok I1 ea c hm l ?_
  exact PySem.W.callWith_K0 (first := [.ref a]) I1.kIn hm.kp (run_fnSD (us := [.ref a]) (vs := [.ref a]) F hr hb hd (hx σ) I1 (.cons rfl .nil) q)
def tMakeSD (C : Addr) (sp : Sp) (dvs : List V) (E : L2.St → XK) (t : TA) : TE := fun σ H Q => t σ H fun vs H1 => ∀ x dx, H1 x = none → H1 dx = none → dx ≠ x → sp (.ref x :: (vs ++ dvs)) (upd (upd H1 dx (.own x)) x (.ins C dx [])) (fun v H2 => v = .non ∧ Q (.ref x) H2) (E σ)
theorem run_makeSD {pins : List (Addr × Obj)} {σ : L2.St} {H : Hp} {s : Shared} {Q : VK} {us : List Value} {vs : List V} (M : Mk X.K C f) (F : FnOk X.prog X.w X.K X.mg X.base CX k f fd ps sp) (hr : Room (k + 1) X.A) (hb : Binds X.K fd ps ds) (hd : Vals dvs ds)
    (hx : PassesAt CX X σ (E σ)) (I : Inv X pins σ H s) (r : Vals vs us)
    (h : ∀ x dx, H x = none → H dx = none → dx ≠ x → sp (.ref x :: (vs ++ dvs)) (upd (upd H dx (.own x)) x (.ins C dx [])) (fun v H2 => v = .non ∧ Q (.ref x) H2) (E σ)) :
    wpAny (model X.prog X.w) X.A (call (.ref C) us) (EP X pins σ Q) X.xe s := by
  have hq := h (s.heap.objs.size + 1) s.heap.objs.size (I.hok.fresh (Nat.le_succ _)) (I.hok.fresh (Nat.le_refl _)) (Nat.ne_of_lt (Nat.lt_succ_self _))
  have I2 := Inv.made (C := C) I
  have r2 : Vals (V.ref (s.heap.objs.size + 1) :: (vs ++ dvs)) (Value.ref (s.heap.objs.size + 1) :: (us ++ ds)) := .cons rfl (r.append hd)
  have hl : (Value.ref (s.heap.objs.size + 1) :: us ++ ds).length = ps.length := by
    have e := r2.length
    rw [F.len _ _ _ _ hq] at e
    exact e.symm
  refine wpAny_call (make_map (f := f) I.kIn M.makes M.init (beq_iff_eq.mp M.fn) (codeAny_mono (F.run _ X.stack _ _ ⟨Value.ref (s.heap.objs.size + 1) :: us, []⟩ (Value.ref (s.heap.objs.size + 1) :: (us ++ ds)) _ _ (E σ) (hr.make C us [])
    (I2.env0.make C us []) (hb _ (Value.ref (s.heap.objs.size + 1) :: us) I2.kIn hl) r2 hq) fun r s' hq' => ?_))
  cases r with
  | error e => exact hx pins _ _ e s' I2 hq'
  | ok fl =>
    cases fl with
    | ret u =>
      obtain ⟨v, H', I3, rv, ev, q3⟩ := I2.after hq'
      subst ev
      exact ⟨rv, ⟨V.ref (s.heap.objs.size + 1), H', I3, rfl, q3⟩⟩
    | next => exact False.elim hq'
    | brk => exact False.elim hq'
    | cont => exact False.elim hq'
theorem pe_makeSD (M : Mk X.K C f) (F : FnOk X.prog X.w X.K X.mg X.base CX k f fd ps sp) (hr : Room (k + 1) X.A) (hg : Gl X x) (hm : X.mg x = some (.ref C)) (hb : Binds X.K fd ps ds) (hd : Vals dvs ds) (hx : ∀ σ, PassesAt CX X σ (E σ))
    (ha : PA X (e :: es) t) (hdb : (x == ("__debug__" : Str)) = false := by decide) (he : starEach (e :: es) X.env = (false, eval e X.env) :: starEach es X.env := by rfl) (hpl : (backTo pos (starEach es X.env)).any (·.1) = false := by rfl) :
    PE X (.Call (.Name x p) (e :: es) [] pos) (tMakeSD C sp dvs E t) := by
  refine ⟨fun pins s σ H Q I h => ?_⟩
  refine wpAny_Call_Name_kw (ld_glob I hg hm ?_ hdb)
  refine PySem.W.callWith_K (h₀ := X.base) I.ok.mod.kin M.kp (thn (ha.run pos pins s σ H _ I h) fun us s1 ⟨vs, H1, I1, r, q⟩ => ⟨I1.kIn, ?_⟩) he hpl
  exact run_makeSD M F hr hb hd (hx σ) I1 r q
theorem pe_make0SD (M : Mk X.K C f) (F : FnOk X.prog X.w X.K X.mg X.base CX k f fd ps sp) (hr : Room (k + 1) X.A) (hg : Gl X x) (hm : X.mg x = some (.ref C)) (hb : Binds X.K fd ps ds) (hd : Vals dvs ds) (hx : ∀ σ, PassesAt CX X σ (E σ))
    (hdb : (x == ("__debug__" : Str)) = false := by decide) : PE X (.Call (.Name x p) [] [] pos) (tMakeSD C sp dvs E tNil) := by
  refine ⟨fun pins s σ H Q I h => ?_⟩
  refine wpAny_Call_Name_kw (ld_glob I hg hm ?_ hdb)
  exact PySem.W.callWith_K0 I.kIn M.kp (run_makeSD (us := []) M F hr hb hd (hx σ) I .nil h)
end
/-! ### attributes -/
def fldAt (cs : List Str) (f : Str) : D → Option D
  | .obj c fs => if c ∈ cs then fs.lookup f else none
  | _ => none
def aFld (cs : List Str) (f : Str) (a : AE) : AE := fun env st q er => a env st (fun d s1 => ∃ v, fldAt cs f (vw s1 d) = some v ∧ q v s1) er
theorem RepF.look {K : PySem.W.Frag} {G : Gh} {f : Str} {d : D} : ∀ {fs : List (Str × D)} {vs : List (Str × V)}, RepF K G fs vs → fs.lookup f = some d → ∃ v, vs.lookup f = some v ∧ Rep K G d v
  | _, _, .nil, h => by simp at h
  | _, _, .cons (f := g) h r, e => by
    rw [List.lookup_cons] at e ⊢
    cases hg : (f == g) with
    | true => rw [hg] at e; cases e; exact ⟨_, rfl, h⟩
    | false => rw [hg] at e; exact r.look e
theorem RepF.no {K : PySem.W.Frag} {G : Gh} {f : Str} : ∀ {fs : List (Str × D)} {vs : List (Str × V)}, RepF K G fs vs → fs.lookup f = none → vs.lookup f = none
  | _, _, .nil, h => rfl
  | _, _, .cons (f := g) h r, e => by
    rw [List.lookup_cons] at e ⊢
    cases hg : (f == g) with
    | true => rw [hg] at e; cases e
    | false => rw [hg] at e; exact r.no e
theorem RepF.length {K : PySem.W.Frag} {G : Gh} : ∀ {fs : List (Str × D)} {vs : List (Str × V)}, RepF K G fs vs → fs.length = vs.length
  | _, _, .nil => rfl
  | _, _, .cons _ r => congrArg Nat.succ r.length
def putD (f : Str) (v : D) : List (Str × D) → List (Str × D)
  | [] => [(f, v)]
  | (g, x) :: r => if g = f then (g, v) :: r else (g, x) :: putD f v r
theorem RepF.put {K : PySem.W.Frag} {G : Gh} {f : Str} {d : D} {v : V} (h : Rep K G d v) : ∀ {fs : List (Str × D)} {vs : List (Str × V)}, RepF K G fs vs → RepF K G (putD f d fs) (putF f v vs)
  | _, _, .nil => .cons h .nil
  | _, _, .cons (f := g) q r => by
    unfold putD putF
    by_cases hg : g = f
    · rw [if_pos hg, if_pos hg]; exact .cons h r
    · rw [if_neg hg, if_neg hg]; exact .cons q (r.put h)
section
variable {X : Cx} {W : WX} {k j : Nat} {o e value : Expr} {es : List Expr} {f m c x : Str} {p pos pos' apos : Pos} {ao ae av : AE} {aa : AEs} {cs : List Str} {mf : AF} {fa : Addr} {fd : FuncData} {ps : List Str} {dd : List D} {dvs : List V}
theorem ax_fld (ha : AX X W e ae) (hc : ∀ c ∈ cs, Cls X.K (He.ga X.K c) ∧ NoAttr X.K (He.ga X.K c) f) (hb : attributeBase e f X.env (eval e X.env) = eval e X.env := by rfl) : AX X W (.Attribute e f pos) (aFld cs f ae) := by
  obtain ⟨ta, pa, ra⟩ := ha
  refine ⟨_, pe_fld pa hb, fun G env st σ H Q q er s l h tE tX => ra G env st σ H _ _ er s l h (fun v d st1 G1 H1 p1 s1 r1 h1 => ?_) tX⟩
  obtain ⟨u, hu, h1⟩ := h1
  have rv := r1.vw s1
  generalize vw st1 d = d' at hu rv
  cases rv with
  | obj hp rf =>
    rename_i c p dx fs vs
    have hu : (if c ∈ cs then fs.lookup f else none) = some u := hu
    by_cases hcm : c ∈ cs
    · rw [if_pos hcm] at hu
      obtain ⟨w, hw, rw'⟩ := rf.look hu
      exact ⟨p, _, dx, vs, w, rfl, hp, (hc c hcm).1, (hc c hcm).2, hw, tE w u st1 G1 H1 p1 s1 rw' h1⟩
    · rw [if_neg hcm] at hu; cases hu
  | _ => cases hu
/-- o.f = e, o a cell -/
def sFldSet (c f : Str) (ao av : AE) : AS := fun env st k => av env st (fun d s1 => ao env s1 (fun x s2 => ∃ n fs, x = .ref n ∧ s2[n]? = some (.obj c fs) ∧ fs.length < 1000 ∧ k.nx env (s2.set n (.obj c (putD f d fs)))) (fun e s => k.er e env s)) (fun e s => k.er e env s)
theorem axs_fld (ho : AX X W o ao) (hv : AX X W value av) (hc : Cls X.K (He.ga X.K c)) (hn : NoAttr X.K (He.ga X.K c) f) (hs : swapsWith value (some (.Attribute o f pos')) pos.line X.env = pure false := by rfl) : AXS X W (.Assign [.Attribute o f pos'] value pos) (sFldSet c f ao av) := by
  obtain ⟨ta, pa, ra⟩ := ho
  obtain ⟨tv, pv, rv⟩ := hv
  refine ⟨_, ps_fld pa pv hs, fun G env st σ H D k s l h t => ?_⟩
  refine rv G env st σ H _ _ _ s l h (fun v d st1 G1 H1 p1 s1 r1 h1 => ?_) (t.x l)
  refine ra G1 env st1 σ H1 _ _ _ s1 (l.mono p1.le) h1 (fun w x st2 G2 H2 p2 s2 r2 h2 => ?_) ((t.x l).on p1)
  obtain ⟨n, fs, rfl, hcell, hl, h2⟩ := h2
  cases r2 with
  | ref ep =>
    rename_i p
    obtain ⟨dx, vs, gp, hp, rf⟩ := s2.cell n _ p hcell ep
    obtain ⟨s3, p3⟩ := s2.setCell (n := n) (c' := .obj c (putD f d fs)) (o := .ins (He.ga X.K c) dx (putF f v vs)) ep gp ⟨dx, _, gp, upd_same, rf.put (r1.mono p2.le)⟩
    exact ⟨p, _, dx, vs, rfl, hp, hc, hn, by rw [← rf.length]; exact hl, t.nx env σ _ G2 _ ((p1.trans p2).trans p3) s3 (l.mono ((p1.trans p2).trans p3).le) h2⟩
/-! ### methods -/
def isObj (c m : Str) : D → Prop
  | .obj c' fs => c' = c ∧ fs.lookup m = none
  | _ => False
def aMeth (c m : Str) (mf : AF) (a : AE) (args : AEs) (dd : List D) : AE := fun env st q er => a env st (fun d s1 => isObj c m (vw s1 d) ∧ args env s1 (fun ds s2 => mf (d :: (ds ++ dd)) s2 (fun r s3 => match r with
  | .d x => q x s3
  | .own l => q (.lst l) s3
  | .ownD l => q (.dic l) s3) er) er) er
def fMeth (c m : Str) (mf : AF) (a : AE) (args : AEs) (dd : List D) : AFr := fun env st q er => a env st (fun d s1 => isObj c m (vw s1 d) ∧ args env s1 (fun ds s2 => mf (d :: (ds ++ dd)) s2 (fun r s3 => match r with
  | .own l => q l s3
  | _ => False) er) er) er
theorem isObj_at {K : PySem.W.Frag} {G : Gh} {H : Hp} {d : D} {v : V} (r : Rv K G H d v) (h : isObj c m d) : ∃ a dx fs, v = .ref a ∧ H a = some (.ins (He.ga K c) dx fs) ∧ fs.lookup m = none := by
  cases r with
  | obj hp rf =>
    obtain ⟨rfl, h2⟩ := h
    exact ⟨_, _, _, rfl, hp, rf.no h2⟩
  | _ => exact h.elim
theorem refE_meth {K : PySem.W.Frag} {ta : TE} {t : TA} (ha : RefE K W ta ae) (ht : RefA K W t aa) (hd : ∀ G, Reps K G dd dvs) : RefE K W (tMethSD (He.ga K c) m (SpA K mf) dvs (fun σ c d H => W c d σ H) ta t) (aMeth c m mf ae aa dd) := fun G env st σ H Q q er s l h tE tX => by
  refine ha G env st σ H _ _ er s l h (fun v d st1 G1 H1 p1 s1 r1 h1 => ?_) tX
  obtain ⟨a, dx, fs, rfl, hp, hl⟩ := isObj_at (r1.vw s1) h1.1
  refine ⟨a, dx, fs, rfl, hp, hl, ht G1 env st1 σ H1 _ _ er s1 (l.mono p1.le) h1.2 (fun vs ds st2 G2 H2 p2 s2 a2 h2 => ?_) (tX.on p1)⟩
  have p12 := p1.trans p2
  refine ⟨G2, st2, _, _, er, s2, .cons (r1.mono p2.le) (a2.append (hd G2)), h2, fun v r st3 G3 H3 p3 s3 r3 h3 => ?_, fun e c dx st3 G3 H3 p3 s3 ea h3 => tX e c dx st3 G3 H3 (p12.trans p3) s3 ea h3⟩
  cases r with
  | d x => exact tE v x st3 G3 H3 (p12.trans p3) s3 r3 h3
  | own l =>
    obtain ⟨G4, s4, p4, r4⟩ := own_frz s3 p3 r3
    exact tE v _ st3 G4 H3 (p12.trans p4) s4 r4 h3
  | ownD l =>
    obtain ⟨G4, s4, p4, r4⟩ := ownd_frz s3 p3 r3
    exact tE v _ st3 G4 H3 (p12.trans p4) s4 r4 h3
theorem refF_meth {K : PySem.W.Frag} {ta : TE} {t : TA} (ha : RefE K W ta ae) (ht : RefA K W t aa) (hd : ∀ G, Reps K G dd dvs) : RefF K W (tMethSD (He.ga K c) m (SpA K mf) dvs (fun σ c d H => W c d σ H) ta t) (fMeth c m mf ae aa dd) := fun G env st σ H Q q er s l h tE tX => by
  refine ha G env st σ H _ _ er s l h (fun v d st1 G1 H1 p1 s1 r1 h1 => ?_) tX
  obtain ⟨a, dx, fs, rfl, hp, hl⟩ := isObj_at (r1.vw s1) h1.1
  refine ⟨a, dx, fs, rfl, hp, hl, ht G1 env st1 σ H1 _ _ er s1 (l.mono p1.le) h1.2 (fun vs ds st2 G2 H2 p2 s2 a2 h2 => ?_) (tX.on p1)⟩
  have p12 := p1.trans p2
  refine ⟨G2, st2, _, _, er, s2, .cons (r1.mono p2.le) (a2.append (hd G2)), h2, fun v r st3 G3 H3 p3 s3 r3 h3 => ?_, fun e c dx st3 G3 H3 p3 s3 ea h3 => tX e c dx st3 G3 H3 (p12.trans p3) s3 ea h3⟩
  cases r with
  | d x => exact h3.elim
  | ownD l => exact h3.elim
  | own l => exact tE v l st3 G3 H3 (p12.trans p3) s3 (r3.on p12) h3
theorem ax_meth {pl : Sem Bool} (C : CxE X W k) (ha : AX X W o ao) (hc : Cls X.K (He.ga X.K c)) (hm : Meth X.K (He.ga X.K c) m fa) (F : FnOk X.prog X.w X.K X.mg X.base (L2N.CX X.prog X.w) j fa fd ps (SpA X.K mf)) (hb : BindsD X.K fd ps dvs) (hdd : ∀ G, Reps X.K G dd dvs) (hr : AXA X W (e :: es) aa) (hj : j ≤ k)
    (hst : starEach (e :: es) X.env = (false, eval e X.env) :: starEach es X.env := by rfl) (hpl : (backTo pos (starEach es X.env)).any (·.1) = false := by rfl)
    (ht : eval (.Call (.Attribute o m apos) (e :: es) [] pos) X.env = (do
      let ov ← eval o X.env
      standAt apos.atName
      let (f, first) ← holding [ov] (getMethod ov m pl)
      callWith pos f first (backTo pos (starEach (e :: es) X.env)) (backToKw pos (keywordEach [] X.env))) := by rfl) :
    AX X W (.Call (.Attribute o m apos) (e :: es) [] pos) (aMeth c m mf ao aa dd) ∧ AXF X W (.Call (.Attribute o m apos) (e :: es) [] pos) (fMeth c m mf ao aa dd) := by
  obtain ⟨ta, pa, ra⟩ := ha
  obtain ⟨t, pr, rr⟩ := hr
  obtain ⟨ds, hv, hb⟩ := hb
  have q := pe_methSD (pl := pl) (E := fun σ c d H => W c d σ H) pa hc hm F (C.room.mono hj) hb hv (fun σ => L2N.passAt C.takes σ) pr hst hpl ht
  exact ⟨⟨_, q, refE_meth ra rr hdd⟩, _, q, refF_meth ra rr hdd⟩
theorem ax_meth0 {pl : Sem Bool} (C : CxE X W k) (ha : AX X W o ao) (hc : Cls X.K (He.ga X.K c)) (hm : Meth X.K (He.ga X.K c) m fa) (F : FnOk X.prog X.w X.K X.mg X.base (L2N.CX X.prog X.w) j fa fd ps (SpA X.K mf)) (hb : BindsD X.K fd ps dvs) (hdd : ∀ G, Reps X.K G dd dvs) (hj : j ≤ k)
    (ht : eval (.Call (.Attribute o m apos) [] [] pos) X.env = (do
      let ov ← eval o X.env
      standAt apos.atName
      let (f, first) ← holding [ov] (getMethod ov m pl)
      callWith pos f first (backTo pos (starEach [] X.env)) (backToKw pos (keywordEach [] X.env))) := by rfl) :
    AX X W (.Call (.Attribute o m apos) [] [] pos) (aMeth c m mf ao aNil dd) ∧ AXF X W (.Call (.Attribute o m apos) [] [] pos) (fMeth c m mf ao aNil dd) := by
  obtain ⟨ta, pa, ra⟩ := ha
  obtain ⟨ds, hv, hb⟩ := hb
  have q := pe_meth0SD (pl := pl) (E := fun σ c d H => W c d σ H) pa hc hm F (C.room.mono hj) hb hv (fun σ => L2N.passAt C.takes σ) ht
  exact ⟨⟨_, q, refE_meth ra refA_nil hdd⟩, _, q, refF_meth ra refA_nil hdd⟩
/-! ### a class is called -/
/-- the new object is frozen; what its __init__ made beside is left away -/
def aNew (c : Str) (mi : AF) (args : AEs) (dd : List D) : AE := fun env st q er => args env st (fun ds s1 => ltL s1.length ds → ltS s1.length s1 → mi (.ref s1.length :: (ds ++ dd)) (s1 ++ [.obj c []]) (fun r s2 => r = .d .non ∧ ∃ fs, s2[s1.length]? = some (.obj c fs) ∧ ltF s1.length fs ∧ ltS s1.length (s2.take s1.length) ∧ q (.obj c fs) (s2.take s1.length)) (fun e s2 => e.lt s1.length ∧ ltS s1.length (s2.take s1.length) ∧ er e (s2.take s1.length))) er
/-- the new object is a cell -/
def aNewM (c : Str) (mi : AF) (args : AEs) (dd : List D) : AE := fun env st q er => args env st (fun ds s1 => mi (.ref s1.length :: (ds ++ dd)) (s1 ++ [.obj c []]) (fun r s2 => r = .d .non ∧ q (.ref s1.length) s2) er) er
theorem SS.made {K : PySem.W.Frag} {G : Gh} {st : S} {H : Hp} (s : SS K G st H) {x dx : Addr} (hx : H x = none) (hdx : H dx = none) (ne : dx ≠ x) : SS K ⟨G.g, G.as ++ [x]⟩ (st ++ [.obj c []]) (upd (upd H dx (.own x)) x (.ins (He.ga K c) dx [])) ∧ Post G H ⟨G.g, G.as ++ [x]⟩ (upd (upd H dx (.own x)) x (.ins (He.ga K c) dx [])) ∧ (G.as ++ [x])[st.length]? = some x ∧ x ∉ G.as := by
  obtain ⟨s1, p1, _, _⟩ := s.room (o := .own x) hdx
  have hx1 : (upd H dx (.own x)) x = none := by rw [upd_ne (Ne.symm ne)]; exact hx
  obtain ⟨s2, p2, nx, gx⟩ := s1.room (o := .ins (He.ga K c) dx []) hx1
  refine ⟨s2.cellOf nx ⟨dx, [], gx, upd_same, .nil⟩, (p1.trans p2).cellOf hx, ?_, nx⟩
  rw [← s.len, List.getElem?_append_right (Nat.le_refl _), Nat.sub_self]
  rfl
theorem refE_new {K : PySem.W.Frag} {t : TA} (ht : RefA K W t aa) (hd : ∀ G, Reps K G dd dvs) : RefE K W (tMakeSD (He.ga K c) (SpA K mf) dvs (fun σ c d H => W c d σ H) t) (aNew c mf aa dd) := fun G env st σ H Q q er s l h tE tX => by
  refine ht G env st σ H _ _ er s l h (fun vs ds st1 G1 H1 p1 s1 r1 h1 => ?_) tX
  intro x dx hx hdx ne
  obtain ⟨s2, p2, ex, nx⟩ := s1.made (c := c) hx hdx ne
  have ka : G1.as.length = st1.length := s1.len
  have h1 := h1 (by rw [← ka]; exact r1.lt) s1.wf
  refine ⟨_, _, _, _, _, s2, .cons (.ref ex) ((r1.mono p2.le).append (hd _)), h1, fun v r st3 G3 H3 p3 s3 r3 h3 => ?_, fun e c' dx' st3 G3 H3 p3 s3 ea h3 => ?_⟩
  · obtain ⟨rfl, fs, hc, hf, hst, h3⟩ := h3
    cases r3
    refine ⟨rfl, ?_⟩
    have pre : G1.as <+: G3.as := p2.le.a.trans p3.le.a
    obtain ⟨dx', ws, gx, hx3, rf⟩ := s3.cell _ _ x hc (pre_get p3.le.a ex)
    rw [← ka] at hf hst h3
    have s4 := s3.cut pre hst
    obtain ⟨s5, le5⟩ := s4.freeze (o := .ins (He.ga K c) dx' ws) hx3 gx nx
    have p4 : Post G1 H1 ⟨G3.g, G1.as⟩ H3 := (p2.trans p3).cut
    exact tE _ _ _ _ H3 (p1.trans (p4.freeze gx hx)) s5 (.obj upd_same ((rf.cut pre hf).mono le5)) h3
  · obtain ⟨h4, h5, h6⟩ := h3
    rw [← ka] at h4 h5 h6
    have pre : G1.as <+: G3.as := p2.le.a.trans p3.le.a
    exact tX e c' dx' _ _ H3 (p1.trans (p2.trans p3).cut) (s3.cut pre h5) (ea.cut pre h4) h6
theorem refE_newM {K : PySem.W.Frag} {t : TA} (ht : RefA K W t aa) (hd : ∀ G, Reps K G dd dvs) : RefE K W (tMakeSD (He.ga K c) (SpA K mf) dvs (fun σ c d H => W c d σ H) t) (aNewM c mf aa dd) := fun G env st σ H Q q er s l h tE tX => by
  refine ht G env st σ H _ _ er s l h (fun vs ds st1 G1 H1 p1 s1 r1 h1 => ?_) tX
  intro x dx hx hdx ne
  obtain ⟨s2, p2, ex, nx⟩ := s1.made (c := c) hx hdx ne
  refine ⟨_, _, _, _, _, s2, .cons (.ref ex) ((r1.mono p2.le).append (hd _)), h1, fun v r st3 G3 H3 p3 s3 r3 h3 => ?_, fun e c' dx' st3 G3 H3 p3 s3 ea h3 => tX e c' dx' _ _ H3 ((p1.trans p2).trans p3) s3 ea h3⟩
  obtain ⟨rfl, h3⟩ := h3
  cases r3
  exact ⟨rfl, tE _ _ st3 G3 H3 ((p1.trans p2).trans p3) s3 (.ref (pre_get p3.le.a ex)) h3⟩
theorem ax_new (C : CxE X W (k + 1)) (M : Mk X.K (He.ga X.K x) fa) (F : FnOk X.prog X.w X.K X.mg X.base (L2N.CX X.prog X.w) j fa fd ps (SpA X.K mf)) (hm : X.mg x = some (.ref (He.ga X.K x))) (hb : BindsD X.K fd ps dvs) (hdd : ∀ G, Reps X.K G dd dvs) (hr : AXA X W (e :: es) aa) (hj : j ≤ k)
    (hg : Gl X x := by rfl) (hdb : (x == ("__debug__" : Str)) = false := by decide) (he : starEach (e :: es) X.env = (false, eval e X.env) :: starEach es X.env := by rfl) (hpl : (backTo pos (starEach es X.env)).any (·.1) = false := by rfl) :
    AX X W (.Call (.Name x p) (e :: es) [] pos) (aNew x mf aa dd) ∧ AX X W (.Call (.Name x p) (e :: es) [] pos) (aNewM x mf aa dd) := by
  obtain ⟨t, pr, rr⟩ := hr
  obtain ⟨ds, hv, hb⟩ := hb
  have q := pe_makeSD (E := fun σ c d H => W c d σ H) (p := p) (pos := pos) M F (C.room.mono (by omega)) hg hm hb hv (fun σ => L2N.passAt C.takes σ) pr hdb he hpl
  exact ⟨⟨_, q, refE_new rr hdd⟩, _, q, refE_newM rr hdd⟩
end
end AM
set_option Elab.async false
set_option linter.all false
set_option maxRecDepth 100000
set_option maxHeartbeats 4000000
namespace AM
open PySem PySem.Spec PyProof.Rows L2 Evl
/-! ### methods that signs stand for -/
section
variable {X : Cx} {CX : CXT} {k : Nat} {f C : Addr} {fd : FuncData} {ps : List Str} {sp : Sp} {E : L2.St → XK} {a b : Expr} {ta tb : TE} {pos : Pos}
theorem run_fnAt {A' : Around} {pins : List (Addr × Obj)} {σ : L2.St} {H : Hp} {s : Shared} {Q : VK} {us : List Value} {vs : List V} (F : FnOk X.prog X.w X.K X.mg X.base CX k f fd ps sp) (hr : Room k A') (hfr : A'.frames = X.A.frames) (hb : Binds X.K fd ps []) (hx : PassesAt CX X σ (E σ))
    (I : Inv X pins σ H s) (r : Vals vs us) (h : sp vs H Q (E σ)) : wpAny (model X.prog X.w) A' (call (.ref f) us) (EP X pins σ Q) X.xe s := by
  have hl : us.length = ps.length := by rw [← r.length]; exact F.len _ _ _ _ h
  have e0 : Env0 X.prog X.w X.K X.mg X.base A' X.stack s H := by
    have e := I.env0
    exact ⟨by rw [hfr]; exact e.frames, e.mod, e.bs, e.bsz, e.funs, e.frf, e.hok, e.bare⟩
  have b := hb s us I.kIn (by rw [List.append_nil]; exact hl)
  rw [List.append_nil] at b
  refine wpAny_call (codeAny_mono (F.run A' X.stack s H ⟨us, []⟩ us vs Q (E σ) hr e0 b r h) fun r s' hq => ?_)
  cases r with
  | error e => exact hx pins H s e s' I hq
  | ok fl =>
    cases fl with
    | ret u => exact I.after hq
    | next => exact False.elim hq
    | brk => exact False.elim hq
    | cont => exact False.elim hq
/-- what comes back is no NotImplemented -/
theorem back_ok {pins : List (Addr × Obj)} {σ : L2.St} {Q : VK} {u : Value} {s : Shared} (h : EP X pins σ Q u s) : PySem.W.CmpBack (EP X pins σ Q) u s := by
  obtain ⟨v, H, I, r, q⟩ := h
  have h' : EP X pins σ Q u s := ⟨v, H, I, r, q⟩
  cases v with
  | non => cases r; exact h'
  | bl b => cases r; exact h'
  | int i => obtain ⟨t, rfl⟩ := r; exact h'
  | str i => obtain ⟨t, rfl⟩ := r; exact h'
  | byt i => obtain ⟨t, rfl⟩ := r; exact h'
  | flt i => obtain ⟨t, rfl⟩ := r; exact h'
  | ref a => cases r; exact h'
  | ty n => cases r; exact h'
/-- x's own method on x and y; P what is asked of y -/
def tOwn2 (C : Addr) (sp : Sp) (E : L2.St → XK) (P : V → Hp → Prop) (ta tb : TE) : TE := fun σ H Q => ta σ H fun x H1 => tb σ H1 fun y H2 => ∃ p dx fs, x = .ref p ∧ H2 p = some (.ins C dx fs) ∧ P y H2 ∧ sp [x, y] H2 Q (E σ)
def tOwn1 (C : Addr) (sp : Sp) (E : L2.St → XK) (ta : TE) : TE := fun σ H Q => ta σ H fun x H1 => ∃ p dx fs, x = .ref p ∧ H1 p = some (.ins C dx fs) ∧ sp [x] H1 Q (E σ)
def tOwnIn (C : Addr) (neg : Bool) (sp : Sp) (E : L2.St → XK) (ta tb : TE) : TE := fun σ H Q => ta σ H fun x H1 => tb σ H1 fun y H2 => ∃ p dx fs, y = .ref p ∧ H2 p = some (.ins C dx fs) ∧ sp [y, x] H2 (fun v H3 => ∃ b, v = .bl b ∧ Q (.bl (b != neg)) H3) (E σ)
def PAny : V → Hp → Prop := fun _ _ => True
def PIns (C : Addr) : V → Hp → Prop := fun y H => ∃ p dx fs, y = .ref p ∧ H p = some (.ins C dx fs)
def PInt : V → Hp → Prop := fun y _ => ∃ i, y = .int i
theorem pe_subO (F : FnOk X.prog X.w X.K X.mg X.base CX k f fd ps sp) (hr : Room (k + 1) X.A) (hs : PySem.W.findIn X.K (.ref C) "__getitem__" = some (some (.ref f))) (hf : PySem.W.fnIn X.K f = true) (hfn : PySem.W.isFn X.K (.ref f) = true) (hb : Binds X.K fd ps []) (hx : ∀ σ, PassesAt CX X σ (E σ)) (ha : PE X a ta) (hi : PE X b tb)
    (hsl : ∀ x i, subscripted b true x i = runValue (.builtin "lifetime.subscript" ⟨[x, i], []⟩) := by intro _ _; with_unfolding_all rfl) : PE X (.Subscript a b pos) (tOwn2 C sp E PAny ta tb) := by
  refine ⟨fun pins s σ H Q I h => ?_⟩
  refine Subscript_ (binT ha hi I h fun v u s2 x y H2 I2 rx ry q => ?_)
  obtain ⟨p, dx, fs, rfl, hp, _, q⟩ := q
  obtain rfl : v = Value.ref p := rx
  obtain ⟨mA, J, _⟩ := ins_get I2.hok hp
  obtain ⟨od, J, _⟩ := J.look
  obtain ⟨m, hF⟩ := I2.fr
  exact PySem.W.sub_K hF I2.ok.mod.kin J hs hf hfn (run_fnAt F hr.in1 rfl hb (hx σ) I2 (vs := [V.ref p, y]) (us := [Value.ref p, u]) (.cons (show RelV (.ref p) (.ref p) from rfl) (.cons ry .nil)) q) (hsl _ _)
theorem pe_addO {op : Operator} (F : FnOk X.prog X.w X.K X.mg X.base CX k f fd ps sp) (hr : Room k X.A) (hc : PySem.W.selfFirst X.K C = true) (hs : PySem.W.findIn X.K (.ref C) (PySem.dunder op.info.2) = some (some (.ref f))) (hfn : PySem.W.isFn X.K (.ref f) = true) (hb : Binds X.K fd ps []) (hx : ∀ σ, PassesAt CX X σ (E σ)) (ha : PE X a ta) (hi : PE X b tb) :
    PE X (.BinOp a op b pos) (tOwn2 C sp E (PIns C) ta tb) := by
  refine ⟨fun pins s σ H Q I h => ?_⟩
  refine wpAny_BinOp (binT ha hi I h fun v u s2 x y H2 I2 rx ry q => ?_)
  obtain ⟨p, dx, fs, rfl, hp, ⟨p', dx', fs', rfl, hp'⟩, q⟩ := q
  obtain rfl : v = Value.ref p := rx
  obtain rfl : u = Value.ref p' := ry
  obtain ⟨mA, J, _⟩ := ins_get I2.hok hp
  obtain ⟨od, J, _⟩ := J.look
  obtain ⟨mA', J', _⟩ := ins_get I2.hok hp'
  obtain ⟨od', J', _⟩ := J'.look
  obtain ⟨m, hF⟩ := I2.fr
  exact PySem.W.binop_K hF I2.ok.mod.kin J J'.type hc hs hfn (wpAny_mono (run_fnAt F hr rfl hb (hx σ) I2 (vs := [V.ref p, .ref p']) (us := [Value.ref p, .ref p']) (.cons (show RelV (.ref p) (.ref p) from rfl) (.cons (show RelV (.ref p') (.ref p') from rfl) .nil)) q) (fun _ _ z => back_ok z) fun _ _ z => z)
theorem pe_mulO {op : Operator} {fo ro rc : Option Value} (F : FnOk X.prog X.w X.K X.mg X.base CX k f fd ps sp) (hr : Room k X.A) (hc : PySem.W.selfFirst X.K C = true) (hs : PySem.W.findIn X.K (.ref C) (PySem.dunder op.info.2) = some (some (.ref f))) (hfn : PySem.W.isFn X.K (.ref f) = true) (hrr : PySem.W.findIn X.K (.ref C) (dunderR op.info.2) = some rc) (hp : rc = none ∨ ∃ g : Addr, rc = some (.ref g))
    (h1 : PySem.W.findIn X.K (.type "int") (PySem.dunder op.info.2) = some fo) (h2 : PySem.W.findIn X.K (.type "int") (dunderR op.info.2) = some ro) (hsub : PySem.W.subIn X.K (.type "int") (.ref C) = some false) (hb : Binds X.K fd ps []) (hx : ∀ σ, PassesAt CX X σ (E σ)) (ha : PE X a ta) (hi : PE X b tb) :
    PE X (.BinOp a op b pos) (tOwn2 C sp E PInt ta tb) := by
  refine ⟨fun pins s σ H Q I h => ?_⟩
  refine wpAny_BinOp (binT ha hi I h fun v u s2 x y H2 I2 rx ry q => ?_)
  obtain ⟨p, dx, fs, rfl, hp', ⟨i, rfl⟩, q⟩ := q
  obtain rfl : v = Value.ref p := rx
  obtain ⟨t, rfl⟩ := ry
  obtain ⟨mA, J, _⟩ := ins_get I2.hok hp'
  obtain ⟨od, J, _⟩ := J.look
  obtain ⟨m, hF⟩ := I2.fr
  exact PySem.W.ksp_binT hF I2.ok.mod.kin J rfl hc hs hfn hrr hp h1 h2 hsub (wpAny_mono (run_fnAt F hr rfl hb (hx σ) I2 (vs := [V.ref p, .int i]) (us := [Value.ref p, .int i t]) (.cons (show RelV (.ref p) (.ref p) from rfl) (.cons ⟨t, rfl⟩ .nil)) q) (fun _ _ z => back_ok z) fun _ _ z => z)
theorem pe_negO (F : FnOk X.prog X.w X.K X.mg X.base CX k f fd ps sp) (hr : Room k X.A) (hs : PySem.W.findIn X.K (.ref C) "__neg__" = some (some (.ref f))) (hfn : PySem.W.isFn X.K (.ref f) = true) (hb : Binds X.K fd ps []) (hx : ∀ σ, PassesAt CX X σ (E σ)) (ha : PE X a ta) : PE X (.UnaryOp .USub a pos) (tOwn1 C sp E ta) := by
  refine ⟨fun pins s σ H Q I h => ?_⟩
  refine UnaryOp_ (thn (ha.run pins s σ H _ I h) fun v s1 ⟨x, H1, I1, r1, q1⟩ => ?_)
  obtain ⟨p, dx, fs, rfl, hp, q⟩ := q1
  obtain rfl : v = Value.ref p := r1
  obtain ⟨mA, J, _⟩ := ins_get I1.hok hp
  obtain ⟨od, J, _⟩ := J.look
  obtain ⟨m, hF⟩ := I1.fr
  exact PySem.W.ksp_neg hF I1.ok.mod.kin J hs hfn (run_fnAt F hr rfl hb (hx σ) I1 (vs := [V.ref p]) (us := [Value.ref p]) (.cons (show RelV (.ref p) (.ref p) from rfl) .nil) q)
/-- x == y, both of one class; y a list -/
theorem pe_eqO (F : FnOk X.prog X.w X.K X.mg X.base CX k f fd ps sp) (hr : Room k X.A) (hn : PySem.W.notFirst X.K C (.ref C) = true) (hs : PySem.W.findIn X.K (.ref C) "__eq__" = some (some (.ref f))) (hfn : PySem.W.isFn X.K (.ref f) = true) (hb : Binds X.K fd ps []) (hx : ∀ σ, PassesAt CX X σ (E σ)) (ha : PE X a ta) (hi : PE X b tb) :
    PC X .Eq a b (tOwn2 C sp E (PIns C) ta tb) := by
  refine ⟨fun pins s σ H Q I h => ?_⟩
  refine binT ha hi I h fun v u s2 x y H2 I2 rx ry q => ?_
  obtain ⟨p, dx, fs, rfl, hp, ⟨p', dx', fs', rfl, hp'⟩, q⟩ := q
  obtain rfl : v = Value.ref p := rx
  obtain rfl : u = Value.ref p' := ry
  obtain ⟨mA, J, _⟩ := ins_get I2.hok hp
  obtain ⟨od, J, _⟩ := J.look
  obtain ⟨mA', J', _⟩ := ins_get I2.hok hp'
  obtain ⟨od', J', _⟩ := J'.look
  obtain ⟨m, hF⟩ := I2.fr
  exact PySem.W.cmp_K (op := .Eq) (by have := u64 hr; omega) hF I2.ok.mod.kin J J'.type hn hs hfn (wpAny_mono (run_fnAt F hr rfl hb (hx σ) I2 (vs := [V.ref p, .ref p']) (us := [Value.ref p, .ref p']) (.cons (show RelV (.ref p) (.ref p) from rfl) (.cons (show RelV (.ref p') (.ref p') from rfl) .nil)) q) (fun _ _ z => back_ok z) fun _ _ z => z)
theorem pc_inO {neg : Bool} (F : FnOk X.prog X.w X.K X.mg X.base CX k f fd ps sp) (hr : Room k X.A) (hs : PySem.W.findIn X.K (.ref C) "__contains__" = some (some (.ref f))) (hfn : PySem.W.isFn X.K (.ref f) = true) (hb : Binds X.K fd ps []) (hx : ∀ σ, PassesAt CX X σ (E σ)) (ha : PE X a ta) (hi : PE X b tb) :
    PC X (if neg then .NotIn else .In) a b (tOwnIn C neg sp E ta tb) := by
  refine ⟨fun pins s σ H Q I h => ?_⟩
  refine binT ha hi I h fun v u s2 x y H2 I2 rx ry q => ?_
  obtain ⟨p, dx, fs, rfl, hp, q⟩ := q
  obtain rfl : u = Value.ref p := ry
  obtain ⟨mA, J, _⟩ := ins_get I2.hok hp
  obtain ⟨od, J, _⟩ := J.look
  obtain ⟨m, hF⟩ := I2.fr
  have run := run_fnAt F hr rfl hb (hx σ) I2 (vs := [V.ref p, x]) (us := [Value.ref p, v]) (.cons (show RelV (.ref p) (.ref p) from rfl) (.cons rx .nil)) q
  have fin : ∀ {u : Value} {s' : Shared} {g : Bool → Bool}, (∀ b, g b = (b != neg)) → EP X pins σ (fun v H3 => ∃ b, v = .bl b ∧ Q (.bl (b != neg)) H3) u s' → wpAny (model X.prog X.w) X.A (truthy u) (fun b => EP X pins σ Q (.bool (g b))) X.xe s' := by
    intro u s' g hg ⟨v, H3, I3, r3, b, e, q3⟩
    subst e
    cases r3
    refine wpAny_truthy_bool ⟨.bl (b != neg), H3, I3, ?_, q3⟩
    rw [hg]
    rfl
  cases neg with
  | false => exact PySem.W.in_K hF I2.ok.mod.kin J hs hfn (wpAny_mono run (fun _ _ z => fin (g := fun b => b) (fun b => by cases b <;> rfl) z) fun _ _ z => z)
  | true => exact PySem.W.notIn_K hF I2.ok.mod.kin J hs hfn (wpAny_mono run (fun _ _ z => fin (g := fun b => !b) (fun b => by cases b <;> rfl) z) fun _ _ z => z)
end
end AM
set_option Elab.async false
set_option linter.all false
set_option maxRecDepth 100000
set_option maxHeartbeats 4000000
namespace AM
open PySem PySem.Spec PyProof.Rows L2 Evl
/-! ### lists and tuples alike: zip, enumerate -/
def SqA (K : PySem.W.Frag) (t : Bool) (H : Hp) (a : Addr) (xs : List V) : Prop := if t = true then SqT K H a xs else SqL K H a xs
def ItAt (t : Bool) (h : Heap) (it a : Addr) (i : Nat) : Prop := if t = true then h.IsTupleIter it a i else h.IsListIter it a i
def IsSq (t : Bool) (h : Heap) (a : Addr) (its : Array Value) : Prop := if t = true then h.IsTuple a its else h.IsList a its
def itObj (t : Bool) (a : Addr) : Obj := if t = true then { cls := .type "tuple_iterator", data := .fields #[.ref a, .int 0 0] } else { cls := .type "list_iterator", data := .fields #[.ref a, .int 0 0] }
theorem draws_sq {prog : Program} {w : World} {A : Around} {t : Bool} (hh : A.handled = none) (it a : Addr) (hne : a ≠ it) (items : Array Value) : Draws prog w A it [it, a] items.size (fun i v => items[i]? = some v) (fun i h => ItAt t h it a i ∧ IsSq t h a items) := by
  cases t
  · exact Draws.list hh it a hne items
  · exact Draws.tuple hh it a hne items
theorem begins_sq {t : Bool} (a : Addr) (items : Array Value) : Begins (.ref a) (itObj t a) fun h => IsSq t h a items := by
  cases t
  · exact begins_list a items
  · exact begins_tuple a items
theorem itAt_new {t : Bool} {h : Heap} {it a : Addr} (e : h.get? it = some (itObj t a)) : ItAt t h it a 0 := by
  cases t
  · exact ⟨_, e, rfl, rfl⟩
  · exact ⟨_, e, rfl, rfl⟩
theorem ItAt.obj {t : Bool} {h : Heap} {it a : Addr} {i : Nat} (x : ItAt t h it a i) : ∃ o, h.get? it = some o ∧ ∀ v, o.data ≠ .cell v := by
  cases t
  · obtain ⟨o, e, _, d⟩ := (show h.IsListIter it a i from x)
    exact ⟨o, e, fun v q => by rw [d] at q; cases q⟩
  · obtain ⟨o, e, _, d⟩ := (show h.IsTupleIter it a i from x)
    exact ⟨o, e, fun v q => by rw [d] at q; cases q⟩
theorem ItAt.at {t : Bool} {h h' : Heap} {it a : Addr} {i : Nat} (x : ItAt t h it a i) (k : ∀ o, h.get? it = some o → h'.get? it = some o) : ItAt t h' it a i := by
  cases t
  · exact (show h.IsListIter it a i from x).at k
  · exact (show h.IsTupleIter it a i from x).at k
theorem ItAt.lt {t : Bool} {h : Heap} {it a : Addr} {i : Nat} (x : ItAt t h it a i) : it < h.objs.size := by
  obtain ⟨o, e, _⟩ := x.obj
  exact Heap.lt_size e
section
variable {X : Cx} {pins : List (Addr × Obj)} {σ : L2.St} {H : Hp} {s : Shared}
theorem inv_sq {t : Bool} {a : Addr} {xs : List V} (I : Inv X pins σ H s) (h : SqA X.K t H a xs) : ∃ its, Vals xs its ∧ IsSq t s.heap a its.toArray ∧ xs.length ≤ sizeLine ∧ a < s.heap.objs.size := by
  cases t
  · obtain ⟨its, r, p, hz⟩ := I.list (show SqL X.K H a xs from h)
    exact ⟨its, r, p.isList, hz, p.lt⟩
  · obtain ⟨its, r, p, hz⟩ := I.tuple (show SqT X.K H a xs from h)
    have p' : s.heap.IsTuple a its.toArray := p
    refine ⟨its, r, p', hz, ?_⟩
    obtain ⟨o, e, _⟩ := p'
    exact Heap.lt_size e
theorem sq_inj {t : Bool} {a : Addr} {xs ys : List V} (I : Inv X pins σ H s) (h : SqA X.K t H a xs) (h' : SqA X.K t H a ys) : xs = ys := by
  cases t
  · exact I.list_inj (show SqL X.K H a xs from h) (show SqL X.K H a ys from h')
  · exact I.tuple_inj (show SqT X.K H a xs from h) (show SqT X.K H a ys from h')
end
/-- the two as they stand at each turn, the items in new pairs -/
def Itz2 (K : PySem.W.Frag) (t u : Bool) (a b : Addr) : It :=
  ⟨fun i H => ∃ (xs ys : List V) (x y : V), SqA K t H a xs ∧ SqA K u H b ys ∧ xs[i]? = some x ∧ ys[i]? = some y,
    fun i H v H' => ∃ T x y, v = .ref T ∧ H T = none ∧ H' = upd H T (.tup [x, y]) ∧ (∀ xs, SqA K t H a xs → xs[i]? = some x) ∧ ∀ ys, SqA K u H b ys → ys[i]? = some y,
    fun i H => ∃ xs ys : List V, SqA K t H a xs ∧ SqA K u H b ys ∧ i ≤ xs.length ∧ i ≤ ys.length ∧ (i = xs.length ∨ i = ys.length)⟩
theorem turn_zip2 {P : Program} {w : World} {K : PySem.W.Frag} {t u : Bool} {elts : List Expr} {kk : Nat} {tpos : Pos} {a b z TI TO i1 i2 : Addr} (D : ZipSep2 z TI TO i1 i2 [i1, a] [i2, b]) (na : a ≠ i1) (nb : b ≠ i2) :
    Turn P w K (.Tuple elts kk tpos) (Itz2 K t u a b) [z, TI, TO, i1, i2] z (fun i h => IsZip h z TI TO .none ∧ IsTupOf2 h TI (.ref i1) (.ref i2) ∧ (∃ x y, IsTupOf2 h TO x y) ∧ ItAt t h i1 a i ∧ ItAt u h i2 b i) where
  mem := by simp
  obj := fun i h st c hc => by
    obtain ⟨hz, hTI, ⟨x, y, hTO⟩, h1, h2⟩ := st
    have e' : c = z ∨ c = TI ∨ c = TO ∨ c = i1 ∨ c = i2 := by simpa using hc
    rcases e' with q | q | q | q | q
    · rw [q]; exact ⟨_, hz, fun v q => nomatch q⟩
    · rw [q]; exact ⟨_, hTI, fun v q => nomatch q⟩
    · rw [q]; exact ⟨_, hTO, fun v q => nomatch q⟩
    · rw [q]; exact h1.obj
    · rw [q]; exact h2.obj
  keep := fun i h h' st k => by
    obtain ⟨hz, hTI, ⟨x, y, hTO⟩, h1, h2⟩ := st
    exact ⟨k z (by simp) _ hz, k TI (by simp) _ hTI, ⟨x, y, k TO (by simp) _ hTO⟩, h1.at fun o q => k i1 (by simp) o q, h2.at fun o q => k i2 (by simp) o q⟩
  item := by
    intro X hP hw hK hc i pins s σ H E I hf st hg
    subst hP hw hK
    obtain ⟨hz, hTI, ⟨x0, y0, hTO⟩, h1, h2⟩ := st
    obtain ⟨xs, ys, x, y, hqx, hqy, hx, hy⟩ := hg
    obtain ⟨its, rv, p, _, la⟩ := inv_sq I hqx
    obtain ⟨its2, rv2, p2, _, lb⟩ := inv_sq I hqy
    obtain ⟨v1, hu, ru⟩ := rv.get hx
    obtain ⟨v2, hu2, ru2⟩ := rv2.get hy
    have hzl : z < s.heap.objs.size := Heap.lt_size hz
    have hd : X.A.in1.handled = none := I.ok.hd hc
    have d1 := draws_sq (prog := X.prog) (w := X.w) (A := X.A.in1) (t := t) hd i1 a na its.toArray
    have d2 := draws_sq (prog := X.prog) (w := X.w) (A := X.A.in1) (t := u) hd i2 b nb its2.toArray
    refine wpAny_pyNext_zipD2_item D d1 d2 hz hTI hTO ⟨h1, p⟩ ⟨h2, p2⟩ (by rw [List.size_toArray, ← rv.length]; exact (List.getElem?_eq_some_iff.mp hx).1) (by rw [List.size_toArray, ← rv2.length]; exact (List.getElem?_eq_some_iff.mp hy).1) fun w1 w2 h' tk e1 e2 z' TO' h1' h2' hT hsz hk => ?_
    have e1 : some v1 = some w1 := by rw [← hu, ← e1]; simp
    have e2 : some v2 = some w2 := by rw [← hu2, ← e2]; simp
    cases e1
    cases e2
    refine ⟨_, rfl, wpAny_letOwnedTupleGo_zip (s := { s with heap := h', toks := tk }) z' fun h'' z'' sb => ?_⟩
    have hT2 : h''.get? s.heap.objs.size = some { cls := .type "tuple", data := .seq #[v1, v2] } := (sb.2 _ (Nat.ne_of_gt hzl)).trans hT
    have new : ObjOk X.prog X.w (upd H s.heap.objs.size (.tup [x, y])) h'' s.heap.objs.size (.tup [x, y]) :=
      ⟨by show 2 ≤ sizeLine; decide, [v1, v2], .cons ru (.cons ru2 .nil), ⟨_, hT2, rfl, _, rfl⟩⟩
    have I1 : Inv X pins σ (upd H s.heap.objs.size (.tup [x, y])) { s with heap := h'', toks := tk } :=
      I.turnedNew (t' := tk) (ch := [z, TI, TO, i1, i2]) (fun c o hb q => (sb.2 c (fun q' => hb (by simp [q']))).trans (hk c o (fun q' => hb (by simp [q'])) (fun q' => hb (by simp [q'])) (fun q' => hb (by simp [q'])) (fun q' => hb (by simp [q'])) q)) hf (Nat.le_refl _) new
    refine ⟨.ref s.heap.objs.size, _, I1, rfl, ⟨_, x, y, rfl, I.hok.fresh (Nat.le_refl _), rfl, fun l hl => by rw [sq_inj I hl hqx]; exact hx, fun l hl => by rw [sq_inj I hl hqy]; exact hy⟩, ⟨z'', ?_, ⟨v1, v2, ?_⟩, ?_, ?_⟩, fun c hcm => ?_⟩
    · exact (sb.2 _ D.TIz).trans (hk _ _ D.TIz D.TITO D.TIi1 D.TIi2 hTI)
    · exact (sb.2 _ D.TOz).trans TO'
    · exact h1'.1.at fun o q => (sb.2 _ (Ne.symm D.zi1)).trans q
    · exact h2'.1.at fun o q => (sb.2 _ (Ne.symm D.zi2)).trans q
    · have hlt : c < s.heap.objs.size := by
        have e' : c = z ∨ c = TI ∨ c = TO ∨ c = i1 ∨ c = i2 := by simpa using hcm
        rcases e' with q | q | q | q | q
        · rw [q]; exact hzl
        · rw [q]; exact Heap.lt_size hTI
        · rw [q]; exact Heap.lt_size hTO
        · rw [q]; exact h1.lt
        · rw [q]; exact h2.lt
      rw [upd_ne (Nat.ne_of_lt hlt)]
      exact (hf c hcm).1
  done := by
    intro X hP hw hK hc i pins s σ H E I hf st hg
    subst hP hw hK
    obtain ⟨hz, hTI, ⟨x0, y0, hTO⟩, h1, h2⟩ := st
    obtain ⟨xs, ys, hqx, hqy, hl1, hl2, hend⟩ := hg
    obtain ⟨its, rv, p, _, la⟩ := inv_sq I hqx
    obtain ⟨its2, rv2, p2, _, lb⟩ := inv_sq I hqy
    have hd : X.A.in1.handled = none := I.ok.hd hc
    have d1 := draws_sq (prog := X.prog) (w := X.w) (A := X.A.in1) (t := t) hd i1 a na its.toArray
    have d2 := draws_sq (prog := X.prog) (w := X.w) (A := X.A.in1) (t := u) hd i2 b nb its2.toArray
    rw [rv.length] at hl1 hend
    rw [rv2.length] at hl2 hend
    exact wpAny_pyNext_zipD2_end D d1 d2 hz hTI hTO ⟨h1, p⟩ ⟨h2, p2⟩ (by rw [List.size_toArray]; exact hl1) (by rw [List.size_toArray]; exact hl2) (by rw [List.size_toArray, List.size_toArray]; exact hend) fun h' tk hk => ⟨rfl, I.turnedL (t' := tk) (ch := [z, TI, TO, i1, i2]) (fun c o hb q =>
      hk c o (fun q' => hb (by simp [q'])) (fun q' => hb (by simp [q'])) (fun q' => hb (by simp [q'])) (fun q' => hb (by simp [q'])) q) hf⟩
  self := fun A i s Q E st h => wpAny_pyIter_zip st.1 h
def iZip2 (K : PySem.W.Frag) (ta : TA) : TI := fun σ H R => ta σ H fun vs H1 => ∃ a b t u xs ys, vs = [.ref a, .ref b] ∧ SqA K t H1 a xs ∧ SqA K u H1 b ys ∧ R (Itz2 K t u a b) H1
theorem pi_zip2 {X : Cx} {e e2 : Expr} {ta : TA} {p pos tpos : Pos} {elts : List Expr} {kk : Nat} (hg : Gl X "zip") (hm : X.mg "zip" = none) (ha : PA X [e, e2] ta)
    (hs : starEach [e, e2] X.env = (false, eval e X.env) :: starEach [e2] X.env := by rfl) (hpl : (backTo pos (starEach [e2] X.env)).any (·.1) = false := by rfl) :
    PI X (.Tuple elts kk tpos) (.Call (.Name "zip" p) [e, e2] [] pos) (iZip2 X.K ta) := by
  refine ⟨fun pins s σ H R I h => ?_⟩
  refine Call_ (ld_blt I hg hm PyProof.Rows.boot_zip (PyProof.Rows.callWith_type1 (thn (ha.run pos pins s σ H _ I h) fun us s1 ⟨vs, H1, I1, r1, q1⟩ => ?_) hs hpl))
  obtain ⟨a, b, t, u, xs, ys, ex, hqx, hqy, q⟩ := q1
  subst ex
  cases r1 with
  | cons r rr =>
    cases rr with
    | cons r' rr =>
      cases rr
      cases r
      cases r'
      obtain ⟨its, rv, p1, _, la⟩ := inv_sq I1 hqx
      obtain ⟨its2, rv2, p2, _, lb⟩ := inv_sq I1 hqy
      refine zip_begins2 (begins_sq (t := t) a its.toArray) (begins_sq (t := u) b its2.toArray) p1 p2 fun h' hz hTI hTO h1 h2 hsz hk => wpAny_pyIter_zip hz ?_
      have I2 : Inv X pins σ H1 { s1 with heap := h' } := I1.kept (t' := s1.toks) hk
      refine ⟨s1.heap.objs.size + 4, [s1.heap.objs.size + 4, s1.heap.objs.size + 2, s1.heap.objs.size + 3, s1.heap.objs.size, s1.heap.objs.size + 1], _, _, H1, rfl, I2, turn_zip2 (t := t) (u := u) (zip_sep2 (fp1 := [a]) (fp2 := [b]) (by simpa using la) (by simpa using lb)) (Nat.ne_of_lt la) (Nat.ne_of_lt (Nat.lt_succ_of_lt lb)), ⟨hz, hTI, ⟨_, _, hTO⟩, itAt_new h1, itAt_new h2⟩, fun c hcm => ?_, q⟩
      have e' : c = s1.heap.objs.size + 4 ∨ c = s1.heap.objs.size + 2 ∨ c = s1.heap.objs.size + 3 ∨ c = s1.heap.objs.size ∨ c = s1.heap.objs.size + 1 := by simpa using hcm
      have hle : s1.heap.objs.size ≤ c := by
        rcases e' with z | z | z | z | z
        · rw [z]; exact Nat.le_add_right _ _
        · rw [z]; exact Nat.le_add_right _ _
        · rw [z]; exact Nat.le_add_right _ _
        · rw [z]; exact Nat.le_refl _
        · rw [z]; exact Nat.le_add_right _ _
      exact I1.fpOk hle (I1.hok.fresh hle)
/-- enumerate -/
def Ite2 (K : PySem.W.Frag) (t : Bool) (a : Addr) : It :=
  ⟨fun i H => ∃ (xs : List V) (x : V), SqA K t H a xs ∧ xs[i]? = some x,
    fun i H v H' => ∃ T x, v = .ref T ∧ H T = none ∧ H' = upd H T (.tup [.int (i : Nat), x]) ∧ ∀ xs, SqA K t H a xs → xs[i]? = some x,
    fun i H => ∃ xs : List V, SqA K t H a xs ∧ i = xs.length⟩
theorem turn_enum2 {P : Program} {w : World} {K : PySem.W.Frag} {t : Bool} {elts : List Expr} {kk : Nat} {tpos : Pos} (a e it : Addr) (na : a ≠ it) (ne : e ≠ a) :
    Turn P w K (.Tuple elts kk tpos) (Ite2 K t a) [e, it] e (fun i h => (∃ old, IsEnum h e it (i : Int) old) ∧ ItAt t h it a i ∧ e ≠ it) where
  mem := by simp
  obj := fun i h st c hc => by
    obtain ⟨⟨old, he⟩, hit, _⟩ := st
    have e' : c = e ∨ c = it := by simpa using hc
    rcases e' with z | z
    · rw [z]; exact ⟨_, he, fun v q => nomatch q⟩
    · rw [z]; exact hit.obj
  keep := fun i h h' st k => let ⟨⟨old, he⟩, hi, hne⟩ := st; ⟨⟨old, k e (by simp) _ he⟩, hi.at fun o q => k it (by simp) o q, hne⟩
  item := by
    intro X hP hw hK hc i pins s σ H E I hf st hg
    subst hP hw hK
    obtain ⟨⟨old, he⟩, hit, hne⟩ := st
    obtain ⟨xs, x, hq, hx⟩ := hg
    obtain ⟨its, rv, p, _, la⟩ := inv_sq I hq
    obtain ⟨u, hu, ru⟩ := rv.get hx
    have hel : e < s.heap.objs.size := Heap.lt_size he
    have hil : it < s.heap.objs.size := hit.lt
    have hd : X.A.in1.handled = none := I.ok.hd hc
    have d1 := draws_sq (prog := X.prog) (w := X.w) (A := X.A.in1) (t := t) hd it a na its.toArray
    refine wpAny_pyNext_enum_itemD d1 he ⟨hit, p⟩ (by rw [List.size_toArray, ← rv.length]; exact (List.getElem?_eq_some_iff.mp hx).1) hne (by simp [hne, ne]) fun w1 h' tk e1 ho hit' hT hsz hk => ?_
    have e1 : some u = some w1 := by rw [← hu, ← e1]; simp
    cases e1
    refine ⟨_, rfl, wpAny_letOwnedTupleGo_enum (s := { s with heap := h', toks := tk + 1 }) ho fun h'' he' sb => ?_⟩
    have hT2 : h''.get? s.heap.objs.size = some { cls := .type "tuple", data := .seq #[.int i tk, u] } := (sb.2 _ (Nat.ne_of_gt hel)).trans hT
    have new : ObjOk X.prog X.w (upd H s.heap.objs.size (.tup [.int (i : Nat), x])) h'' s.heap.objs.size (.tup [.int (i : Nat), x]) :=
      ⟨by show 2 ≤ sizeLine; decide, [.int i tk, u], .cons ⟨_, rfl⟩ (.cons ru .nil), ⟨_, hT2, rfl, _, rfl⟩⟩
    have I1 : Inv X pins σ (upd H s.heap.objs.size (.tup [.int (i : Nat), x])) { s with heap := h'', toks := tk + 1 } :=
      I.turnedNew (ch := [e, it]) (fun b ob hb q => (sb.2 b (fun z => hb (by simp [z]))).trans (hk b ob (fun z => hb (by simp [z])) (fun z => hb (by simp [z])) q)) hf (Nat.le_refl _) new
    refine ⟨.ref s.heap.objs.size, _, I1, rfl, ⟨_, x, rfl, I.hok.fresh (Nat.le_refl _), rfl, fun ys hy => by rw [sq_inj I hy hq]; exact hx⟩, ⟨⟨u, ?_⟩, hit'.1.at fun o q => (sb.2 it (Ne.symm hne)).trans q, hne⟩, fun b hb => ?_⟩
    · have e1 : ((i + 1 : Nat) : Int) = (i : Int) + 1 := by omega
      rw [e1]; exact he'
    · have hb' : b < s.heap.objs.size := by
        have e' : b = e ∨ b = it := by simpa using hb
        rcases e' with z | z
        · rw [z]; exact hel
        · rw [z]; exact hil
      rw [upd_ne (Nat.ne_of_lt hb')]
      exact (hf b hb).1
  done := by
    intro X hP hw hK hc i pins s σ H E I hf st hg
    subst hP hw hK
    obtain ⟨⟨old, he⟩, hit, hne⟩ := st
    obtain ⟨xs, hq, hx⟩ := hg
    obtain ⟨its, rv, p, _, la⟩ := inv_sq I hq
    obtain ⟨f0, f1, f2, f3, f4, f5⟩ := hf it (by simp)
    have hd : X.A.in1.handled = none := I.ok.hd hc
    have d1 := draws_sq (prog := X.prog) (w := X.w) (A := X.A.in1) (t := t) hd it a na its.toArray
    have hl := rv.length
    have ei : its.toArray.size = i := by rw [List.size_toArray]; omega
    exact wpAny_pyNext_enum_endD d1 he (by rw [ei]; exact ⟨hit, p⟩) fun h' eb => ⟨rfl, I.turned (t' := s.toks) (fun b o hb q => eb b o hb q) f0 f1 f3 f4 f5⟩
  self := fun A i s Q E st h => let ⟨⟨_, he⟩, _⟩ := st; wpAny_pyIter_enum he h
theorem meets_enum1 {v : Value} {o : Obj} {H : Heap → Prop} (B : Begins v o H) :
    Meets (Builtin.«enumerate.__new__» ⟨[.type "enumerate", v], []⟩) (fun _ R s => H s.heap ∧
      R (.ok (.ret (.ref (s.heap.push o).objs.size))) { s with heap := (s.heap.push o).push { cls := .type "enumerate", data := .fields #[.none, .bool false, .ref s.heap.objs.size, rawInt 0, .none, .none] } }) :=
  .of_wp fun prog w A R s h => by
    obtain ⟨hp, g, d, tk, os⟩ := s; obtain ⟨h1, h⟩ := h
    have hsub := sub_enumerate
    have q1 : ∀ {A' : Around} {E : Value → Shared → Prop} {Q : Value → Shared → Prop}, Q (.ref hp.objs.size) ⟨hp.push o, g, d, tk, os⟩ → wpAny (model prog w) A' (pyIter v) Q E ⟨hp, g, d, tk, os⟩ :=
      fun q => B.iter prog w _ _ ⟨hp, g, d, tk, os⟩ _ h1 q
    wp_walk using q1
    refine wpAny_stack_any fun st => wpAny_pure ?_
    split
    · rename_i c _ _ _ _ _
      cases (c == Value.type "enumerate")
      · wp_walk using q1
        exact ⟨_, rfl, h⟩
      · wp_walk using q1
        exact ⟨_, rfl, h⟩
    · wp_walk using q1
      exact ⟨_, rfl, h⟩
theorem enum_begins1 {prog : Program} {w : World} {A : Around} {E : Value → Shared → Prop} {s : Shared} {v : Value} {o : Obj} {H : Heap → Prop} {Q : Value → Shared → Prop} (B : Begins v o H) (h1 : H s.heap)
    (h : ∀ h', IsEnum h' (s.heap.objs.size + 1) s.heap.objs.size 0 .none → h'.get? s.heap.objs.size = some o → h'.objs.size = s.heap.objs.size + 2 →
      (∀ b o, s.heap.get? b = some o → h'.get? b = some o) → Q (.ref (s.heap.objs.size + 1)) { s with heap := h' }) :
    wpAny (model prog w) A (call (.type "enumerate") [v]) Q E s := by
  refine callType_new F.called_enumerate (by decide) (F.typeCall_enumerate_1 _) (F.newCall_enumerate_1 _) (fun obj => F.args_object_init_2 obj _) F.entry_enumerate_new
    (meets_enum1 B) ⟨h1, ?_⟩
  have hz : (s.heap.push o).objs.size = s.heap.objs.size + 1 := Heap.size_push ..
  show _ ∧ _
  rw [hz]
  have he : IsEnum ((s.heap.push o).push { cls := .type "enumerate", data := .fields #[.none, .bool false, .ref s.heap.objs.size, rawInt 0, .none, .none] }) (s.heap.objs.size + 1) s.heap.objs.size 0 .none := by
    have := Heap.get?_push_size (s.heap.push o) (o := { cls := .type "enumerate", data := .fields #[.none, .bool false, .ref s.heap.objs.size, rawInt 0, .none, .none] }) rfl
    rw [hz] at this; exact this
  refine ⟨⟨_, he, rfl⟩, h _ he (Heap.get?_push_of_some _ (Heap.get?_push_size _ B.free)) (by rw [Heap.size_push, hz]) fun b o x => Heap.get?_push_of_some _ (Heap.get?_push_of_some _ x)⟩
def iEnum2 (K : PySem.W.Frag) (ta : TA) : TI := fun σ H R => ta σ H fun vs H1 => ∃ a t xs, vs = [.ref a] ∧ SqA K t H1 a xs ∧ R (Ite2 K t a) H1
theorem pi_enum2 {X : Cx} {e : Expr} {ta : TA} {p pos tpos : Pos} {elts : List Expr} {kk : Nat} (hg : Gl X "enumerate") (hm : X.mg "enumerate" = none) (ha : PA X [e] ta) (hs : starEach [e] X.env = [(false, eval e X.env)] := by rfl) :
    PI X (.Tuple elts kk tpos) (.Call (.Name "enumerate" p) [e] [] pos) (iEnum2 X.K ta) := by
  refine ⟨fun pins s σ H R I h => ?_⟩
  refine Call_ (ld_blt I hg hm boot_enumerate (PyProof.Rows.callWith_type1 (thn (ha.run pos pins s σ H _ I h) fun us s1 ⟨vs, H1, I1, r1, q1⟩ => ?_) hs rfl))
  obtain ⟨a, t, xs, ex, hq, q⟩ := q1
  subst ex
  cases r1 with
  | cons r rr =>
    cases rr
    cases r
    obtain ⟨its, rv, p1, _, la⟩ := inv_sq I1 hq
    refine enum_begins1 (begins_sq (t := t) a its.toArray) p1 fun h' he hit hsz hk => wpAny_pyIter_enum he ?_
    have I2 : Inv X pins σ H1 { s1 with heap := h' } := I1.kept (t' := s1.toks) hk
    refine ⟨s1.heap.objs.size + 1, [s1.heap.objs.size + 1, s1.heap.objs.size], _, _, H1, rfl, I2, turn_enum2 (t := t) a (s1.heap.objs.size + 1) s1.heap.objs.size (Nat.ne_of_lt la) (Nat.ne_of_gt (Nat.lt_succ_of_lt la)), ⟨⟨.none, he⟩, itAt_new hit, Nat.succ_ne_self _⟩, fun b hb => ?_, q⟩
    have e' : b = s1.heap.objs.size + 1 ∨ b = s1.heap.objs.size := by simpa using hb
    have hle : s1.heap.objs.size ≤ b := by
      rcases e' with z | z
      · rw [z]; exact Nat.le_add_right _ _
      · rw [z]; exact Nat.le_refl _
    exact I1.fpOk hle (I1.hok.fresh hle)
/-! ### read by data -/
def zipD (l m : List D) : List D := List.zipWith (fun x y => .tup [x, y]) l m
def enumD (l : List D) : List D := l.zipIdx.map fun p => .tup [.int p.2, p.1]
def aZip (a b : AE) : AI := fun env st q er => a env st (fun x s1 => b env s1 (fun y s2 => ∃ l m, itemsD (vw s2 x) = some l ∧ itemsD (vw s2 y) = some m ∧ q (zipD l m) (gdOf s2 x ++ gdOf s2 y) s2) er) er
def aEnum (a : AE) : AI := fun env st q er => a env st (fun x s1 => ∃ l, itemsD (vw s1 x) = some l ∧ q (enumD l) (gdOf s1 x) s1) er
theorem gdOk_app {g g' : Gd} {st : S} : gdOk (g ++ g') st ↔ gdOk g st ∧ gdOk g' st := by
  unfold gdOk
  constructor
  · exact fun h => ⟨fun x hx => h x (List.mem_append_left _ hx), fun x hx => h x (List.mem_append_right _ hx)⟩
  · rintro ⟨h1, h2⟩ x hx
    rcases List.mem_append.mp hx with q | q
    · exact h1 x q
    · exact h2 x q
theorem walks_zip {K : PySem.W.Frag} {G : Gh} {g g' : Gd} {a b : Addr} {t u : Bool} {l m : List D} (h : ∀ G2 st2 H2, G.le G2 → SS K G2 st2 H2 → gdOk g st2 → ∃ us, Reps K G2 l us ∧ SqA K t H2 a us) (h' : ∀ G2 st2 H2, G.le G2 → SS K G2 st2 H2 → gdOk g' st2 → ∃ us, Reps K G2 m us ∧ SqA K u H2 b us) : Walks K G (Itz2 K t u a b) (zipD l m) (g ++ g') where
  stop := fun i G2 st H le s gk hi => by
    obtain ⟨g1, g2⟩ := gdOk_app.mp gk
    obtain ⟨us, r, q⟩ := h G2 st H le s g1
    obtain ⟨us', r', q'⟩ := h' G2 st H le s g2
    have e1 := r.length
    have e2 := r'.length
    unfold zipD at hi
    rw [List.length_zipWith] at hi
    exact ⟨us, us', q, q', by omega, by omega, by omega⟩
  go := fun i G2 st H le s gk hi => by
    obtain ⟨g1, g2⟩ := gdOk_app.mp gk
    obtain ⟨us, r, q⟩ := h G2 st H le s g1
    obtain ⟨us', r', q'⟩ := h' G2 st H le s g2
    have e1 := r.length
    have e2 := r'.length
    unfold zipD at hi
    rw [List.length_zipWith] at hi
    exact ⟨us, us', us[i]'(by omega), us'[i]'(by omega), q, q', List.getElem?_eq_getElem _, List.getElem?_eq_getElem _⟩
  yld := fun i G2 st H d x H' le s gk hd y => by
    obtain ⟨g1, g2⟩ := gdOk_app.mp gk
    obtain ⟨us, r, q⟩ := h G2 st H le s g1
    obtain ⟨us', r', q'⟩ := h' G2 st H le s g2
    obtain ⟨T, x1, y1, rfl, hT, rfl, f1, f2⟩ := y
    unfold zipD at hd
    rw [List.getElem?_zipWith] at hd
    cases hl : l[i]? with
    | none => rw [hl] at hd; cases hd
    | some d1 =>
      cases hm : m[i]? with
      | none => rw [hl, hm] at hd; cases hd
      | some d2 =>
        rw [hl, hm] at hd
        cases hd
        obtain ⟨v1, k1, r1⟩ := r.get hl
        obtain ⟨v2, k2, r2⟩ := r'.get hm
        have z1 := f1 us q
        have z2 := f2 us' q'
        rw [k1] at z1
        rw [k2] at z2
        cases z1
        cases z2
        exact .inr ⟨T, _, _, hT, rfl, rfl, rfl, .cons r1 (.cons r2 .nil)⟩
theorem walks_enum {K : PySem.W.Frag} {G : Gh} {g : Gd} {a : Addr} {t : Bool} {l : List D} (h : ∀ G2 st2 H2, G.le G2 → SS K G2 st2 H2 → gdOk g st2 → ∃ us, Reps K G2 l us ∧ SqA K t H2 a us) : Walks K G (Ite2 K t a) (enumD l) g where
  stop := fun i G2 st H le s gk hi => by
    obtain ⟨us, r, q⟩ := h G2 st H le s gk
    have e1 := r.length
    unfold enumD at hi
    rw [List.length_map, List.length_zipIdx] at hi
    exact ⟨us, q, by omega⟩
  go := fun i G2 st H le s gk hi => by
    obtain ⟨us, r, q⟩ := h G2 st H le s gk
    have e1 := r.length
    unfold enumD at hi
    rw [List.length_map, List.length_zipIdx] at hi
    exact ⟨us, us[i]'(by omega), q, List.getElem?_eq_getElem _⟩
  yld := fun i G2 st H d x H' le s gk hd y => by
    obtain ⟨us, r, q⟩ := h G2 st H le s gk
    obtain ⟨T, x1, rfl, hT, rfl, f1⟩ := y
    unfold enumD at hd
    rw [List.getElem?_map, List.getElem?_zipIdx] at hd
    cases hl : l[i]? with
    | none => rw [hl] at hd; cases hd
    | some d1 =>
      rw [hl] at hd
      obtain ⟨v1, k1, r1⟩ := r.get hl
      have z1 := f1 us q
      rw [k1] at z1
      cases z1
      have hd : D.tup [D.int ((0 + i : Nat) : Int), d1] = d := Option.some.inj hd
      rw [Nat.zero_add] at hd
      subst hd
      exact .inr ⟨T, _, _, hT, rfl, rfl, rfl, .cons (.int _) (.cons r1 .nil)⟩
section
variable {X : Cx} {W : WX} {e e2 : Expr} {ae ab : AE} {p pos tpos : Pos} {elts : List Expr} {kk : Nat}
theorem axi_zip (hm : X.mg "zip" = none) (h : AX X W e ae) (h' : AX X W e2 ab) (hg : Gl X "zip" := by rfl) (hs : starEach [e, e2] X.env = (false, eval e X.env) :: starEach [e2] X.env := by rfl) (hs2 : starEach [e2] X.env = [(false, eval e2 X.env)] := by rfl) (hpl : (backTo pos (starEach [e2] X.env)).any (·.1) = false := by rfl) :
    AXI X W (.Tuple elts kk tpos) (.Call (.Name "zip" p) [e, e2] [] pos) (aZip ae ab) := by
  obtain ⟨t, pe, r⟩ := h
  obtain ⟨t', pe', r'⟩ := h'
  refine ⟨_, pi_zip2 hg hm (pa_cons pe (pa_cons pe' pa_nil (by rw [hs2]; rfl)) (by rw [hs])) hs hpl, fun G env st σ H R q er s sl a t tX => r G env st σ H _ _ er s sl a (fun v d st2 G2 H2 p2 s2 r2 h2 => r' G2 env st2 σ H2 _ _ er s2 (sl.mono p2.le) h2 (fun v' d' st3 G3 H3 p3 s3 r3 h3 => ?_) (tX.on p2)) tX⟩
  obtain ⟨l, m, hl, hm, h3⟩ := h3
  obtain ⟨a, vs, tup, rfl, rs, gk, hh⟩ := rep_seq s3 (r2.mono p3.le) hl
  obtain ⟨b, vs', tup', rfl, rs', gk', hh'⟩ := rep_seq s3 r3 hm
  obtain ⟨us, _, q1⟩ := hh G3 st3 H3 (Gh.le.refl _) s3 gk
  obtain ⟨us', _, q2⟩ := hh' G3 st3 H3 (Gh.le.refl _) s3 gk'
  exact ⟨a, b, tup, tup', us, us', rfl, q1, q2, t _ _ _ st3 G3 H3 (p2.trans p3) s3 (walks_zip hh hh') h3⟩
theorem axi_enum (hm : X.mg "enumerate" = none) (h : AX X W e ae) (hg : Gl X "enumerate" := by rfl) (hs : starEach [e] X.env = [(false, eval e X.env)] := by rfl) :
    AXI X W (.Tuple elts kk tpos) (.Call (.Name "enumerate" p) [e] [] pos) (aEnum ae) := by
  obtain ⟨t, pe, r⟩ := h
  refine ⟨_, pi_enum2 hg hm (pa_cons pe pa_nil (by rw [hs]; rfl)) hs, fun G env st σ H R q er s sl a t tX => r G env st σ H _ _ er s sl a (fun v d st2 G2 H2 p2 s2 r2 h2 => ?_) tX⟩
  obtain ⟨l, hl, h2⟩ := h2
  obtain ⟨a, vs, tup, rfl, rs, gk, hh⟩ := rep_seq s2 r2 hl
  obtain ⟨us, _, q1⟩ := hh G2 st2 H2 (Gh.le.refl _) s2 gk
  exact ⟨a, tup, us, rfl, q1, t _ _ _ st2 G2 H2 p2 s2 (walks_enum hh) h2⟩
end
end AM
set_option Elab.async false
set_option linter.all false
set_option maxRecDepth 100000
set_option maxHeartbeats 4000000
namespace AM
open PySem PySem.Spec PyProof.Rows L2 Evl
/-! ### starred displays -/
def aStar (a : AE) (r : AEs) : AEs := fun env st q er => a env st (fun x s1 => ∃ l, itemsD (vw s1 x) = some l ∧ r env s1 (fun xs s2 => q (l ++ xs) s2) er) er
section
variable {X : Cx} {W : WX} {e : Expr} {es : List Expr} {ae : AE} {ar : AEs} {p : Pos}
theorem axa_star (ha : AX X W e ae) (hr : AXA X W es ar) (hs : starEach (.Starred e p :: es) X.env = (true, eval e X.env) :: starEach es X.env := by rfl) : AXA X W (.Starred e p :: es) (aStar ae ar) := by
  obtain ⟨ta, pa, ra⟩ := ha
  obtain ⟨tb, pb, rb⟩ := hr
  refine ⟨_, StX.pa_star pa pb hs, fun G env st σ H Q q er s l h tE tX => ra G env st σ H _ _ er s l h (fun v d st1 G1 H1 p1 s1 r1 h1 => ?_) tX⟩
  obtain ⟨m, hm, h1⟩ := h1
  obtain ⟨a, vs, tup, rfl, rs, gk, hh⟩ := rep_seq s1 r1 hm
  obtain ⟨us, ru, q1⟩ := hh G1 st1 H1 (Gh.le.refl _) s1 gk
  refine ⟨a, us, rfl, ?_, rb G1 env st1 σ H1 _ _ er s1 (l.mono p1.le) h1 (fun vs2 ds2 st2 G2 H2 p2 s2 r2 h2 => tE _ _ st2 G2 H2 (p1.trans p2) s2 ((ru.mono p2.le).append r2) h2) (tX.on p1)⟩
  cases tup with
  | false => exact .inr q1
  | true => exact .inl q1
end
/-! ### slices -/
abbrev AO := List A → S → (Option Int → S → Prop) → QX → Prop
def oNo : AO := fun _ st q _ => q none st
def oAt (a : AE) : AO := fun env st q er => a env st (fun d s1 => ∃ i, d = .int i ∧ q (some i) s1) er
def RefP (K : PySem.W.Frag) (W : WX) (t : TO) (a : AO) : Prop := ∀ G env st σ H (Q : Option Int → Hp → Prop) (q : Option Int → S → Prop) (er : QX), SS K G st H → Sl K G env σ → a env st q er → (∀ o st2 G2 H2, Post G H G2 H2 → SS K G2 st2 H2 → q o st2 → Q o H2) → ThenX K W G H σ er → t σ H Q
def AXP (X : Cx) (W : WX) (e : Option Expr) (a : AO) : Prop := ∃ t, PO X e t ∧ RefP X.K W t a
/-- the items of xs[lo:hi] -/
def cutL {α : Type} (xs : List α) (lo hi : Option Int) : List α := (xs.drop (HT.sIx xs.length 0 lo)).take (HT.sIx xs.length xs.length hi - HT.sIx xs.length 0 lo)
theorem Reps.drop {K : PySem.W.Frag} {G : Gh} : ∀ {ds : List D} {vs : List V} (n : Nat), Reps K G ds vs → Reps K G (ds.drop n) (vs.drop n)
  | _, _, 0, r => r
  | _, _, _ + 1, .nil => .nil
  | _, _, n + 1, .cons _ r => Reps.drop n r
theorem Reps.take {K : PySem.W.Frag} {G : Gh} : ∀ {ds : List D} {vs : List V} (n : Nat), Reps K G ds vs → Reps K G (ds.take n) (vs.take n)
  | _, _, 0, _ => by simp only [List.take_zero]; exact .nil
  | _, _, _ + 1, .nil => .nil
  | _, _, n + 1, .cons h r => .cons h (Reps.take n r)
theorem Reps.cutL {K : PySem.W.Frag} {G : Gh} {ds : List D} {vs : List V} {lo hi : Option Int} (r : Reps K G ds vs) : Reps K G (AM.cutL ds lo hi) (cutV vs lo hi) := by
  unfold AM.cutL cutV
  rw [r.length]
  exact (r.drop _).take _
theorem cutL_all {α : Type} {xs : List α} {lo hi : Option Int} (h1 : HT.sIx xs.length 0 lo = 0) (h2 : HT.sIx xs.length xs.length hi = xs.length) : cutL xs lo hi = xs := by
  unfold cutL
  rw [h1, h2]
  simp
def slD (x : D) (lo hi : Option Int) (q : D → Prop) : Prop := match x with
  | .lst l => q (.lst (cutL l lo hi))
  | .tup l => q (.tup (cutL l lo hi))
  | .str z => z.length ≤ 100000 ∧ q (.str (Txt.slice z lo hi))
  | _ => False
def aSl (a : AE) (lo hi : AO) : AE := fun env st q er => a env st (fun x s1 => lo env s1 (fun l s2 => hi env s2 (fun h s3 => slD (vw s3 x) l h fun d => q d s3) er) er) er
def rSlAll (K : PySem.W.Frag) : V → Option Int → Option Int → Hp → VK → Prop := fun x lo hi H Q => rSlL K x lo hi H Q ∨ rSlA K x lo hi H Q ∨ C8.rSlX x lo hi H Q
section
variable {X : Cx} {W : WX} {e : Expr} {ae : AE} {p p2 pos : Pos} {lo hi : Option Expr} {al ah : AO}
theorem axp_no : AXP X W none oNo := ⟨_, po_none, fun G env st σ H Q q er s l h t tX => t none st G H Post.refl s h⟩
theorem axp_at (h : AX X W e ae) : AXP X W (some e) (oAt ae) := by
  obtain ⟨t, pe, r⟩ := h
  refine ⟨_, po_some pe, fun G env st σ H Q q er s l h t tX => r G env st σ H _ _ er s l h (fun v d st1 G1 H1 p1 s1 r1 h1 => ?_) tX⟩
  obtain ⟨i, rfl, h1⟩ := h1
  cases r1
  exact ⟨i, rfl, t (some i) st1 G1 H1 p1 s1 h1⟩
theorem ax_sl (ha : AX X W e ae) (hl : AXP X W lo al) (hh : AXP X W hi ah) : AX X W (.Subscript e (.Slice lo hi none p2) pos) (aSl ae al ah) := by
  obtain ⟨ta, pa, ra⟩ := ha
  obtain ⟨tl, pl, rl⟩ := hl
  obtain ⟨th, ph, rh⟩ := hh
  refine ⟨_, pe_slice (r := rSlAll X.K) (SlR.or sl_list (SlR.or sl_tupA C8.sl_txt)) pa pl ph, fun G env st σ H Q q er s l h tE tX => ra G env st σ H _ _ er s l h (fun v d st1 G1 H1 p1 s1 r1 h1 => ?_) tX⟩
  refine rl G1 env st1 σ H1 _ _ er s1 (l.mono p1.le) h1 (fun lo st2 G2 H2 p2 s2 h2 => ?_) (tX.on p1)
  have p12 := p1.trans p2
  refine rh G2 env st2 σ H2 _ _ er s2 (l.mono p12.le) h2 (fun hi st3 G3 H3 p3 s3 h3 => ?_) (tX.on p12)
  have p13 := p12.trans p3
  have rv := ((r1.mono p2.le).mono p3.le).vw s3
  generalize vw st3 d = d' at h3 rv
  have here : ThenE X.K G3 H3 (fun d s => q d s) Q := fun v d st4 G4 H4 p4 s4 r4 h4 => tE v d st4 G4 H4 (p13.trans p4) s4 r4 h4
  cases rv with
  | lst hp rs => exact .inl ⟨_, _, rfl, SqL.of hp, fun a ha => by
      obtain ⟨s4, p4⟩ := s3.new (o := .lst (cutV _ lo hi)) ha
      exact here _ _ st3 _ _ p4 s4 (.lst upd_same ((Reps.cutL rs).mono p4.le)) h3⟩
  | tup hp rs rt => refine .inr (.inl ⟨_, _, rfl, SqT.of hp, fun hw => ?_, fun hw a ha => ?_⟩)
                    · have e : cutL _ lo hi = _ := cutL_all (xs := _) (by rw [rs.length]; exact hw.1) (by rw [rs.length]; exact hw.2)
                      have h3 : q (.tup (cutL _ lo hi)) st3 := h3
                      rw [e] at h3
                      exact here _ _ st3 G3 H3 Post.refl s3 rt h3
                    · obtain ⟨s4, p4⟩ := s3.new (o := .tup (cutV _ lo hi)) ha
                      exact here _ _ st3 _ _ p4 s4 (.tup upd_same ((Reps.cutL rs).mono p4.le)) h3
  | str z => exact .inr (.inr ⟨z, rfl, sz_of h3.1, here _ _ st3 G3 H3 Post.refl s3 (.str _) h3.2⟩)
  | _ => exact h3.elim
end
/-! ### is None; in -/
def nonD : D → Option Bool
  | .non => some true
  | .ref _ => none
  | _ => some false
def oIs : O2 := fun x y q => y = .non ∧ ∃ b, nonD x = some b ∧ q (.bl b)
def oIsNot : O2 := fun x y q => y = .non ∧ ∃ b, nonD x = some b ∧ q (.bl (!b))
def oIn : O2 := fun x y q => x.shp ∧ y.shp ∧ ∃ l, y = .lst l ∧ q (.bl (l.any fun z => D.eqv z x))
def oNotIn : O2 := fun x y q => x.shp ∧ y.shp ∧ ∃ l, y = .lst l ∧ q (.bl (!l.any fun z => D.eqv z x))
theorem nonD_ok {K : PySem.W.Frag} {G : Gh} {H : Hp} {d : D} {v : V} {b : Bool} (r : Rv K G H d v) (h : nonD d = some b) : decide (v = .non) = b := by
  cases r <;> cases h <;> rfl
theorem any_pys {x : D} (hx : x.plain = true) : ∀ {l : List D}, D.plains l = true → ((D.pys l).any fun z => PyData.eqv z x.py) = l.any fun z => D.eqv z x
  | [], _ => rfl
  | y :: l, h => by
    obtain ⟨h1, h2⟩ := Bool.and_eq_true_iff.mp (show (y.plain && D.plains l) = true from h)
    show (PyData.eqv y.py x.py || (D.pys l).any fun z => PyData.eqv z x.py) = (D.eqv y x || l.any fun z => D.eqv z x)
    rw [D.py_eqv h1 hx, any_pys hx h2]
section
variable {X : Cx} {W : WX} {k : Nat}
theorem op_Is : OpR X (compareOp .Is) (fun x y H Q => y = .non ∧ Q (.bl (decide (x = .non))) H) ∧ RefO X.K (fun x y H Q => y = .non ∧ Q (.bl (decide (x = .non))) H) oIs := ⟨op_isN, fun G st H x y dx dy Q q s rx ry h t => by
  obtain ⟨rfl, b, hb, h⟩ := h
  cases ry
  exact ⟨rfl, by rw [nonD_ok rx hb]; exact t.here s (.bl _) h⟩⟩
theorem op_IsNot : OpR X (compareOp .IsNot) (fun x y H Q => y = .non ∧ Q (.bl (!decide (x = .non))) H) ∧ RefO X.K (fun x y H Q => y = .non ∧ Q (.bl (!decide (x = .non))) H) oIsNot := ⟨op_notN, fun G st H x y dx dy Q q s rx ry h t => by
  obtain ⟨rfl, b, hb, h⟩ := h
  cases ry
  exact ⟨rfl, by rw [nonD_ok rx hb]; exact t.here s (.bl _) h⟩⟩
theorem op_In (C : CxE X W k) : OpR X (compareOp .In) (rInD X.K) ∧ RefO X.K (rInD X.K) oIn := ⟨op_inD (u64 C.room), fun G st H x y dx dy Q q s rx ry h t => by
  obtain ⟨h1, h2, l, rfl, h⟩ := h
  exact ⟨dx.py, D.pys l, rx.dp s.ex h1.1, ry.dp s.ex h2.1, D.shaped h1, D.shaped h2, by rw [any_pys h1.1 h2.1]; exact t.here s (.bl _) h⟩⟩
theorem op_NotIn (C : CxE X W k) : OpR X (compareOp .NotIn) (rNotInD X.K) ∧ RefO X.K (rNotInD X.K) oNotIn := ⟨op_notInD (u64 C.room), fun G st H x y dx dy Q q s rx ry h t => by
  obtain ⟨h1, h2, l, rfl, h⟩ := h
  exact ⟨dx.py, D.pys l, rx.dp s.ex h1.1, ry.dp s.ex h2.1, D.shaped h1, D.shaped h2, by rw [any_pys h1.1 h2.1]; exact t.here s (.bl _) h⟩⟩
/-- a constant of the module -/
theorem ax_gInt {x : Str} {i : Int} {pos : Pos} (hm : ∃ t, X.mg x = some (.int i t)) (hg : Gl X x := by rfl) (hd : (x == ("__debug__" : Str)) = false := by decide) : AX X W (.Name x pos) (aC (.int i)) := by
  obtain ⟨t, hm⟩ := hm
  exact ⟨_, pe_glob (v := .int i) hg hm ⟨t, rfl⟩ hd, refE_c fun _ => .int i⟩
theorem ax_gStr {x z : Str} {pos : Pos} (hm : ∃ t, X.mg x = some (.str z t)) (hg : Gl X x := by rfl) (hd : (x == ("__debug__" : Str)) = false := by decide) : AX X W (.Name x pos) (aC (.str z)) := by
  obtain ⟨t, hm⟩ := hm
  exact ⟨_, pe_glob (v := .str z) hg hm ⟨t, rfl⟩ hd, refE_c fun _ => .str z⟩
end
end AM
set_option Elab.async false
set_option linter.all false
set_option maxRecDepth 100000
set_option maxHeartbeats 4000000
namespace AM
open PySem PySem.Spec PyProof.Rows L2 Evl
/-! ### dicts: looked up, put -/
inductive DLook : List (D × D) → D → D → Prop
  | here {k v : D} {r : List (D × D)} : DLook ((k, v) :: r) k v
  | there {k k' v v' : D} {r : List (D × D)} : k' ≠ k → DLook r k v → DLook ((k', v') :: r) k v
inductive DPutD : List (D × D) → D → D → List (D × D) → Prop
  | nil {k v : D} : DPutD [] k v [(k, v)]
  | here {k v w : D} {r : List (D × D)} : (∀ p ∈ r, p.1 ≠ k) → DPutD ((k, w) :: r) k v ((k, v) :: r)
  | there {k k' v w : D} {r r' : List (D × D)} : k' ≠ k → DPutD r k v r' → DPutD ((k', w) :: r) k v ((k', w) :: r')
def isKeyT (d : D) : Prop := ∃ k : List Key, d = .tup (k.map kD)
def isKeyK (d : D) : Prop := ∃ k : Key, d = kD k
theorem kD_inj {a b : Key} (h : kD a = kD b) : a = b := by
  cases a <;> cases b <;> unfold kD at h <;> cases h <;> rfl
theorem kDs_inj : ∀ {a b : List Key}, a.map kD = b.map kD → a = b
  | [], [], _ => rfl
  | [], _ :: _, h => by cases h
  | _ :: _, [], h => by cases h
  | x :: xs, y :: ys, h => by
    rw [List.map_cons, List.map_cons] at h
    injection h with h1 h2
    rw [kD_inj h1, kDs_inj h2]
theorem kT_inj {a b : List Key} (h : D.tup (a.map kD) = .tup (b.map kD)) : a = b := kDs_inj (by injection h)
section
variable {K : PySem.W.Frag} {G : Gh} {H : Hp}
theorem rep_kD {k : Key} {v : V} (r : Rep K G (kD k) v) : v = kV k := by
  cases k with
  | inl i => cases r; rfl
  | inr x => cases r; rfl
theorem reps_kD : ∀ {k : List Key} {vs : List V}, Reps K G (k.map kD) vs → vs = k.map kV
  | [], _, .nil => rfl
  | x :: xs, _, .cons h r => by rw [List.map_cons, ← rep_kD h, ← reps_kD r]
theorem RepT.look {k : List Key} {d : D} : ∀ {ds : List (D × D)} {kvs : List (List Key × V)}, RepT K G ds kvs → DLook ds (.tup (k.map kD)) d → ∃ v, valV kvs k = some v ∧ Rep K G d v := by
  intro ds kvs r l
  generalize hk : D.tup (k.map kD) = kk at l
  induction l generalizing kvs with
  | here =>
    cases r with
    | cons h r =>
      rename_i k' v vs
      have : k' = k := kT_inj hk.symm
      subst this
      exact ⟨v, valV_pos rfl, h⟩
  | there ne l ih =>
    cases r with
    | cons h r =>
      rename_i k' v vs
      obtain ⟨w, e, rw'⟩ := ih r hk
      refine ⟨w, ?_, rw'⟩
      rw [valV_neg (show ¬ k' = k from fun z => ne (by rw [z]; exact hk))]
      exact e
theorem RepT.key : ∀ {ds : List (D × D)} {kvs : List (List Key × V)} {kk d : D}, RepT K G ds kvs → DLook ds kk d → isKeyT kk := by
  intro ds kvs kk d r l
  induction l generalizing kvs with
  | here => cases r; exact ⟨_, rfl⟩
  | there ne l ih => cases r with | cons h r => exact ih r
theorem RepK.look {k : Key} {d : D} : ∀ {ds : List (D × D)} {kvs : List (Key × V)}, RepK K G ds kvs → DLook ds (kD k) d → ∃ v, valV kvs k = some v ∧ Rep K G d v := by
  intro ds kvs r l
  generalize hk : kD k = kk at l
  induction l generalizing kvs with
  | here =>
    cases r with
    | cons h r =>
      rename_i k' v vs
      have : k' = k := kD_inj hk.symm
      subst this
      exact ⟨v, valV_pos rfl, h⟩
  | there ne l ih =>
    cases r with
    | cons h r =>
      rename_i k' v vs
      obtain ⟨w, e, rw'⟩ := ih r hk
      refine ⟨w, ?_, rw'⟩
      rw [valV_neg (show ¬ k' = k from fun z => ne (by rw [z]; exact hk))]
      exact e
theorem RepK.key : ∀ {ds : List (D × D)} {kvs : List (Key × V)} {kk d : D}, RepK K G ds kvs → DLook ds kk d → isKeyK kk := by
  intro ds kvs kk d r l
  induction l generalizing kvs with
  | here => cases r; exact ⟨_, rfl⟩
  | there ne l ih => cases r with | cons h r => exact ih r
theorem putK_ne {κ : Type} [DecidableEq κ] {k k' : κ} {w v : V} {r : List (κ × V)} (h : k' ≠ k) : putK ((k', w) :: r) k v = (k', w) :: putK r k v := by
  unfold putK
  rw [List.any_cons, show decide ((k', w).1 = k) = false from decide_eq_false h, Bool.false_or]
  cases r.any fun kv => decide (kv.1 = k) with
  | true => simp [h]
  | false => simp
theorem putK_eq {κ : Type} [DecidableEq κ] {k : κ} {w v : V} {r : List (κ × V)} (h : ∀ p ∈ r, p.1 ≠ k) : putK ((k, w) :: r) k v = (k, v) :: r := by
  unfold putK
  rw [List.any_cons, show decide ((k, w).1 = k) = true from decide_eq_true rfl, Bool.true_or, if_pos rfl, List.map_cons, if_pos rfl]
  congr 1
  have : ∀ l : List (κ × V), (∀ p ∈ l, p.1 ≠ k) → (l.map fun kv => if kv.1 = k then (kv.1, v) else kv) = l := by
    intro l
    induction l with
    | nil => intro _; rfl
    | cons a l ih =>
      intro h
      rw [List.map_cons, if_neg (h a List.mem_cons_self), ih fun p hp => h p (List.mem_cons_of_mem _ hp)]
  exact this r h
theorem RepT.keys : ∀ {ds : List (D × D)} {kvs : List (List Key × V)}, RepT K G ds kvs → ∀ p ∈ kvs, ∃ q ∈ ds, q.1 = .tup (p.1.map kD)
  | _, _, .nil, p, hp => by cases hp
  | _, _, .cons h r, p, hp => by
    rcases List.mem_cons.mp hp with rfl | hp
    · exact ⟨_, List.mem_cons_self, rfl⟩
    · obtain ⟨q, hq, e⟩ := r.keys p hp
      exact ⟨q, List.mem_cons_of_mem _ hq, e⟩
theorem RepT.put {k : List Key} {d : D} {v : V} {kvs : List (List Key × V)} {ds ds' : List (D × D)} (rv : Rep K G d v) (r : RepT K G ds kvs) (l : DPutD ds (.tup (k.map kD)) d ds') : RepT K G ds' (putK kvs k v) := by
  generalize hk : D.tup (k.map kD) = kk at l
  induction l generalizing kvs with
  | nil =>
    cases r
    rw [← hk]
    exact .cons rv .nil
  | here hn =>
    cases r with
    | cons h r =>
      have e := kT_inj hk
      subst e
      rw [putK_eq fun p hp z => ?_]
      · exact .cons rv r
      · obtain ⟨q, hq, e⟩ := r.keys p hp
        exact hn q hq (by rw [e, z])
  | there ne l ih =>
    cases r with
    | cons h r =>
      rw [putK_ne (fun z => ne (by rw [z]; exact hk))]
      exact .cons h (ih rv r hk)
theorem RepT.length : ∀ {ds : List (D × D)} {kvs : List (List Key × V)}, RepT K G ds kvs → ds.length = kvs.length
  | _, _, .nil => rfl
  | _, _, .cons _ r => congrArg Nat.succ r.length
theorem RepK.length : ∀ {ds : List (D × D)} {kvs : List (Key × V)}, RepK K G ds kvs → ds.length = kvs.length
  | _, _, .nil => rfl
  | _, _, .cons _ r => congrArg Nat.succ r.length
end
/-! ### d[k] -/
def rIxDic : R2 := fun x y H Q => ∃ a v, x = .ref a ∧ DGet H a y (some v) ∧ Q v H
def rIxAll (K : PySem.W.Frag) : R2 := fun x y H Q => rIxA K x y H Q ∨ rIxDic x y H Q
def oIxA : O2 := fun x y q => match x with
  | .dic l => ∃ d, DLook l y d ∧ q d
  | _ => oIx x y q
section
variable {X : Cx} {W : WX} {k : Nat}
theorem ix_dic (hu : X.A.units + 2 < cLine) : IxR X rIxDic := by
  intro value slice pins s σ H x y v u Q I rx ry h hs
  obtain ⟨a, w, rfl, g, q⟩ := h
  obtain rfl : v = Value.ref a := rx
  exact tail_any (ops := [.ref a, u]) (dict_typeIs I g) PySem.F.slot_dict_getitem.lookup (d_getItem (by omega) I g ry fun w' s3 I3 rw' => ⟨w, H, I3, rw', q⟩) hs
theorem dget_at {K : PySem.W.Frag} {G : Gh} {H : Hp} {l : List (D × D)} {dy d : D} {x y : V} (rx : Rv K G H (.dic l) x) (ry : Rv K G H dy y) (h : DLook l dy d) : ∃ a v, x = .ref a ∧ DGet H a y (some v) ∧ Rep K G d v := by
  cases rx with
  | dicT hp rk =>
    obtain ⟨kk, rfl⟩ := rk.key h
    obtain ⟨v, e, rv⟩ := rk.look h
    cases ry with
    | tup hy rs _ =>
      have := reps_kD rs
      subst this
      exact ⟨_, v, rfl, by rw [← e]; exact DGet.t hp hy, rv⟩
theorem op_IxA (C : CxE X W k) : IxR X (rIxAll X.K) ∧ RefO X.K (rIxAll X.K) oIxA := by
  refine ⟨IxR.or op_Ix.1 (ix_dic (by have := u64 C.room; omega)), fun G st H x y dx dy Q q s rx ry h t => ?_⟩
  cases dx with
  | dic l =>
    obtain ⟨d, hd, h⟩ := h
    obtain ⟨a, v, e, g, rv⟩ := dget_at rx ry hd
    exact .inr ⟨a, v, e, g, t.here s rv h⟩
  | _ => exact .inl (op_Ix.2 G st H x y _ dy Q q s rx ry h t)
end
end AM
set_option Elab.async false
set_option linter.all false
set_option maxRecDepth 100000
set_option maxHeartbeats 4000000
namespace AM
open PySem PySem.Spec PyProof.Rows L2 Evl
/-! ### {k: v for ..}, keys tuples (as HandS.DictComp has it for ints and texts) -/
theorem d_dictSetT {X : Cx} {pins : List (Addr × Obj)} {σ : L2.St} {H : Hp} {s : Shared} {E : Value → Shared → Prop} {D b : Addr} {kvs : List (List Key × V)} {k : List Key} {v : V} {r : Value} {Q : Unit → Shared → Prop} (hu : X.A.units + 1 < cLine) (I : Inv X pins σ H s) (hD : H D = some (.dT kvs)) (hz : kvs.length < sizeLine)
    (hb : H b = some (.tup (k.map kV))) (rv : RelV v r) (h : ∀ s', Inv X pins σ (upd H D (.dT (putK kvs k v))) s' → Q () s') : wpAny (model X.prog X.w) X.A (dictSet D (.ref b) r) Q E s := by
  obtain ⟨z, hd, xs, rel, dd⟩ := dt_of I.hok hD
  have hzv : xs.length ≤ sizeLine := by rw [← Paired.length rel]; exact z
  have hl : (putK kvs k v).length ≤ sizeLine := by have := length_putK kvs k v; omega
  refine wpAny_dictSet_heap (hsz := hzv) (show (tupleKind (mixKind X.prog X.w)).room X.A by show X.A.units < cLine; omega) (key_of I.hok hb) dd fun h' dd' hs => h _ ?_
  obtain ⟨q, es, ep, hq, h2, h3, h4, _, h5⟩ := dd'
  refine d_write I (by rw [hD]; exact True.intro) hs ⟨q, hq⟩ ⟨hl, hd, _, (rel.put k hb rv).keeps fun c ys ec => ?_, q, es, ep, hq, h2, h3, h4, h5⟩
  rw [upd_ne (ne_of ec hD (fun z => nomatch z))]
  exact ec
section
variable {X : Cx}
def tDcT (wi : TI) (g : TG) (tt : TT) (tk tv : TE) (vs : List Nat) : TE := fun σ H Q => wi σ H fun J H1 => ∀ D, H1 D = none → ∃ W : Nat → Nat → Hp → Prop, (∃ m, W 0 m (upd H1 D (.dT []))) ∧ ∀ i m H, W i m H →
  (J.stop i H ∧ Q (.ref D) H) ∨ (J.go i H ∧ ∃ Nx : Hp → Prop, (∀ H', Nx H' → ∃ m', m' < m ∧ W (i + 1) m' H') ∧ ∀ x H', J.yld i H x H' → g x (wipe σ vs) H' fun σ2 H2 => wipe σ2 vs = wipe σ vs ∧ tt σ2 H2 fun b H3 =>
    if b = true then tk σ2 H3 fun y H4 => tv σ2 H4 fun z H5 => ∃ kvs k b, y = .ref b ∧ H5 b = some (.tup (k.map kV)) ∧ H5 D = some (.dT kvs) ∧ kvs.length < sizeLine ∧ Nx (upd H5 D (.dT (putK kvs k z))) else Nx H3)
theorem dc_coreT {pins : List (Addr × Obj)} {s : Shared} {σ : L2.St} {H : Hp} {Q : VK} {use : Option (Value → Sem Unit)} {Qf : Value → Shared → Prop} {pos' : Pos} {kx vx tg iter : Expr} {ifs : List Expr} {scope : Scope} {own : List (Str × Nat)} {pos : Pos} {wi : TI} {g : TG} {tt : TT} {tk tv : TE} (hu : X.A.units + 1 < cLine) (hc : X.calm = true) (hN : X.N.Nodup) (hi : PI X tg iter wi) (ok : BlkOk X.N X.env.scope scope own)
    (hg : ∀ (s : Shared) (H : Hp) (C : Addr) (cl : List (Str × Addr)) (fp : List Addr), PG (X.blk s H scope (compEnvC scope cl C X.env) fp) tg g) (ht : ∀ (s : Shared) (H : Hp) (C : Addr) (cl : List (Str × Addr)) (fp : List Addr), PTs (X.blk s H scope (compEnvC scope cl C X.env) fp) ifs tt)
    (hk : ∀ (s : Shared) (H : Hp) (C : Addr) (cl : List (Str × Addr)) (fp : List Addr), PE (X.blk s H scope (compEnvC scope cl C X.env) fp) kx tk)
    (he : ∀ (s : Shared) (H : Hp) (C : Addr) (cl : List (Str × Addr)) (fp : List Addr), PE (X.blk s H scope (compEnvC scope cl C X.env) fp) vx tv) (hs : ∀ x, foldedSetIterable iter X.env x = pure x) (I : Inv X pins σ H s) (h : tDcT wi g tt tk tv (own.map (·.2)) σ H Q)
    (hRR : ∀ D C s' m H', Inv X pins σ H' s' → Q (.ref D) H' → s'.heap.Ns C m → FpOk X pins H' C → compPost (model X.prog X.w) X.A X.xe use Qf (.ref D) C (.ok .next) s') :
    wpAny (model X.prog X.w) X.A (comprehension (.DictComp kx vx [⟨tg, iter, ifs, 0⟩] scope pos) scope X.env pos' newDict false (eval iter X.env) use) Qf X.xe s := by
  have hfree : ∀ y ∈ scope.names, y.2 = .free → ∃ c, X.env.cells.lookup y.1 = some c := fun y hy e => by
    rcases ok.free y hy e with k | k
    · exact I.ok.has _ (.inl k)
    · exact I.ok.has _ (.inr k)
  refine wpAny_comprehension_free (use := use) rfl hs (closure_ok hfree) ok.kind (fun y hy e => by rw [ok.uniq y hy, e])
    (thn (hi.run pins s σ H _ I h) fun xv s1 hx => thn hx fun itv s2 h2 => ?_)
  obtain ⟨it, fp, tn, J, H2, e, I2, T, st2, f2, q⟩ := h2
  subst e
  refine wpAny_newObj_type (newEnv_comp ?_)
  generalize hD : s2.heap.objs.size = D
  have hDn : H2 D = none := I2.hok.fresh (Nat.le_of_eq hD)
  obtain ⟨W, ⟨m0, w0⟩, turn⟩ := q D hDn
  generalize hs3 : ({ s2 with heap := s2.heap.push { cls := .type "dict", data := .dict #[] } } : Shared) = s3
  have I3 : Inv X pins σ (upd H2 D (.dT [])) s3 := by
    rw [← hs3]
    refine I2.laid (t' := s2.toks) (fun b o e => Heap.get?_push_of_some _ e) (Nat.le_of_eq hD) ?_
    rw [← hD]
    exact dt_empty s2.heap I2.big
  have h3 : s3.heap = s2.heap.push { cls := .type "dict", data := .dict #[] } := by rw [← hs3]
  have sz : ∀ b ∈ fp, b < s2.heap.objs.size := fun b hb => by
    obtain ⟨o, e, _⟩ := T.obj _ _ st2 b hb
    exact Heap.lt_size e
  have f3 : ∀ b ∈ fp, FpOk X pins (upd H2 D (.dT [])) b ∧ b < s3.heap.objs.size := fun b hb => by
    have hlt := sz b hb
    refine ⟨⟨?_, (f2 b hb).2⟩, by rw [h3, Heap.size_push]; exact Nat.lt_succ_of_lt hlt⟩
    rw [upd_ne (by rw [← hD]; exact Nat.ne_of_lt hlt)]
    exact (f2 b hb).1
  have st3 : tn 0 s3.heap := T.keep _ _ _ st2 fun b _ o e => by rw [h3]; exact Heap.get?_push_of_some _ e
  have I4 := block_start I3 ok hN f3
  have pg := hg s3 (upd H2 D (.dT [])) s3.heap.objs.size (cellsFrom (s3.heap.objs.size + 1) scope.names (cloFrom X.env.cells scope.names [])) fp
  have pt := ht s3 (upd H2 D (.dT [])) s3.heap.objs.size (cellsFrom (s3.heap.objs.size + 1) scope.names (cloFrom X.env.cells scope.names [])) fp
  have pk := hk s3 (upd H2 D (.dT [])) s3.heap.objs.size (cellsFrom (s3.heap.objs.size + 1) scope.names (cloFrom X.env.cells scope.names [])) fp
  have pe := he s3 (upd H2 D (.dT [])) s3.heap.objs.size (cellsFrom (s3.heap.objs.size + 1) scope.names (cloFrom X.env.cells scope.names [])) fp
  show codeAny _ _ (.compStart (.DictComp kx vx [⟨tg, iter, ifs, 0⟩] scope pos) 0 (.ref it) (.ref D) (compEnvC scope (cellsFrom (s3.heap.objs.size + 1) scope.names (cloFrom X.env.cells scope.names [])) s3.heap.objs.size X.env)) (compPost (model X.prog X.w) X.A X.xe use Qf (.ref D) s3.heap.objs.size) { s3 with heap := pushCells (s3.heap.push { cls := .type "dict", data := .dict #[] }) scope.names }
  have nfp : ∀ b ∈ fp, (upd H2 D (.dT [])) b = none := fun b hb => (f3 b hb).1.1
  generalize hce : compEnvC scope (cellsFrom (s3.heap.objs.size + 1) scope.names (cloFrom X.env.cells scope.names [])) s3.heap.objs.size X.env = ce at I4 pg pt pk pe ⊢
  have cL : ce.locals = s3.heap.objs.size := by subst hce; rfl
  generalize hH3 : upd H2 D (.dT []) = H3 at I3 I4 pg pt pk pe w0 nfp f3
  generalize hs4 : ({ s3 with heap := pushCells (s3.heap.push { cls := .type "dict", data := .dict #[] }) scope.names } : Shared) = s4 at I4 ⊢
  have st4 : tn 0 s4.heap := T.keep _ _ _ st3 fun b _ o e => by rw [← hs4]; exact pushCells_keeps _ _ _ _ (Heap.get?_push_of_some _ e)
  have stat : ∀ {σ' : L2.St} {H' : Hp} {s' : Shared}, Inv (X.blk s3 H3 scope ce fp) [] σ' H' s' → (∀ b ∈ fp, H' b = none) → ∀ b ∈ fp, FpOk (X.blk s3 H3 scope ce fp) [] H' b := fun {σ' H' s'} I' hn b hb =>
    ⟨hn b hb, (I'.ok.exf b hb).1, I'.ok.exfs b hb, .inl hb, fun x c e => (I'.ok.exf b hb).2 x c e, fun p hp => absurd (show p ∈ ([] : List (Addr × Obj)) ++ [] from hp) (by simp)⟩
  have loop : codeAny (model X.prog X.w) X.A (.compLoop (.DictComp kx vx [⟨tg, iter, ifs, 0⟩] scope pos) 0 (.ref it) (.ref D) ce) (compPost (model X.prog X.w) X.A X.xe use Qf (.ref D) s3.heap.objs.size) s4 := by
    refine compLoop_anyD (fun n s' => ∃ i H', Inv (X.blk s3 H3 scope ce fp) [] (wipe σ (own.map (·.2))) H' s' ∧ tn i s'.heap ∧ (∀ b ∈ fp, H' b = none) ∧ W i n H') ?_ m0 ⟨0, H3, I4, st4, nfp, w0⟩
    rintro n s5 ⟨i, H5, I5, st5, n5, w5⟩
    rcases turn i n H5 w5 with ⟨stop, qq⟩ | ⟨go, Nx, hNx, step⟩
    · have td := T.done (X.blk s3 H3 scope ce fp) rfl rfl rfl hc i [] s5 _ H5 (fun _ _ => False) I5 (stat I5 n5) st5 stop
      refine thnF td fun r s6 ⟨hr, I6⟩ => ?_
      subst hr
      have I7 : Inv X pins σ H5 s6 := I3.call' (ch := fp) I6.os I6.base I6.hok I6.bare fun b hb => ⟨(f3 b hb).1.2.2.2.1, (f3 b hb).1.2.1, (f3 b hb).1.2.2.2.2.1, (f3 b hb).1.2.2.2.2.2⟩
      have nC : H5 s3.heap.objs.size = none := by
        have z : H5 ce.locals = none := I6.free
        rw [cL] at z
        exact z
      obtain ⟨m, hn, _⟩ := I6.loc
      have hn : s6.heap.Ns ce.locals m := hn
      rw [cL] at hn
      exact hRR D _ s6 m H5 I7 qq hn (I3.fpOk (Nat.le_refl _) nC)
    · have ti := T.item (X.blk s3 H3 scope ce fp) rfl rfl rfl hc i [] s5 _ H5 (fun _ _ => False) I5 (stat I5 n5) st5 go
      refine thnF ti fun r s6 ⟨u, hr, h6⟩ => ?_
      subst hr
      refine thnF h6 fun _ s7 ⟨x, H7, I7, r7, y7, st7, n7⟩ => ?_
      have I7' := I7.pinned (stat I7 n7) (T.obj _ _ st7)
      refine thnF (pg.run _ s7 _ H7 x u _ I7' r7 (step x H7 y7)) fun _ s8 ⟨σ8, H8, I8, hw8, q8⟩ => ?_
      refine thnF (pt.run _ s8 σ8 H8 _ I8 q8) fun b s9 ⟨H9, I9, q9⟩ => ?_
      have fin : ∀ {s' : Shared} {H' : Hp}, Inv (X.blk s3 H3 scope ce fp) ([] ++ pinsAt fp s7.heap) σ8 H' s' → Nx H' → ∃ m, m < n ∧ ∃ i H', Inv (X.blk s3 H3 scope ce fp) [] (wipe σ (own.map (·.2))) H' s' ∧ tn i s'.heap ∧ (∀ b ∈ fp, H' b = none) ∧ W i m H' := fun {s' H'} I' nx => by
        obtain ⟨m', hm, w'⟩ := hNx H' nx
        have pin' : ∀ b ∈ fp, ∀ o, s7.heap.get? b = some o → s'.heap.get? b = some o ∧ H' b = none := fun b hb o e =>
          let z := I'.pin (b, o) (List.mem_append_right _ (List.mem_append_right _ (mem_pinsAt hb e)))
          ⟨z.1, z.2.1⟩
        have hl : (wipe σ (own.map (·.2))).length = σ8.length := by rw [← hw8, wipe_length]
        refine ⟨m', hm, i + 1, H', (I'.unpinned (pins := [])).weak hl (fun j v e => ?_), T.keep _ _ _ st7 fun b hb o e => (pin' b hb o e).1, fun b hb => ?_, w'⟩
        · rw [← hw8] at e
          exact (wipe_some e).1
        · obtain ⟨o, e, _⟩ := T.obj _ _ st7 b hb
          exact (pin' b hb o e).2
      cases b with
      | false =>
        simp only [Bool.false_eq_true, if_false] at q9 ⊢
        exact fin I9 q9
      | true =>
        simp only [if_true] at q9 ⊢
        refine thnF (pk.run _ s9 σ8 H9 _ I9 q9) fun z s10 ⟨yk, H10, I10, r10, q10⟩ => ?_
        refine thnF (pe.run _ s10 σ8 H10 _ I10 q10) fun z2 s11 ⟨yv, H11, I11, r11, kvs, k, b, ek, hb11, hD11, hz11, nx⟩ => ?_
        subst ek
        obtain rfl : z = Value.ref b := r10
        exact d_dictSetT (X := X.blk s3 H3 scope ce fp) hu I11 hD11 hz11 hb11 r11 fun s12 I12 => fin I12 nx
  exact codeAny_compStart_dict loop (T.self X.A 0 _ _ _ st4 loop)
theorem pe_dcT {kx vx tg iter : Expr} {ifs : List Expr} {scope : Scope} {own : List (Str × Nat)} {pos : Pos} {wi : TI} {g : TG} {tt : TT} {tk tv : TE} (hu : X.A.units + 1 < cLine) (hc : X.calm = true) (hN : X.N.Nodup) (hi : PI X tg iter wi) (ok : BlkOk X.N X.env.scope scope own)
    (hg : ∀ (s : Shared) (H : Hp) (C : Addr) (cl : List (Str × Addr)) (fp : List Addr), PG (X.blk s H scope (compEnvC scope cl C X.env) fp) tg g) (ht : ∀ (s : Shared) (H : Hp) (C : Addr) (cl : List (Str × Addr)) (fp : List Addr), PTs (X.blk s H scope (compEnvC scope cl C X.env) fp) ifs tt)
    (hk : ∀ (s : Shared) (H : Hp) (C : Addr) (cl : List (Str × Addr)) (fp : List Addr), PE (X.blk s H scope (compEnvC scope cl C X.env) fp) kx tk)
    (he : ∀ (s : Shared) (H : Hp) (C : Addr) (cl : List (Str × Addr)) (fp : List Addr), PE (X.blk s H scope (compEnvC scope cl C X.env) fp) vx tv) (hs : ∀ x, foldedSetIterable iter X.env x = pure x := by intro _; rfl) :
    PE X (.DictComp kx vx [⟨tg, iter, ifs, 0⟩] scope pos) (tDcT wi g tt tk tv (own.map (·.2))) := by
  refine ⟨fun pins s σ H Q I h => ?_⟩
  rw [arm_eval_DictComp]
  refine dc_coreT hu hc hN hi ok hg ht hk he hs I h fun D C s' m H' I' q hn f => ⟨m, hn, fun h'' sb => ?_⟩
  obtain ⟨f0, f1, f2, f3, f4, f5⟩ := f
  exact ⟨.ref D, H', I'.turned (t' := s'.toks) (fun b o hb e => (sb.2 b hb).trans e) f0 f1 f3 f4 f5, rfl, q⟩
end
/-! ### a new dict grows at P -/
structure Bd (K : PySem.W.Frag) (P : Addr) (G : Gh) (H : Hp) (acc : List (D × D)) (G2 : Gh) (st2 : S) (H2 : Hp) : Prop where
  ss : SS K G2 st2 H2
  po : Post G H G2 H2
  new : H P = none
  na : P ∉ G2.as
  ng : G2.g P = none
  at_ : ∃ kvs, H2 P = some (.dT kvs) ∧ RepT K G2 acc kvs
def OwnD (K : PySem.W.Frag) (H : Hp) (G2 : Gh) (H2 : Hp) (l : List (D × D)) (v : V) : Prop := ∃ p kvs, v = .ref p ∧ H2 p = some (.dT kvs) ∧ G2.g p = none ∧ p ∉ G2.as ∧ H p = none ∧ RepT K G2 l kvs
section
variable {K : PySem.W.Frag} {P : Addr} {G G2 G3 : Gh} {H H2 H3 : Hp} {st st2 st3 : S} {acc acc' : List (D × D)}
theorem Bd.start (s : SS K G st H) (hP : H P = none) : Bd K P G H [] G st (upd H P (.dT [])) := by
  obtain ⟨s2, p2, na, ng⟩ := s.room (o := .dT []) hP
  exact ⟨s2, p2, hP, na, ng, [], upd_same, .nil⟩
theorem Bd.on (b : Bd K P G H acc G2 st2 H2) (p : Post G2 H2 G3 H3) (s3 : SS K G3 st3 H3) : Bd K P G H acc G3 st3 H3 := by
  obtain ⟨vs, e, r⟩ := b.at_
  refine ⟨s3, b.po.trans p, b.new, fun z => ?_, p.n P b.ng (ne_some e) b.na, vs, p.h P _ e b.na, r.mono p.le⟩
  rcases p.o P z with z | z
  · exact b.na z
  · rw [e] at z; cases z
theorem Bd.put (b : Bd K P G H acc G2 st2 H2) {k : List Key} {d : D} {v : V} (r : Rep K G2 d v) (hl : acc.length < 100000) (hp : DPutD acc (.tup (k.map kD)) d acc') : ∃ kvs, H2 P = some (.dT kvs) ∧ kvs.length < sizeLine ∧ Bd K P G H acc' G2 st2 (upd H2 P (.dT (putK kvs k v))) := by
  obtain ⟨vs, e, rs⟩ := b.at_
  refine ⟨vs, e, sz_lt (by rw [← rs.length]; exact hl), ⟨fun a o q => ?_, b.ss.len, b.ss.nd, fun n c p e1 e2 => (b.ss.cell n c p e1 e2).mono (Gh.le.refl _) (fun o q => ?_) (fun _ q => q)⟩, ⟨b.po.le, fun x o q k => ?_, b.po.n, b.po.o, fun x k => ?_⟩, b.new, b.na, b.ng, _, upd_same, RepT.put r rs hp⟩
  · rw [upd_ne (fun z => by rw [z, b.ng] at q; cases q)]; exact b.ss.ex a o q
  · rw [upd_ne (mem_ne b.na (List.mem_of_getElem? e2))]; exact q
  · rw [upd_ne (live_ne b.new (ne_some q))]; exact b.po.h x o q k
  · by_cases h : x = P
    · subst h; rw [upd_same]; exact fun z => nomatch z
    · rw [upd_ne h]; exact b.po.m x k
theorem OwnD.on {l : List (D × D)} {v : V} (p : Post G H G2 H2) (h : OwnD K H2 G3 H3 l v) : OwnD K H G3 H3 l v := by
  obtain ⟨a, vs, e1, e2, e3, e4, e5, e6⟩ := h
  refine ⟨a, vs, e1, e2, e3, e4, ?_, e6⟩
  cases hh : H a with
  | none => rfl
  | some o => exact absurd e5 (p.m a (by rw [hh]; exact fun z => nomatch z))
theorem Bd.own (b : Bd K P G H acc G2 st2 H2) : OwnD K H G2 H2 acc (.ref P) := by
  obtain ⟨vs, e, rs⟩ := b.at_
  exact ⟨P, vs, rfl, e, b.ng, b.na, b.new, rs⟩
theorem OwnD.res {l : List (D × D)} {v : V} (h : OwnD K H G2 H2 l v) : ResOk K H G2 H2 (.ownD l) v := by
  obtain ⟨p, vs, e1, e2, e3, e4, e5, e6⟩ := h
  exact ⟨p, e1, ⟨vs, e2, e6⟩, e3, e4, e5⟩
theorem ownD_frz {l : List (D × D)} {v : V} (s : SS K G2 st2 H2) (po : Post G H G2 H2) (h : OwnD K H G2 H2 l v) : ∃ G3, SS K G3 st2 H2 ∧ Post G H G3 H2 ∧ Rep K G3 (.dic l) v := by
  obtain ⟨p, vs, rfl, e, gp, np, hn, rs⟩ := h
  obtain ⟨s3, le⟩ := s.freeze e gp np
  exact ⟨_, s3, po.freeze gp hn, .dicT upd_same (rs.mono le)⟩
theorem ownD_cell {l : List (D × D)} {v : V} (s : SS K G2 st2 H2) (po : Post G H G2 H2) (h : OwnD K H G2 H2 l v) : ∃ G3, SS K G3 (st2 ++ [.dic l]) H2 ∧ Post G H G3 H2 ∧ Rep K G3 (.ref st2.length) v := by
  obtain ⟨p, vs, rfl, e, gp, np, hn, rs⟩ := h
  refine ⟨_, s.cellOf (c := .dic l) np ⟨gp, vs, e, rs.mono le_cell⟩, po.cellOf hn, .ref ?_⟩
  rw [← s.len, List.getElem?_append_right (Nat.le_refl _), Nat.sub_self]
  rfl
end
/-- a fresh dict -/
abbrev AFd := List A → S → (List (D × D) → S → Prop) → QX → Prop
def RefD (K : PySem.W.Frag) (W : WX) (te : TE) (af : AFd) : Prop := ∀ G env st σ H (Q : VK) (q : List (D × D) → S → Prop) (er : QX), SS K G st H → Sl K G env σ → af env st q er → (∀ v l st2 G2 H2, Post G H G2 H2 → SS K G2 st2 H2 → ResOk K H G2 H2 (.ownD l) v → q l st2 → Q v H2) → ThenX K W G H σ er → te σ H Q
def AXD (X : Cx) (W : WX) (e : Expr) (af : AFd) : Prop := ∃ te, PE X e te ∧ RefD X.K W te af
def aFd (f : AFd) : AE := fun env st q er => f env st (fun l s1 => q (.dic l) s1) er
theorem RefD.e {K : PySem.W.Frag} {W : WX} {te : TE} {af : AFd} (h : RefD K W te af) : RefE K W te (aFd af) := fun G env st σ H Q q er s l a tE tX =>
  h G env st σ H Q _ er s l a (fun v ds st2 G2 H2 p2 s2 r2 h2 => by
    obtain ⟨G3, s3, p3, r3⟩ := ownd_frz s2 p2 r2
    exact tE v _ st2 G3 H2 p3 s3 r3 h2) tX
def aDcL (gd : Gd) (g : AG) (t : AT) (ek ev : AE) (env : List A) (q : List (D × D) → S → Prop) : List D → List (D × D) → S → Prop
  | [], acc, st => gdOk gd st ∧ q acc st
  | x :: xs, acc, st => gdOk gd st ∧ g x env st fun e1 => t e1 st (fun b s2 => if b = true then ek e1 s2 (fun kk s3 => ev e1 s3 (fun y s4 => isKeyT kk ∧ acc.length < 100000 ∧ ∃ acc', DPutD acc kk y acc' ∧ aDcL gd g t ek ev env q xs acc' s4) (fun _ _ => False)) (fun _ _ => False) else aDcL gd g t ek ev env q xs acc s2) (fun _ _ => False)
def fDc (it : AI) (g : AG) (t : AT) (ek ev : AE) (vs : List Nat) : AFd := fun env st q er => it env st (fun ds gd s1 => aDcL gd g t ek ev (wA vs env) q ds [] s1) er
theorem refD_dc {K : PySem.W.Frag} {W : WX} {wi : TI} {ai : AI} {g : TG} {ag : AG} {tt : TT} {xt : AT} {tk te : TE} {ak ae : AE} {vs : List Nat} (hi : RefI K W wi ai) (hg : RefG K g ag) (hs : Stays vs g) (ht : RefT K W0 tt xt) (hk : RefE K W0 tk ak) (he : RefE K W0 te ae) :
    RefD K W (tDcT wi g tt tk te vs) (fDc ai ag xt ak ae vs) := fun G env st σ H Q q er s l h tE tX => by
  refine hi G env st σ H _ _ er s l h (fun J ds gd st2 G2 H2 p2 s2 wk h2 => ?_) tX
  intro P hP
  have b0 := Bd.start s2 hP
  have l0 := (l.mono p2.le).wipe vs
  have gk : ∀ {ds acc st}, aDcL gd ag xt ak ae (wA vs env) q ds acc st → gdOk gd st := fun {ds acc st} h => by cases ds <;> exact h.1
  let Inv : Nat → Hp → Prop := fun i H' => i ≤ ds.length ∧ ∃ acc G3 st3, Bd K P G2 H2 acc G3 st3 H' ∧ G2.le G3 ∧ aDcL gd ag xt ak ae (wA vs env) q (ds.drop i) acc st3
  refine ⟨fun i m H' => m = ds.length - i ∧ Inv i H', ⟨ds.length, by omega, Nat.zero_le _, [], G2, st2, b0, Gh.le.refl _, h2⟩, ?_⟩
  rintro i m H' ⟨rfl, hle, acc, G3, st3, b3, le3, f3⟩
  have s3 := b3.ss
  have k3 := gk f3
  by_cases hlt : i < ds.length
  · refine .inr ⟨wk.go i G3 st3 H' le3 s3 k3 hlt, Inv (i + 1), fun H4 h4 => ⟨ds.length - (i + 1), by omega, rfl, h4⟩, fun x H5 y => ?_⟩
    rw [List.drop_eq_getElem_cons hlt] at f3
    have hd : ds[i]? = some ds[i] := by simp [hlt]
    have turn : ∀ G6, Post G3 H' G6 H5 → SS K G6 st3 H5 → Rep K G6 ds[i] x → g x (wipe σ vs) H5 fun σ2 H2 => wipe σ2 vs = wipe σ vs ∧ tt σ2 H2 fun b H3 =>
        if b = true then tk σ2 H3 fun y H4 => te σ2 H4 fun z H5 => ∃ kvs k b, y = .ref b ∧ H5 b = some (.tup (k.map kV)) ∧ H5 P = some (.dT kvs) ∧ kvs.length < sizeLine ∧ Inv (i + 1) (upd H5 P (.dT (putK kvs k z))) else Inv (i + 1) H3 := fun G6 p6 s6 rr => by
      have b6 := b3.on p6 s6
      have le6 := le3.trans p6.le
      refine stay_g hg hs s6 (l0.mono le6) rr f3.2 fun env7 σ7 hw l7 h7 => ?_
      refine ht G6 env7 st3 σ7 H5 _ _ _ s6 l7 h7 (fun bb st8 G8 H8 p8 s8 h8 => ?_) ThenX.none
      cases bb with
      | false => exact ⟨hlt, acc, G8, st8, b6.on p8 s8, le6.trans p8.le, h8⟩
      | true =>
        refine hk G8 env7 st8 σ7 H8 _ _ _ s8 (l7.mono p8.le) h8 (fun w d st9 G9 H9 p9 s9 r9 h9 => ?_) ThenX.none
        have p89 := p8.trans p9
        refine he G9 env7 st9 σ7 H9 _ _ _ s9 (l7.mono p89.le) h9 (fun w2 d2 st10 G10 H10 p10 s10 r10 h10 => ?_) ThenX.none
        obtain ⟨⟨kk, rfl⟩, hl, acc', hp, h10⟩ := h10
        have p810 := p89.trans p10
        obtain ⟨kvs, e1, e2, e3⟩ := (b6.on p810 s10).put r10 hl hp
        cases (r9.mono p10.le) with
        | tup hb rs =>
          have := reps_kD rs
          subst this
          exact ⟨kvs, kk, _, rfl, s10.ex _ _ hb, e1, e2, hlt, acc', G10, st10, e3, le6.trans p810.le, h10⟩
    rcases wk.yld i G3 st3 H' _ x H5 le3 s3 k3 hd y with ⟨e5, rr⟩ | ⟨p, xs, es, hp, e5, ex, ed, rs⟩
    · subst e5
      exact turn G3 Post.refl s3 rr
    · obtain ⟨s6, p6⟩ := s3.new (o := .tup xs) hp
      rw [← e5] at s6 p6
      refine turn _ p6 s6 ?_
      rw [ed, ex]
      exact .tup upd_same (rs.mono p6.le)
  · have e : i = ds.length := by omega
    subst e
    rw [List.drop_length] at f3
    exact .inl ⟨wk.stop _ G3 st3 H' le3 s3 k3 rfl, tE _ acc st3 G3 H' (p2.trans b3.po) s3 (b3.own.on p2).res f3.2⟩
section
variable {X : Cx} {W : WX} {k : Nat} {pos spos : Pos} {kx vx tg iter : Expr} {ifs : List Expr} {scope : Scope} {own : List (Str × Nat)} {ai : AI} {ag : AG} {xt : AT} {ak ae : AE}
theorem axd_dc (own : List (Str × Nat)) (C : CxE X W k) (ok : BlkOk X.N X.env.scope scope own) (hi : AXI X W tg iter ai)
    (hg : ∀ (s : Shared) (H : Hp) (C : Addr) (cl : List (Str × Addr)) (fp : List Addr), AXGc (X.blk s H scope (compEnvC scope cl C X.env) fp) (own.map (·.2)) tg ag) (ht : ∀ (s : Shared) (H : Hp) (C : Addr) (cl : List (Str × Addr)) (fp : List Addr), AXTs (X.blk s H scope (compEnvC scope cl C X.env) fp) W0 ifs xt)
    (hk : ∀ (s : Shared) (H : Hp) (C : Addr) (cl : List (Str × Addr)) (fp : List Addr), AX (X.blk s H scope (compEnvC scope cl C X.env) fp) W0 kx ak)
    (he : ∀ (s : Shared) (H : Hp) (C : Addr) (cl : List (Str × Addr)) (fp : List Addr), AX (X.blk s H scope (compEnvC scope cl C X.env) fp) W0 vx ae) (hs : ∀ x, foldedSetIterable iter X.env x = pure x := by intro _; rfl) :
    AXD X W (.DictComp kx vx [⟨tg, iter, ifs, 0⟩] scope pos) (fDc ai ag xt ak ae (own.map (·.2))) := by
  obtain ⟨t, p, r⟩ := hi
  exact ⟨_, pe_dcT (by have := u64 C.room; omega) C.calm C.nd p ok (fun s H C cl fp => (hg s H C cl fp).pg) (fun s H C cl fp => (ht s H C cl fp).pts) (fun s H C cl fp => (hk s H C cl fp).pe) (fun s H C cl fp => (he s H C cl fp).pe) hs, refD_dc r rdG_ref rdG_stays rdT_ref rdE_ref rdE_ref⟩
theorem axd_e {e : Expr} {f : AFd} (h : AXD X W e f) : AX X W e (aFd f) := by
  obtain ⟨t, p, r⟩ := h
  exact ⟨t, p, r.e⟩
/-- {} whose keys are to be tuples -/
def fDNew : AFd := fun _ st q _ => q [] st
theorem axd_new : AXD X W (.Dict [] [] pos) fDNew := ⟨_, pe_dnewT, fun G env st σ H Q q er s l h tE tX => fun p hp => by
  obtain ⟨s2, p2, na, ng⟩ := s.room (o := .dT []) hp
  exact tE _ [] st G _ p2 s2 ⟨p, rfl, ⟨[], upd_same, .nil⟩, ng, na, hp⟩ h⟩
end
end AM
set_option Elab.async false
set_option linter.all false
set_option maxRecDepth 100000
set_option maxHeartbeats 4000000
namespace AM
open PySem PySem.Spec PyProof.Rows L2 Evl
/-! ### == of dicts whose keys are tuples -/
section
variable {prog : Program} {w : World} {K : Type} [DecidableEq K] {knd : HeapKind prog w K} {A : Around} {E : Value → Shared → Prop} {s : Shared}
inductive HitsH (A : Around) (s : Shared) (xb : List (K × Addr × Value)) : List (K × Addr × Value) → Bool → Prop
  | nil : HitsH A s xb [] true
  | miss {k : K} {q : Addr × Value} {r : List (K × Addr × Value)} : (∀ (j : Nat) (p : Addr × Value), xb[j]? ≠ some (k, p)) → HitsH A s xb ((k, q) :: r) false
  | hit {k : K} {p p' : Addr} {v y : Value} {r : List (K × Addr × Value)} {j : Nat} {e b : Bool} : xb[j]? = some (k, (p', y)) → SeqAt.EqAt A s v y e → HitsH A s xb r b → HitsH A s xb ((k, (p, v)) :: r) (e && b)
theorem typeIsH {s : Shared} {d : Addr} {xs : List (K × Addr × Value)} (x : s.heap.DictOfH knd d xs) : s.TypeIs (.ref d) "dict" := let ⟨o, _, _, ho, hc, _⟩ := x; ⟨o, ho, hc.1⟩
theorem samePairsH {nm : String} {a b : Addr} {xa xb : List (K × Addr × Value)} {r : Bool} {Q : Bool → Shared → Prop} (hu : knd.room A) (ha : (a == sysModules) = false) (hb : (b == sysModules) = false)
    (da : s.heap.DictOfH knd a xa) (db : s.heap.DictOfH knd b xb) (hits : xa.length = xb.length → HitsH A s xb xa r) (h : Q (xa.length == xb.length && r) s) :
    wpAny (model prog w) A (Builtin.Dict.samePairs nm a b) Q E s := by
  obtain ⟨oa, es, ep, hoa, _, hda, hea, hia, hna⟩ := da
  obtain ⟨ob, es', ep', hob, _, hdb, heb, hib, hnb⟩ := db
  have hla : xa.length = es.size := (size_of_entries hea).symm
  have hlb : xb.length = es'.size := (size_of_entries heb).symm
  rw [hla, hlb] at h
  unfold Builtin.Dict.samePairs Builtin.Dict.showsAll
  rw [if_neg (show ¬ (a == sysModules) = true by rw [ha]; exact Bool.false_ne_true), if_neg (show ¬ (b == sysModules) = true by rw [hb]; exact Bool.false_ne_true)]
  refine wpAny_bind (wpAny_pure (wpAny_bind (wpAny_pure ?_)))
  refine wpAny_bind (wpAny_dictEntries hoa hda ?_)
  dsimp only
  refine wpAny_bind (wpAny_dictEntries hob hdb ?_)
  by_cases hsz : es.size = es'.size
  case neg =>
    rw [if_pos (by simpa using hsz)]
    have hbf : (es.size == es'.size) = false := by simpa using hsz
    rw [hbf, Bool.false_and] at h
    exact wpAny_bind (wpAny_rule (wpAny_pure h))
  case pos =>
    have h' : Q r s := by simpa [hsz] using h
    have hits' := hits (by rw [hla, hlb]; exact hsz)
    rw [if_neg (by rw [hsz]; simp)]
    refine wpAny_bind (wpAny_dictEpoch hoa hda ?_)
    refine wpAny_bind ?_
    rw [Std.Legacy.Range.forIn_eq_forIn_range']
    simp only [Std.Legacy.Range.size, Nat.sub_zero, Nat.add_sub_cancel, Nat.div_one]
    refine wpAny_forIn_list _
      (fun rest q s' => s' = s ∧ q = (none, ()) ∧ ∃ i, rest = List.range' i (es.size - i) ∧ i ≤ es.size ∧ HitsH A s xb (xa.drop i) r)
      _ ?_ ?_ _ _ ⟨rfl, rfl, 0, by simp, Nat.zero_le _, hits'⟩
    · rintro x rest q s' ⟨rfl, rfl, i, hr, hi, hpre⟩
      have hlt : i < es.size := by
        rcases Nat.lt_or_ge i es.size with h | h
        · exact h
        · rw [Nat.sub_eq_zero_of_le h] at hr; simp at hr
      obtain ⟨rfl, hrest⟩ : x = i ∧ rest = List.range' (i + 1) (es.size - (i + 1)) := by
        have e : es.size - i = (es.size - (i + 1)) + 1 := by omega
        rw [e, List.range'_succ] at hr
        injection hr with h1 h2
        exact ⟨h1, h2⟩
      refine wpAny_bind (wpAny_dictEntries hoa hda ?_)
      have hlt' : x < xa.length := by rw [hla]; exact hlt
      obtain ⟨k, p, v, hkv⟩ : ∃ k p v, xa[x] = (k, (p, v)) := ⟨_, _, _, rfl⟩
      have hget : es[x]? = some ⟨knd.hash k, .ref p, v⟩ := by
        rw [entry_at hea x, List.getElem?_eq_getElem hlt', hkv]
        rfl
      rw [hget]
      have hdrop : xa.drop x = (k, (p, v)) :: xa.drop (x + 1) := by rw [← hkv]; exact List.drop_eq_getElem_cons hlt'
      rw [hdrop] at hpre
      have hkey : knd.is s'.heap k p := by
        have := hia xa[x] (List.getElem_mem hlt')
        rw [hkv] at this
        exact this
      show wpAny _ _ (holding [.ref p, v] _ >>= _) _ _ _
      refine wpAny_bind (wpAny_holding (wpAny_bind (wpAny_dictFind_heap hu hkey hob hdb heb hib hnb (fun hno => ?_) (fun j pp hj => ?_))))
      · have hp : ∀ {l : List (K × Addr × Value)} {b : Bool}, HitsH A s' xb l b → l = (k, (p, v)) :: xa.drop (x + 1) → b = false := by
          intro l b hh
          cases hh with
          | nil => intro z; cases z
          | miss _ => intro _; rfl
          | hit hj _ _ => intro z; injection z with z1 _; injection z1 with z1 _; subst z1; exact absurd hj (hno _ _)
        rw [hp hpre rfl] at h'
        refine wpAny_pure ?_
        show wpAny _ _ (if (!false) = true then _ else _) _ _ _
        rw [if_pos (by decide)]
        exact wpAny_pure (wpAny_pure h')
      · refine wpAny_bind (wpAny_dictEntries hob hdb ?_)
        rw [entry_at heb j, hj]
        have hp : ∀ {l : List (K × Addr × Value)} {b : Bool}, HitsH A s' xb l b → l = (k, (p, v)) :: xa.drop (x + 1) → ∃ e b', SeqAt.EqAt A s' v pp.2 e ∧ HitsH A s' xb (xa.drop (x + 1)) b' ∧ b = (e && b') := by
          intro l b hh
          cases hh with
          | nil => intro z; cases z
          | miss hno => intro z; injection z with z1 _; injection z1 with z1 _; subst z1; exact absurd hj (hno _ _)
          | hit hj' he hr' =>
            intro z
            injection z with z1 z2
            injection z1 with z1 z3
            injection z3 with z3 z4
            subst z1 z2 z4
            have e1 := atKey_of_get hnb hj
            have e2 := atKey_of_get hnb hj'
            rw [e1] at e2
            cases e2
            exact ⟨_, _, he, hr', rfl⟩
        obtain ⟨e, b', he, hrr, er⟩ := hp hpre rfl
        refine wpAny_holding (he prog w _ _ ?_)
        cases e with
        | false =>
          rw [er, Bool.false_and] at h'
          show wpAny _ _ (if (!false) = true then _ else _) _ _ _
          rw [if_pos (by decide)]
          exact wpAny_pure (wpAny_pure h')
        | true =>
          rw [Bool.true_and] at er
          rw [← er] at hrr
          show wpAny _ _ (if (!true) = true then _ else _) _ _ _
          rw [if_neg (by decide)]
          refine wpAny_bind (wpAny_dictEpoch hoa hda ?_)
          rw [if_neg (by simp)]
          exact wpAny_pure ⟨rfl, rfl, x + 1, hrest, hlt, hrr⟩
    · rintro q s' ⟨rfl, rfl, i, hr, hi, hpre⟩
      have hin : i = es.size := by
        rcases Nat.lt_or_ge i es.size with h | h
        · have e : es.size - i = (es.size - (i + 1)) + 1 := by omega
          rw [e, List.range'_succ] at hr; exact nomatch hr
        · exact Nat.le_antisymm hi h
      refine wpAny_pure ?_
      rw [hin, ← hla, List.drop_length] at hpre
      cases hpre
      exact h'
theorem eqH {a b : Addr} {xa xb : List (K × Addr × Value)} {r : Bool} {Q : Value → Shared → Prop} (hr : knd.room A.in1) (ha : (a == sysModules) = false) (hb : (b == sysModules) = false)
    (da : s.heap.DictOfH knd a xa) (db : s.heap.DictOfH knd b xb) (hu : A.units < cLine) (hits : xa.length = xb.length → HitsH A.in1 s xb xa r) (h : Q (.bool (xa.length == xb.length && r)) s) :
    wpAny (model prog w) A (compareOp .Eq (.ref a) (.ref b)) Q E s := by
  refine wpAny_richCompare_same_room (op := .Eq) (typeIsH da) (typeIsH db) PySem.F.slot_dict_eq (wpAny_call_entry PySem.F.slot_dict_eq (typeIsH da) PySem.F.entry_dict_eq ?_ (PySem.F.args_dict_eq_2 _ _)) hu
  show wpAny _ _ (Builtin.Dict.dictSlotArgs "__eq__" ⟨[.ref a, .ref b], []⟩ >>= _) _ _ s
  refine wpAny_bind ?_
  unfold Builtin.Dict.dictSlotArgs
  refine wpAny_bind (wpAny_notOrdered_dict (typeIsH da) ?_)
  show wpAny _ _ (pure (Value.ref a, Value.ref b)) _ _ s
  refine wpAny_pure ?_
  refine wpAny_bind (wpAny_isInstance (T := "dict") (typeIsH db) PySem.F.sub_dict_dict ?_)
  simp only [Bool.not_true, Bool.false_eq_true, if_false]
  refine wpAny_bind (wpAny_pure (wpAny_bind (wpAny_pure ?_)))
  refine wpAny_bind (samePairsH hr ha hb da db hits ?_)
  refine wpAny_pure ⟨_, rfl, ?_, ?_⟩
  · exact fun x => nomatch x
  · simpa using h
end
/-! ### by values, by data -/
inductive VHits (K : PySem.W.Frag) (H : Hp) (m : List (List Key × V)) : List (List Key × V) → Bool → Prop
  | nil : VHits K H m [] true
  | miss {k : List Key} {v : V} {r : List (List Key × V)} : valV m k = none → VHits K H m ((k, v) :: r) false
  | hit {k : List Key} {v y : V} {d e : PyData} {r : List (List Key × V)} {b : Bool} : valV m k = some y → Dp K H v d → Dp K H y e → SeqAt.shaped d = true → SeqAt.shaped e = true → VHits K H m r b → VHits K H m ((k, v) :: r) (PyData.eqv d e && b)
def rEqT (K : PySem.W.Frag) : R2 := fun x y H Q => ∃ a b kvs kws r, x = .ref a ∧ y = .ref b ∧ H a = some (.dT kvs) ∧ H b = some (.dT kws) ∧ (kvs.length = kws.length → VHits K H kws kvs r) ∧ Q (.bl (kvs.length == kws.length && r)) H
section
variable {X : Cx}
theorem hits_of {pins : List (Addr × Obj)} {σ : L2.St} {H : Hp} {s : Shared} {kws : List (List Key × V)} {xb : List (List Key × Addr × Value)} (hu : X.A.in1.units + 64 < cLine) (I : Inv X pins σ H s) (rb : KT H kws xb) (hn : (xb.map (·.1)).Nodup) :
    ∀ {kvs : List (List Key × V)} {xa : List (List Key × Addr × Value)} {r : Bool}, KT H kvs xa → VHits X.K H kws kvs r → HitsH X.A.in1 s xb xa r := by
  intro kvs xa r ra h
  induction h generalizing xa with
  | nil => cases ra; exact .nil
  | @miss k v r hm =>
    cases ra with
    | cons p t =>
      rename_i q qs
      obtain ⟨k', a', v'⟩ := q
      obtain ⟨e1, e2, e3⟩ := p
      obtain rfl : k = k' := e1
      refine .miss fun j p hj => ?_
      have e := atKey_of_get hn hj
      have z := rb.val k
      rw [hm, e] at z
      exact z
  | @hit k v y d e r b hm d1 d2 s1 s2 _ ih =>
    cases ra with
    | cons p t =>
      rename_i q qs
      obtain ⟨k', a', v'⟩ := q
      obtain ⟨e1, e2, e3⟩ := p
      obtain rfl : k = k' := e1
      have z := rb.val k
      rw [hm] at z
      obtain ⟨w', hw, rw'⟩ := RelO.some_of z
      obtain ⟨⟨p', y'⟩, hp, hp2⟩ := Option.map_eq_some_iff.mp hw
      obtain rfl : y' = w' := hp2
      unfold atKey at hp
      obtain ⟨x, hx, hx2⟩ := Option.map_eq_some_iff.mp hp
      have hk := List.find?_some hx
      have hmem := List.mem_of_find?_eq_some hx
      obtain ⟨j, hj⟩ := List.mem_iff_getElem?.mp hmem
      have hk : x.1 = _ := of_decide_eq_true hk
      have hx' : x = (_, (p', y')) := Prod.ext hk hx2
      rw [hx'] at hj
      obtain ⟨as, r1⟩ := Dp.reads I _ _ _ d1 e3
      obtain ⟨bs, r2⟩ := Dp.reads I _ _ _ d2 rw'
      exact .hit hj (PySem.W.keq_at r1 r2 s1 s2 hu) (ih t)
theorem op_eqT (hu : X.A.units + 65 < cLine) : OpR X (compareOp .Eq) (rEqT X.K) := by
  intro pins s σ H x y v u Q I rx ry h
  obtain ⟨a, b, kvs, kws, r, rfl, rfl, ea, eb, hh, q⟩ := h
  obtain rfl : v = Value.ref a := rx
  obtain rfl : u = Value.ref b := ry
  obtain ⟨za, ha, xa, ra, da⟩ := dt_of I.hok ea
  obtain ⟨zb, hb, xb, rb, db⟩ := dt_of I.hok eb
  have l1 := Paired.length ra
  have l2 := Paired.length rb
  have hu1 : X.A.in1.units + 64 < cLine := by show X.A.units + 1 + 64 < cLine; omega
  refine eqH (show (tupleKind (mixKind X.prog X.w)).room X.A.in1 by show X.A.units + 1 < cLine; omega) ha hb da db (by omega) (r := r) (fun hl => hits_of hu1 I rb (by obtain ⟨_, _, _, _, _, _, _, _, hn⟩ := db; exact hn) ra (hh (by omega))) ?_
  rw [← l1, ← l2]
  exact ⟨.bl _, H, I, rfl, q⟩
end
inductive DHits (m : List (D × D)) : List (D × D) → Bool → Prop
  | nil : DHits m [] true
  | miss {k v : D} {r : List (D × D)} : (∀ p ∈ m, p.1 ≠ k) → DHits m ((k, v) :: r) false
  | hit {k v w : D} {r : List (D × D)} {b : Bool} : DLook m k w → v.shp → w.shp → DHits m r b → DHits m ((k, v) :: r) (D.eqv v w && b)
def keysT (l : List (D × D)) : Prop := l ≠ [] ∧ ∀ p ∈ l, isKeyT p.1
def oEqT : O2 := fun x y q => ∃ l m b, x = .dic l ∧ y = .dic m ∧ keysT l ∧ keysT m ∧ (l.length = m.length → DHits m l b) ∧ q (.bl (l.length == m.length && b))
section
variable {K : PySem.W.Frag} {G : Gh} {H : Hp}
theorem RepK.noT {l : List (D × D)} {kvs : List (Key × V)} (r : RepK K G l kvs) (h : keysT l) : False := by
  cases r with
  | nil => exact h.1 rfl
  | cons q r =>
    rename_i k d v ds vs
    obtain ⟨kk, e⟩ := h.2 (kD k, d) List.mem_cons_self
    cases k <;> cases e
theorem Rv.dT {l : List (D × D)} {v : V} (r : Rv K G H (.dic l) v) (h : keysT l) : ∃ a kvs, v = .ref a ∧ H a = some (.dT kvs) ∧ RepT K G l kvs := by
  cases r with
  | dicT hp rk => exact ⟨_, _, rfl, hp, rk⟩
theorem RepT.none {k : List Key} : ∀ {m : List (D × D)} {kws : List (List Key × V)}, RepT K G m kws → (∀ p ∈ m, p.1 ≠ .tup (k.map kD)) → valV kws k = none
  | _, _, .nil, _ => rfl
  | _, _, .cons (k := k') h r, hn => by
    rw [valV_neg (show ¬ k' = k from fun z => hn _ List.mem_cons_self (by rw [z]))]
    exact r.none fun p hp => hn p (List.mem_cons_of_mem _ hp)
theorem vhits {m : List (D × D)} {kws : List (List Key × V)} (e : Ex G.g H) (rm : RepT K G m kws) : ∀ {l : List (D × D)} {kvs : List (List Key × V)} {b : Bool}, RepT K G l kvs → DHits m l b → VHits K H kws kvs b := by
  intro l kvs b rl h
  induction h generalizing kvs with
  | nil => cases rl; exact .nil
  | miss hm =>
    cases rl with
    | cons h r => exact .miss (rm.none hm)
  | hit hl hv hw _ ih =>
    cases rl with
    | cons h r =>
      obtain ⟨y, e1, ry⟩ := rm.look hl
      rw [← D.py_eqv hv.1 hw.1]
      exact .hit e1 (h.dp e hv.1) (ry.dp e hw.1) (D.shaped hv) (D.shaped hw) (ih r)
end
theorem op_EqT {X : Cx} {W : WX} {k : Nat} (C : CxE X W k) : OpR X (compareOp .Eq) (rEqT X.K) ∧ RefO X.K (rEqT X.K) oEqT := ⟨op_eqT (u64 C.room), fun G st H x y dx dy Q q s rx ry h t => by
  obtain ⟨l, m, b, rfl, rfl, kl, km, hh, h⟩ := h
  obtain ⟨a, kvs, rfl, ha, ra⟩ := rx.dT kl
  obtain ⟨a', kws, rfl, hb, rb⟩ := ry.dT km
  refine ⟨a, a', kvs, kws, b, rfl, rfl, ha, hb, fun e => vhits s.ex rb ra (hh (by rw [ra.length, rb.length]; exact e)), ?_⟩
  rw [← ra.length, ← rb.length]
  exact t.here s (.bl _) h⟩
end AM
set_option Elab.async false
set_option linter.all false
set_option maxRecDepth 100000
set_option maxHeartbeats 4000000
namespace AM
open PySem PySem.Spec PyProof.Rows L2 Evl
/-! ### own operators, by data -/
def isCls (c : Str) : D → Prop
  | .obj c' _ => c' = c
  | _ => False
def isInt : D → Prop
  | .int _ => True
  | _ => False
def anyD : D → Prop := fun _ => True
theorem isCls_at {c : Str} {K : PySem.W.Frag} {G : Gh} {H : Hp} {d : D} {v : V} (r : Rv K G H d v) (h : isCls c d) : ∃ a dx fs, v = .ref a ∧ H a = some (.ins (He.ga K c) dx fs) := by
  cases r with
  | obj hp rf =>
    obtain rfl := (show _ = c from h)
    exact ⟨_, _, _, rfl, hp⟩
  | _ => exact h.elim
/-- the result, whatever it is, as a value -/
def rsD (q : D → S → Prop) : Rs → S → Prop := fun r s => match r with
  | .d x => q x s
  | .own l => q (.lst l) s
  | .ownD l => q (.dic l) s
def aOwn2 (c : Str) (mf : AF) (P : D → Prop) (a b : AE) : AE := fun env st q er => a env st (fun x s1 => b env s1 (fun y s2 => isCls c (vw s2 x) ∧ P (vw s2 y) ∧ mf [x, y] s2 (rsD q) er) er) er
def aOwn1 (c : Str) (mf : AF) (a : AE) : AE := fun env st q er => a env st (fun x s1 => isCls c (vw s1 x) ∧ mf [x] s1 (rsD q) er) er
def aOwnIn (c : Str) (neg : Bool) (mf : AF) (a b : AE) : AE := fun env st q er => a env st (fun x s1 => b env s1 (fun y s2 => isCls c (vw s2 y) ∧ mf [y, x] s2 (fun r s3 => ∃ k, r = .d (.bl k) ∧ q (.bl (k != neg)) s3) er) er) er
section
variable {K : PySem.W.Frag} {W : WX} {c : Str} {mf : AF} {ta tb : TE} {aa ab : AE}
theorem refE_own2 {P : D → Prop} {PV : V → Hp → Prop} (hP : ∀ {G H d v}, Rv K G H d v → P d → PV v H) (ha : RefE K W ta aa) (hb : RefE K W tb ab) : RefE K W (tOwn2 (He.ga K c) (SpA K mf) (fun σ c d H => W c d σ H) PV ta tb) (aOwn2 c mf P aa ab) := fun G env st σ H Q q er s l h tE tX => by
  refine ha G env st σ H _ _ er s l h (fun v d st1 G1 H1 p1 s1 r1 h1 => ?_) tX
  refine hb G1 env st1 σ H1 _ _ er s1 (l.mono p1.le) h1 (fun u d2 st2 G2 H2 p2 s2 r2 h2 => ?_) (tX.on p1)
  obtain ⟨h2, h3, h4⟩ := h2
  have r1' := r1.mono p2.le
  obtain ⟨a, dx, fs, rfl, hp⟩ := isCls_at (r1'.vw s2) h2
  have p12 := p1.trans p2
  refine ⟨a, dx, fs, rfl, hp, hP (r2.vw s2) h3, G2, st2, _, _, er, s2, .cons r1' (.cons r2 .nil), h4, fun v r st3 G3 H3 p3 s3 r3 h5 => ?_, fun e c dx st3 G3 H3 p3 s3 ea h3 => tX e c dx st3 G3 H3 (p12.trans p3) s3 ea h3⟩
  cases r with
  | d x => exact tE v x st3 G3 H3 (p12.trans p3) s3 r3 h5
  | own l =>
    obtain ⟨G4, s4, p4, r4⟩ := own_frz s3 p3 r3
    exact tE v _ st3 G4 H3 (p12.trans p4) s4 r4 h5
  | ownD l =>
    obtain ⟨G4, s4, p4, r4⟩ := ownd_frz s3 p3 r3
    exact tE v _ st3 G4 H3 (p12.trans p4) s4 r4 h5
theorem refE_own1 (ha : RefE K W ta aa) : RefE K W (tOwn1 (He.ga K c) (SpA K mf) (fun σ c d H => W c d σ H) ta) (aOwn1 c mf aa) := fun G env st σ H Q q er s l h tE tX => by
  refine ha G env st σ H _ _ er s l h (fun v d st1 G1 H1 p1 s1 r1 h1 => ?_) tX
  obtain ⟨h2, h4⟩ := h1
  obtain ⟨a, dx, fs, rfl, hp⟩ := isCls_at (r1.vw s1) h2
  refine ⟨a, dx, fs, rfl, hp, G1, st1, _, _, er, s1, .cons r1 .nil, h4, fun v r st3 G3 H3 p3 s3 r3 h5 => ?_, fun e c dx st3 G3 H3 p3 s3 ea h3 => tX e c dx st3 G3 H3 (p1.trans p3) s3 ea h3⟩
  cases r with
  | d x => exact tE v x st3 G3 H3 (p1.trans p3) s3 r3 h5
  | own l =>
    obtain ⟨G4, s4, p4, r4⟩ := own_frz s3 p3 r3
    exact tE v _ st3 G4 H3 (p1.trans p4) s4 r4 h5
  | ownD l =>
    obtain ⟨G4, s4, p4, r4⟩ := ownd_frz s3 p3 r3
    exact tE v _ st3 G4 H3 (p1.trans p4) s4 r4 h5
theorem refE_ownIn {neg : Bool} (ha : RefE K W ta aa) (hb : RefE K W tb ab) : RefE K W (tOwnIn (He.ga K c) neg (SpA K mf) (fun σ c d H => W c d σ H) ta tb) (aOwnIn c neg mf aa ab) := fun G env st σ H Q q er s l h tE tX => by
  refine ha G env st σ H _ _ er s l h (fun v d st1 G1 H1 p1 s1 r1 h1 => ?_) tX
  refine hb G1 env st1 σ H1 _ _ er s1 (l.mono p1.le) h1 (fun u d2 st2 G2 H2 p2 s2 r2 h2 => ?_) (tX.on p1)
  obtain ⟨h2, h4⟩ := h2
  have r1' := r1.mono p2.le
  obtain ⟨a, dx, fs, rfl, hp⟩ := isCls_at (r2.vw s2) h2
  have p12 := p1.trans p2
  refine ⟨a, dx, fs, rfl, hp, G2, st2, _, _, er, s2, .cons r2 (.cons r1' .nil), h4, fun v r st3 G3 H3 p3 s3 r3 h5 => ?_, fun e c dx st3 G3 H3 p3 s3 ea h3 => tX e c dx st3 G3 H3 (p12.trans p3) s3 ea h3⟩
  obtain ⟨k, rfl, h5⟩ := h5
  cases r3
  exact ⟨k, rfl, tE _ _ st3 G3 H3 (p12.trans p3) s3 (.bl _) h5⟩
theorem pv_any {G : Gh} {H : Hp} {d : D} {v : V} (_ : Rv K G H d v) (_ : anyD d) : PAny v H := trivial
theorem pv_int {G : Gh} {H : Hp} {d : D} {v : V} (r : Rv K G H d v) (h : isInt d) : PInt v H := by
  cases r with
  | int i => exact ⟨i, rfl⟩
  | _ => exact h.elim
theorem pv_cls {G : Gh} {H : Hp} {d : D} {v : V} (r : Rv K G H d v) (h : isCls c d) : PIns (He.ga K c) v H := isCls_at r h
end
section
variable {X : Cx} {W : WX} {k j : Nat} {a b : Expr} {c : Str} {pos : Pos} {aa ab : AE} {mf : AF} {f : Addr} {fd : FuncData} {ps : List Str}
theorem ax_ownIx (C : CxE X W (k + 1)) (F : FnOk X.prog X.w X.K X.mg X.base (L2N.CX X.prog X.w) j f fd ps (SpA X.K mf)) (hb : BindsD X.K fd ps []) (hs : PySem.W.findIn X.K (.ref (He.ga X.K c)) "__getitem__" = some (some (.ref f))) (hf : PySem.W.fnIn X.K f = true) (hfn : PySem.W.isFn X.K (.ref f) = true) (ha : AX X W a aa) (hi : AX X W b ab) (hj : j ≤ k)
    (hsl : ∀ x i, subscripted b true x i = runValue (.builtin "lifetime.subscript" ⟨[x, i], []⟩) := by intro _ _; with_unfolding_all rfl) : AX X W (.Subscript a b pos) (aOwn2 c mf anyD aa ab) := by
  obtain ⟨ta, pa, ra⟩ := ha
  obtain ⟨tb, pb, rb⟩ := hi
  obtain ⟨ds, hv, hb⟩ := hb
  cases hv
  exact ⟨_, pe_subO (E := fun σ c d H => W c d σ H) F (C.room.mono (by omega)) hs hf hfn hb (fun σ => L2N.passAt C.takes σ) pa pb hsl, refE_own2 pv_any ra rb⟩
theorem ax_ownAdd {op : Operator} (C : CxE X W k) (F : FnOk X.prog X.w X.K X.mg X.base (L2N.CX X.prog X.w) j f fd ps (SpA X.K mf)) (hb : BindsD X.K fd ps []) (hc : PySem.W.selfFirst X.K (He.ga X.K c) = true) (hs : PySem.W.findIn X.K (.ref (He.ga X.K c)) (PySem.dunder op.info.2) = some (some (.ref f))) (hfn : PySem.W.isFn X.K (.ref f) = true) (ha : AX X W a aa) (hi : AX X W b ab) (hj : j ≤ k) :
    AX X W (.BinOp a op b pos) (aOwn2 c mf (isCls c) aa ab) := by
  obtain ⟨ta, pa, ra⟩ := ha
  obtain ⟨tb, pb, rb⟩ := hi
  obtain ⟨ds, hv, hb⟩ := hb
  cases hv
  exact ⟨_, pe_addO (E := fun σ c d H => W c d σ H) F (C.room.mono hj) hc hs hfn hb (fun σ => L2N.passAt C.takes σ) pa pb, refE_own2 pv_cls ra rb⟩
theorem ax_ownMul {op : Operator} {fo ro : Option Value} (C : CxE X W k) (F : FnOk X.prog X.w X.K X.mg X.base (L2N.CX X.prog X.w) j f fd ps (SpA X.K mf)) (hb : BindsD X.K fd ps []) (hc : PySem.W.selfFirst X.K (He.ga X.K c) = true) (hs : PySem.W.findIn X.K (.ref (He.ga X.K c)) (PySem.dunder op.info.2) = some (some (.ref f))) (hfn : PySem.W.isFn X.K (.ref f) = true) (hrr : PySem.W.findIn X.K (.ref (He.ga X.K c)) (dunderR op.info.2) = some none)
    (h1 : PySem.W.findIn X.K (.type "int") (PySem.dunder op.info.2) = some fo) (h2 : PySem.W.findIn X.K (.type "int") (dunderR op.info.2) = some ro) (hsub : PySem.W.subIn X.K (.type "int") (.ref (He.ga X.K c)) = some false) (ha : AX X W a aa) (hi : AX X W b ab) (hj : j ≤ k) :
    AX X W (.BinOp a op b pos) (aOwn2 c mf isInt aa ab) := by
  obtain ⟨ta, pa, ra⟩ := ha
  obtain ⟨tb, pb, rb⟩ := hi
  obtain ⟨ds, hv, hb⟩ := hb
  cases hv
  exact ⟨_, pe_mulO (E := fun σ c d H => W c d σ H) F (C.room.mono hj) hc hs hfn hrr (.inl rfl) h1 h2 hsub hb (fun σ => L2N.passAt C.takes σ) pa pb, refE_own2 pv_int ra rb⟩
theorem ax_ownNeg (C : CxE X W k) (F : FnOk X.prog X.w X.K X.mg X.base (L2N.CX X.prog X.w) j f fd ps (SpA X.K mf)) (hb : BindsD X.K fd ps []) (hs : PySem.W.findIn X.K (.ref (He.ga X.K c)) "__neg__" = some (some (.ref f))) (hfn : PySem.W.isFn X.K (.ref f) = true) (ha : AX X W a aa) (hj : j ≤ k) :
    AX X W (.UnaryOp .USub a pos) (aOwn1 c mf aa) := by
  obtain ⟨ta, pa, ra⟩ := ha
  obtain ⟨ds, hv, hb⟩ := hb
  cases hv
  exact ⟨_, pe_negO (E := fun σ c d H => W c d σ H) F (C.room.mono hj) hs hfn hb (fun σ => L2N.passAt C.takes σ) pa, refE_own1 ra⟩
theorem ax_ownEq (C : CxE X W k) (F : FnOk X.prog X.w X.K X.mg X.base (L2N.CX X.prog X.w) j f fd ps (SpA X.K mf)) (hb : BindsD X.K fd ps []) (hn : PySem.W.notFirst X.K (He.ga X.K c) (.ref (He.ga X.K c)) = true) (hs : PySem.W.findIn X.K (.ref (He.ga X.K c)) "__eq__" = some (some (.ref f))) (hfn : PySem.W.isFn X.K (.ref f) = true) (ha : AX X W a aa) (hi : AX X W b ab) (hj : j ≤ k) (hm : behindInMarks .Eq b = false := by first | exact nobehind _ (by decide) (by decide) | rfl) :
    AX X W (.Compare a [.Eq] [b] pos) (aOwn2 c mf (isCls c) aa ab) := by
  obtain ⟨ta, pa, ra⟩ := ha
  obtain ⟨tb, pb, rb⟩ := hi
  obtain ⟨ds, hv, hb⟩ := hb
  cases hv
  exact ⟨_, pe_cmp (pe_eqO (E := fun σ c d H => W c d σ H) F (C.room.mono hj) hn hs hfn hb (fun σ => L2N.passAt C.takes σ) pa pb) hm, refE_own2 pv_cls ra rb⟩
theorem axt_ownEq (C : CxE X W k) (F : FnOk X.prog X.w X.K X.mg X.base (L2N.CX X.prog X.w) j f fd ps (SpA X.K mf)) (hb : BindsD X.K fd ps []) (hn : PySem.W.notFirst X.K (He.ga X.K c) (.ref (He.ga X.K c)) = true) (hs : PySem.W.findIn X.K (.ref (He.ga X.K c)) "__eq__" = some (some (.ref f))) (hfn : PySem.W.isFn X.K (.ref f) = true) (ha : AX X W a aa) (hi : AX X W b ab) (hj : j ≤ k) (hm : behindInMarks .Eq b = false := by first | exact nobehind _ (by decide) (by decide) | rfl) :
    AXT X W (.Compare a [.Eq] [b] pos) (aTest (aOwn2 c mf (isCls c) aa ab)) := by
  obtain ⟨ta, pa, ra⟩ := ha
  obtain ⟨tb, pb, rb⟩ := hi
  obtain ⟨ds, hv, hb⟩ := hb
  cases hv
  exact ⟨_, pt_cmp (pe_eqO (E := fun σ c d H => W c d σ H) F (C.room.mono hj) hn hs hfn hb (fun σ => L2N.passAt C.takes σ) pa pb) hm, refT_test (refE_own2 pv_cls ra rb)⟩
theorem ax_ownIn (C : CxE X W k) (F : FnOk X.prog X.w X.K X.mg X.base (L2N.CX X.prog X.w) j f fd ps (SpA X.K mf)) (hb : BindsD X.K fd ps []) (hs : PySem.W.findIn X.K (.ref (He.ga X.K c)) "__contains__" = some (some (.ref f))) (hfn : PySem.W.isFn X.K (.ref f) = true) (ha : AX X W a aa) (hi : AX X W b ab) (hj : j ≤ k) (hm : behindInMarks .In b = false := by rfl) :
    AX X W (.Compare a [.In] [b] pos) (aOwnIn c false mf aa ab) ∧ AXT X W (.Compare a [.In] [b] pos) (aTest (aOwnIn c false mf aa ab)) := by
  obtain ⟨ta, pa, ra⟩ := ha
  obtain ⟨tb, pb, rb⟩ := hi
  obtain ⟨ds, hv, hb⟩ := hb
  cases hv
  have p := pc_inO (neg := false) (E := fun σ c d H => W c d σ H) F (C.room.mono hj) hs hfn hb (fun σ => L2N.passAt C.takes σ) pa pb
  exact ⟨⟨_, pe_cmp p hm, refE_ownIn ra rb⟩, _, pt_cmp p hm, refT_test (refE_ownIn ra rb)⟩
theorem ax_ownNotIn (C : CxE X W k) (F : FnOk X.prog X.w X.K X.mg X.base (L2N.CX X.prog X.w) j f fd ps (SpA X.K mf)) (hb : BindsD X.K fd ps []) (hs : PySem.W.findIn X.K (.ref (He.ga X.K c)) "__contains__" = some (some (.ref f))) (hfn : PySem.W.isFn X.K (.ref f) = true) (ha : AX X W a aa) (hi : AX X W b ab) (hj : j ≤ k) (hm : behindInMarks .NotIn b = false := by rfl) :
    AX X W (.Compare a [.NotIn] [b] pos) (aOwnIn c true mf aa ab) ∧ AXT X W (.Compare a [.NotIn] [b] pos) (aTest (aOwnIn c true mf aa ab)) := by
  obtain ⟨ta, pa, ra⟩ := ha
  obtain ⟨tb, pb, rb⟩ := hi
  obtain ⟨ds, hv, hb⟩ := hb
  cases hv
  have p := pc_inO (neg := true) (E := fun σ c d H => W c d σ H) F (C.room.mono hj) hs hfn hb (fun σ => L2N.passAt C.takes σ) pa pb
  exact ⟨⟨_, pe_cmp p hm, refE_ownIn ra rb⟩, _, pt_cmp p hm, refT_test (refE_ownIn ra rb)⟩
end
end AM
set_option Elab.async false
set_option linter.all false
set_option maxRecDepth 100000
set_option maxHeartbeats 4000000
namespace AM
open PySem PySem.Spec PyProof.Rows L2 Evl
/-! ### isinstance(x, C), C an own class; its name as a value -/
def isiD (io : Str → Str → Option Bool) (it : String → Str → Option Bool) (c : Str) (d : D) : Option Bool := match d with
  | .obj c' _ => io c' c
  | _ => match tyD d with
    | some t => it t c
    | none => none
def bIsiO (io : Str → Str → Option Bool) (it : String → Str → Option Bool) : ON := fun xs q => match xs with
  | [x, .fn c] => ∃ b, isiD io it c x = some b ∧ q (.bl b)
  | _ => False
structure IsiC (K : PySem.W.Frag) (C : Addr) : Prop where
  cl : Cls K C
  ha : PySem.W.findIn K (.ref C) "__class__" = some (some (.builtin "object.__class__"))
  hn : PySem.W.specialIn K (.builtin "object.__class__") "__get__" = some (some (.builtin "getset_descriptor.__get__"))
  htk : PySem.W.takesIn K (.builtin "object.__class__") = some true
  hm : PySem.W.mroIn K C (.type "object") = some true
def isiB (K : PySem.W.Frag) (C : Addr) : Bool := He.eqO (PySem.W.findIn K (.ref C) "__class__") (some (some (.builtin "object.__class__"))) && (He.eqO (PySem.W.specialIn K (.builtin "object.__class__") "__get__") (some (some (.builtin "getset_descriptor.__get__"))) && (decide (PySem.W.takesIn K (.builtin "object.__class__") = some true) && decide (PySem.W.mroIn K C (.type "object") = some true)))
theorem isiB_ok {K : PySem.W.Frag} {C : Addr} (cl : Cls K C) (h : isiB K C = true) : IsiC K C := by
  unfold isiB at h
  simp only [Bool.and_eq_true] at h
  exact ⟨cl, He.eqO_ok h.1, He.eqO_ok h.2.1, of_decide_eq_true h.2.2.1, of_decide_eq_true h.2.2.2⟩
theorem kit_self {K : PySem.W.Frag} {t : Value} : PySem.W.kitOne K t t = some true := by
  unfold PySem.W.kitOne
  rw [if_pos (by simp)]
section
variable {X : Cx} {W : WX} {K : PySem.W.Frag}
theorem cb_isiO {io : Str → Str → Option Bool} {it : String → Str → Option Bool} (h1 : ∀ c' c b, io c' c = some b → IsiC X.K (He.ga X.K c') ∧ PySem.W.kitOne X.K (.ref (He.ga X.K c')) (.ref (He.ga X.K c)) = some b) (h2 : ∀ t c b, it t c = some b → PySem.W.kitOne X.K (.type t) (.ref (He.ga X.K c)) = some b) : CB X (.builtin "isinstance") (bIsiO io it) := ⟨_, call_isi, fun G st H xs ds Q q s r h t => by
  unfold bIsiO at h
  split at h
  · rename_i x c
    obtain ⟨b, hb, h⟩ := h
    cases r with
    | cons r1 r2 =>
      cases r2 with
      | cons r2 r3 =>
        cases r2; cases r3
        cases x with
        | obj c' fs =>
          cases r1 with
          | obj hp rf =>
            obtain ⟨i, k⟩ := h1 c' c b hb
            exact ⟨_, _, _, _, b, rfl, .own _, .base (.ins hp i.cl i.ha i.hn i.htk i.hm), k, t.here s (.bl _) h⟩
        | _ =>
          unfold isiD at hb
          simp only at hb
          split at hb
          · rename_i ty hty
            exact ⟨_, _, _, _, b, rfl, .own _, ty_ok r1 hty, h2 ty c b hb, t.here s (.bl _) h⟩
          · cases hb
  · exact h.elim⟩
theorem ax_gFn {x : Str} {pos : Pos} (hm : X.mg x = some (.ref (He.ga X.K x))) (hg : Gl X x := by rfl) (hd : (x == ("__debug__" : Str)) = false := by decide) : AX X W (.Name x pos) (aC (.fn x)) := ⟨_, pe_glob (v := .ref (He.ga X.K x)) hg hm rfl hd, refE_c fun _ => .fn x⟩
end
end AM
set_option Elab.async false
set_option linter.all false
set_option maxRecDepth 100000
set_option maxHeartbeats 4000000
namespace AM
open PySem PySem.Spec PyProof.Rows L2 Evl
/-! ### one form a theorem, so that what is expected is seen -/
section
variable {X : Cx} {W : WX} {k j : Nat} {o e a b : Expr} {es : List Expr} {m c x : Str} {p pos apos : Pos} {ao aa' ab : AE} {aa : AEs} {mf : AF} {fa : Addr} {fd : FuncData} {ps : List Str} {dd : List D} {dvs : List V}
theorem ax_methV {pl : Sem Bool} (C : CxE X W k) (ha : AX X W o ao) (hc : Cls X.K (He.ga X.K c)) (hm : Meth X.K (He.ga X.K c) m fa) (F : FnOk X.prog X.w X.K X.mg X.base (L2N.CX X.prog X.w) j fa fd ps (SpA X.K mf)) (hb : BindsD X.K fd ps dvs) (hdd : ∀ G, Reps X.K G dd dvs) (hr : AXA X W (e :: es) aa) (hj : j ≤ k)
    (hst : starEach (e :: es) X.env = (false, eval e X.env) :: starEach es X.env := by rfl) (hpl : (backTo pos (starEach es X.env)).any (·.1) = false := by rfl)
    (ht : eval (.Call (.Attribute o m apos) (e :: es) [] pos) X.env = (do
      let ov ← eval o X.env
      standAt apos.atName
      let (f, first) ← holding [ov] (getMethod ov m pl)
      callWith pos f first (backTo pos (starEach (e :: es) X.env)) (backToKw pos (keywordEach [] X.env))) := by rfl) :
    AX X W (.Call (.Attribute o m apos) (e :: es) [] pos) (aMeth c m mf ao aa dd) := (ax_meth (pl := pl) C ha hc hm F hb hdd hr hj hst hpl ht).1
theorem ax_methF {pl : Sem Bool} (C : CxE X W k) (ha : AX X W o ao) (hc : Cls X.K (He.ga X.K c)) (hm : Meth X.K (He.ga X.K c) m fa) (F : FnOk X.prog X.w X.K X.mg X.base (L2N.CX X.prog X.w) j fa fd ps (SpA X.K mf)) (hb : BindsD X.K fd ps dvs) (hdd : ∀ G, Reps X.K G dd dvs) (hr : AXA X W (e :: es) aa) (hj : j ≤ k)
    (hst : starEach (e :: es) X.env = (false, eval e X.env) :: starEach es X.env := by rfl) (hpl : (backTo pos (starEach es X.env)).any (·.1) = false := by rfl)
    (ht : eval (.Call (.Attribute o m apos) (e :: es) [] pos) X.env = (do
      let ov ← eval o X.env
      standAt apos.atName
      let (f, first) ← holding [ov] (getMethod ov m pl)
      callWith pos f first (backTo pos (starEach (e :: es) X.env)) (backToKw pos (keywordEach [] X.env))) := by rfl) :
    AXF X W (.Call (.Attribute o m apos) (e :: es) [] pos) (fMeth c m mf ao aa dd) := (ax_meth (pl := pl) C ha hc hm F hb hdd hr hj hst hpl ht).2
theorem ax_meth0V {pl : Sem Bool} (C : CxE X W k) (ha : AX X W o ao) (hc : Cls X.K (He.ga X.K c)) (hm : Meth X.K (He.ga X.K c) m fa) (F : FnOk X.prog X.w X.K X.mg X.base (L2N.CX X.prog X.w) j fa fd ps (SpA X.K mf)) (hb : BindsD X.K fd ps dvs) (hdd : ∀ G, Reps X.K G dd dvs) (hj : j ≤ k)
    (ht : eval (.Call (.Attribute o m apos) [] [] pos) X.env = (do
      let ov ← eval o X.env
      standAt apos.atName
      let (f, first) ← holding [ov] (getMethod ov m pl)
      callWith pos f first (backTo pos (starEach [] X.env)) (backToKw pos (keywordEach [] X.env))) := by rfl) :
    AX X W (.Call (.Attribute o m apos) [] [] pos) (aMeth c m mf ao aNil dd) := (ax_meth0 (pl := pl) C ha hc hm F hb hdd hj ht).1
theorem ax_meth0F {pl : Sem Bool} (C : CxE X W k) (ha : AX X W o ao) (hc : Cls X.K (He.ga X.K c)) (hm : Meth X.K (He.ga X.K c) m fa) (F : FnOk X.prog X.w X.K X.mg X.base (L2N.CX X.prog X.w) j fa fd ps (SpA X.K mf)) (hb : BindsD X.K fd ps dvs) (hdd : ∀ G, Reps X.K G dd dvs) (hj : j ≤ k)
    (ht : eval (.Call (.Attribute o m apos) [] [] pos) X.env = (do
      let ov ← eval o X.env
      standAt apos.atName
      let (f, first) ← holding [ov] (getMethod ov m pl)
      callWith pos f first (backTo pos (starEach [] X.env)) (backToKw pos (keywordEach [] X.env))) := by rfl) :
    AXF X W (.Call (.Attribute o m apos) [] [] pos) (fMeth c m mf ao aNil dd) := (ax_meth0 (pl := pl) C ha hc hm F hb hdd hj ht).2
theorem ax_newV (C : CxE X W (k + 1)) (M : Mk X.K (He.ga X.K x) fa) (F : FnOk X.prog X.w X.K X.mg X.base (L2N.CX X.prog X.w) j fa fd ps (SpA X.K mf)) (hm : X.mg x = some (.ref (He.ga X.K x))) (hb : BindsD X.K fd ps dvs) (hdd : ∀ G, Reps X.K G dd dvs) (hr : AXA X W (e :: es) aa) (hj : j ≤ k)
    (hg : Gl X x := by rfl) (hdb : (x == ("__debug__" : Str)) = false := by decide) (he : starEach (e :: es) X.env = (false, eval e X.env) :: starEach es X.env := by rfl) (hpl : (backTo pos (starEach es X.env)).any (·.1) = false := by rfl) :
    AX X W (.Call (.Name x p) (e :: es) [] pos) (aNew x mf aa dd) := (ax_new C M F hm hb hdd hr hj hg hdb he hpl).1
theorem ax_newC (C : CxE X W (k + 1)) (M : Mk X.K (He.ga X.K x) fa) (F : FnOk X.prog X.w X.K X.mg X.base (L2N.CX X.prog X.w) j fa fd ps (SpA X.K mf)) (hm : X.mg x = some (.ref (He.ga X.K x))) (hb : BindsD X.K fd ps dvs) (hdd : ∀ G, Reps X.K G dd dvs) (hr : AXA X W (e :: es) aa) (hj : j ≤ k)
    (hg : Gl X x := by rfl) (hdb : (x == ("__debug__" : Str)) = false := by decide) (he : starEach (e :: es) X.env = (false, eval e X.env) :: starEach es X.env := by rfl) (hpl : (backTo pos (starEach es X.env)).any (·.1) = false := by rfl) :
    AX X W (.Call (.Name x p) (e :: es) [] pos) (aNewM x mf aa dd) := (ax_new C M F hm hb hdd hr hj hg hdb he hpl).2
end
end AM
set_option Elab.async false
set_option linter.all false
set_option maxRecDepth 100000
set_option maxHeartbeats 4000000
namespace AM
open PySem PySem.Spec PyProof.Rows L2 Evl
/-! ### except clauses of both kinds, with a name and without one, one behind the other -/
abbrev Su := Addr → Value → Option Addr → TS
abbrev Cl := Value × Option Nat × Su
/-- a clause's ends: its name is gone behind it -/
def endsAt (D : Ends) : Option Nat → Ends
  | none => D
  | some i => { nx := fun t H' => D.nx (t.set i none) H', rt := D.rt, bk := fun t H' => D.bk (t.set i none) H', ct := fun t H' => D.ct (t.set i none) H' }
def putAt (t : L2.St) (a : Addr) : Option Nat → L2.St
  | none => t
  | some i => t.set i (some (.ref a))
def wMix (K : PySem.W.Frag) (Wo : WX) (D : Ends) : List Cl → WX
  | [] => Wo
  | (c, o, ts) :: r => fun cls d t H => ∃ b, PySem.W.exmOne K cls c = some b ∧ (b = true → ∀ a, H a = none → ts a cls d (endsAt D o) (putAt t a o) H) ∧ (b = false → wMix K Wo D r cls d t H)
abbrev SuOk (X : Cx) (bs : List Stmt) (ts : Su) : Prop := ∀ (a : Addr) (o : Obj) (cls : Value) (d : Option Addr) (pn : List (Addr × Obj)), L2N.Zn cls d o → (∃ vs, o.data = .fields vs) → PSs (X.suite a ((a, o) :: pn)) bs (ts a cls d)
inductive MixOk (X : Cx) : List ExceptHandler → List Cl → Prop
  | nil : MixOk X [] []
  | bare {x : Str} {c : Value} {ts : Su} {b : Stmt} {bs : List Stmt} {p p2 : Pos} {hds : List ExceptHandler} {l : List Cl} : Names X x c → SuOk X (b :: bs) ts → MixOk X hds l → MixOk X (.ExceptHandler (some (.Name x p)) none (b :: bs) p2 :: hds) ((c, none, ts) :: l)
  | named {x n : Str} {i : Nat} {c : Value} {ts : Su} {b : Stmt} {bs : List Stmt} {p p2 : Pos} {hds : List ExceptHandler} {l : List Cl} : X.N[i]? = some n → X.env.kindOf n = some .local → Names X x c → SuOk X (b :: bs) ts → MixOk X hds l → MixOk X (.ExceptHandler (some (.Name x p)) (some n) (b :: bs) p2 :: hds) ((c, some i, ts) :: l)
section
variable {X : Cx} {body : List Stmt} {h0 : ExceptHandler} {hds : List ExceptHandler} {l : List Cl} {pos : Pos} {tb : WX → TS} {Wo : WX}
theorem sp_un {pins pins' : List (Addr × Obj)} {D : Ends} {Y : Cx} {s : Shared} {f : Flow} (k : ∀ {t : L2.St} {H : Hp}, Inv Y pins' t H s → Inv X pins t H s) (h : SP Y pins' D f s) : SP X pins D f s := by
  cases f with
  | next => exact ⟨h.choose, h.choose_spec.choose, k h.choose_spec.choose_spec.1, h.choose_spec.choose_spec.2⟩
  | brk => exact ⟨h.choose, h.choose_spec.choose, k h.choose_spec.choose_spec.1, h.choose_spec.choose_spec.2⟩
  | cont => exact ⟨h.choose, h.choose_spec.choose, k h.choose_spec.choose_spec.1, h.choose_spec.choose_spec.2⟩
  | ret u =>
    obtain ⟨v, t, H, J, r, q⟩ := h
    exact ⟨v, t, H, k J, r, q⟩
theorem ps_mix (hs : X.stack = X.env :: X.outer) (hf : X.env.frame = some X.env.locals) (hN : X.N.Nodup) (tk : L2N.Takes X Wo)
    (hb : ∀ (W : WX) (pn : List (Addr × Obj)) (xe : Value → Shared → Prop), L2N.Takes (X.tr pn xe) W → PassesOwn (model X.prog X.w) X.A X.env xe → PSs (X.tr pn xe) body (tb W))
    (hh : MixOk X (h0 :: hds) l) : PS X (.Try body (h0 :: hds) [] [] pos) (fun D t H => tb (wMix X.K Wo D l) D t H) := by
  refine ⟨fun pins s t H D I h => wpAny_Try_except ?_⟩
  have ok := I.ok
  refine wpAny_mono ((hb (wMix X.K Wo D l) (X.pn ++ pins) _ (fun _ s2 xx => ?_) PassesOwn.looking).run [] s t H D (I.toTry _) h) (fun f s1 hsp => ?_) (fun _ _ he => he)
  · obtain ⟨a, B, sI, pins', t1, H1, cls, d, rfl, J', nb, up, sky, na, os, ag, w⟩ := xx
    have J : Inv X pins t1 H1 sI := J'.ofTry ok
    rw [hs] at sky
    refine L2N.Sky.land L2N.Zn.steady (by rw [ok.frames, hs]) hf sky fun h3 fl up3 => ?_
    have J3 : Inv X pins t1 H1 { s2 with heap := h3 } := J.landed nb fl.1 (up.trans up3) os ag
    obtain ⟨o3, vs3, e3, z3, d3⟩ := fl.there
    have away : a ∉ frs (X.env :: X.outer) := fun hm => by
      obtain ⟨_, o', e', nf⟩ := fl.2.2.1.mem hm
      rw [e3] at e'
      cases e'
      exact nf _ d3
    have nl : a ≠ X.env.locals := fun z => away (List.mem_filterMap.mpr ⟨_, List.mem_cons_self, by rw [hf, z]⟩)
    have nf : a ∉ X.fs := fun hm => by
      obtain ⟨e, me, q⟩ := List.mem_filterMap.mp hm
      exact away (List.mem_filterMap.mpr ⟨e, List.mem_cons_of_mem _ me, q⟩)
    have S3 := J3.suite e3 d3 na nl nf
    have T3 : PySem.W.Looks (model X.prog X.w) h3 (typeOf (.ref a)) cls := fun A Q E u k q => wpAny_typeOf_ref (k _ _ e3) (by rw [z3.1]; exact q)
    have nm : ∀ {x : Str} {c : Value} {p : Pos}, Names X x c → ∀ {Q E : Value → Shared → Prop}, Q c { s2 with heap := h3 } → wpAny (model X.prog X.w) (X.A.mark (some (.ref a))) (eval (.Name x p) X.env) Q E { s2 with heap := h3 } := fun hc Q E q => by
      obtain ⟨g, nd, m | ⟨m, v, nn⟩⟩ := hc
      · exact ld_glob (X := X.suite a ((a, o3) :: (X.pn ++ pins))) S3 g m q nd
      · exact ld_blt (X := X.suite a ((a, o3) :: (X.pn ++ pins))) S3 g m v q nn nd
    suffices go : ∀ {hs' : List ExceptHandler} {l' : List Cl}, MixOk X hs' l' → wMix X.K Wo D l' cls d t1 H1 → wpAny (model X.prog X.w) X.A (handleBy (.ref a) X.env hs') (SP X pins D) X.xe { s2 with heap := h3 } from go hh w
    intro hs' l' hk
    induction hk with
    | nil =>
      intro w
      refine wpAny_handleBy_nil ?_
      obtain ⟨_, _, _, oe, vs, T, _, _, he, _, hd, h1, _⟩ := id fl
      unfold PySem.passOn
      refine wpAny_bind (wpAny_field he hd h1 ?_)
      rw [if_neg (by simp)]
      have on : wpAny (model X.prog X.w) X.A (setFlight (.ref a) X.env.frame) (fun _ u => wpAny (model X.prog X.w) X.A (throw (.ref a) : Sem Flow) (SP X pins D) X.xe u) X.xe { s2 with heap := h3 } := by
        rw [hf]
        exact HandSPX.setFlight_upZ fl fun h4 k4 up4 => wpAny_throw (tk _ _ ⟨a, B, sI, pins, t1, H1, cls, d, rfl, J, nb, (up.trans up3).trans up4, .inr (.inr (by rw [hs]; exact k4)), na, os, ag, w⟩)
      first
        | exact wpAny_bind (wpAny_pure (wpAny_bind on))
        | exact wpAny_bind on
    | bare hc hsu _ ih =>
      rintro ⟨b, hb1, yes, no⟩
      refine wpAny_handleBy_cons (codeAny_handlers_test (nm hc ((PySem.W.exm_one (M := model X.prog X.w) J3.kIn T3 hb1).here ?_))) (by intro q; cases q)
      cases b with
      | false => exact ih (no rfl)
      | true =>
        refine codeAny_handlers_suite (HandSPX.lands_againZ fl fun h4 fl4 up4 => ?_)
        have J4 : Inv X pins t1 H1 { s2 with heap := h4 } := J.landed nb fl4.1 ((up.trans up3).trans up4) os ag
        obtain ⟨o4, vs4, e4, z4, d4⟩ := fl4.there
        exact wpAny_mono ((hsu a o4 cls d (X.pn ++ pins) z4 ⟨_, d4⟩).run [] _ _ H1 _ (J4.suite e4 d4 na nl nf) (yes rfl a na)) (fun f s6 q => sp_un (fun S6 => S6.unsuite ok) q) (fun _ _ z => False.elim z)
    | named hi hl hc hsu _ ih =>
      rintro ⟨b, hb1, yes, no⟩
      refine wpAny_handleBy_cons (codeAny_handlers_test (nm hc ((PySem.W.exm_one (M := model X.prog X.w) J3.kIn T3 hb1).here ?_))) (by intro q; cases q)
      cases b with
      | false => exact ih (no rfl)
      | true =>
        refine codeAny_handlers_suite_as (HandSPX.lands_againZ fl fun h4 fl4 up4 => ?_)
        have J4 : Inv X pins t1 H1 { s2 with heap := h4 } := J.landed nb fl4.1 ((up.trans up3).trans up4) os ag
        obtain ⟨o4, vs4, e4, z4, d4⟩ := fl4.there
        refine store_ok (X := X.suite a ((a, o4) :: (X.pn ++ pins))) (v := .ref a) (J4.suite e4 d4 na nl nf) hN hi (.inl hl) rfl (fun s5 S5 => ?_) (.inr hl)
        refine wpAny_mono ((hsu a o4 cls d (X.pn ++ pins) z4 ⟨_, d4⟩).run [] s5 _ H1 _ S5 (yes rfl a na)) (fun f s6 q => ?_) (fun _ _ z => False.elim z)
        cases f with
        | next => exact let ⟨_, _, S6, q6⟩ := q; gone_ok (S6.unsuite ok) hN hi hl fun s7 J7 => ⟨_, _, J7, q6⟩
        | brk => exact let ⟨_, _, S6, q6⟩ := q; gone_ok (S6.unsuite ok) hN hi hl fun s7 J7 => ⟨_, _, J7, q6⟩
        | cont => exact let ⟨_, _, S6, q6⟩ := q; gone_ok (S6.unsuite ok) hN hi hl fun s7 J7 => ⟨_, _, J7, q6⟩
        | ret u => exact let ⟨_, _, _, S6, r6, q6⟩ := q; gone_ok (S6.unsuite ok) hN hi hl fun s7 J7 => ⟨_, _, _, J7, r6, q6⟩
  · have r := sp_un (X := X) (pins := pins) (fun J' => J'.ofTry ok) hsp
    cases f with
    | next => exact wpAny_execs_nil r
    | _ => exact r
end
/-! ### the readings -/
abbrev AClause := (Str → Option Bool) × Option Nat × (Addr → Value → Option Addr → AS)
def kAt (k : AK) : Option Nat → AK
  | none => { k with er := fun _ _ _ => False }
  | some i => { nx := fun env' s => k.nx (env'.set i .no) s, rt := k.rt, bk := fun env' s => k.bk (env'.set i .no) s, ct := fun env' s => k.ct (env'.set i .no) s, er := fun _ _ _ => False }
def eAt (env : List A) (x : A) : Option Nat → List A
  | none => env
  | some i => env.set i x
def erMix : List AClause → AK → Er → List A → S → Prop
  | [], k, e, env, st => k.er e env st
  | (xm, o, su) :: r, k, e, env, st => ∃ b, xm e.cls = some b ∧ (b = true → ∀ a c dx, su a c dx (eAt env (.exc a c dx e) o) st (kAt k o)) ∧ (b = false → erMix r k e env st)
def sTryMix (b : AS) (cs : List AClause) : AS := fun env st k => b env st { k with er := erMix cs k }
section
variable {X : Cx} {W : WX} {k : Nat} {x n cn f : Str} {i : Nat} {body suite : List Stmt} {b0 : Stmt} {np pos pos' : Pos} {ab : AS} {xm : Str → Option Bool}
def AXHm (X : Cx) (hds : List ExceptHandler) (cs : List AClause) : Prop := ∃ l, MixOk X hds l ∧ ∀ (W : WX) (G : Gh) (H : Hp) (kk : AK) (D : Ends), ThenS X.K W G H kk D → ∀ e c dx env σ st, SS X.K G st H → Sl X.K G env σ → ErAt X.K G e c dx → erMix cs kk e env st → wMix X.K W D l c dx σ H
theorem axm_nil : AXHm X [] [] := ⟨[], .nil, fun W G H kk D t e c dx env σ st s l ea h => t.er e c dx env σ st G H Post.refl s l ea h⟩
theorem axm_bare {hds : List ExceptHandler} {cs : List AClause} {su : Addr → Value → Option Addr → AS} (hm : X.mg x = some (.ref (He.ga X.K x))) (hx : ∀ c b, xm c = some b → PySem.W.exmOne X.K (.ref (He.ga X.K c)) (.ref (He.ga X.K x)) = some b)
    (hs : ∀ (a : Addr) (oe : Obj) (cls : Value) (d : Option Addr) (pn : List (Addr × Obj)), L2N.Zn cls d oe → (∃ vs, oe.data = .fields vs) → AXB (X.suite a ((a, oe) :: pn)) W0 (b0 :: suite) (su a cls d)) (hr : AXHm X hds cs)
    (hg : Gl X x := by rfl) (hdb : (x == ("__debug__" : Str)) = false := by decide) : AXHm X (.ExceptHandler (some (.Name x np)) none (b0 :: suite) pos' :: hds) ((xm, none, su) :: cs) := by
  obtain ⟨l, hl, hh⟩ := hr
  refine ⟨_, .bare (ts := fun a cls d => rdS X.K W0 (su a cls d)) ⟨hg, hdb, .inl hm⟩ (fun a oe cls d pn hz hf => (hs a oe cls d pn hz hf).ps) hl, fun W G H kk D t e c dx env σ st s sl ea h => ?_⟩
  obtain ⟨b, hb1, h1, h2⟩ := h
  refine ⟨b, ?_, fun hbt a ha => ?_, fun hbf => hh W G H kk D t e c dx env σ st s sl ea (h2 hbf)⟩
  · obtain ⟨rfl, _⟩ := ea
    exact hx _ _ hb1
  · exact ⟨G, _, st, _, s, sl, h1 hbt a c dx, ⟨t.nx, t.rt, t.bk, t.ct, fun _ _ _ _ _ _ _ _ _ _ _ _ z => z.elim⟩⟩
theorem axm_named {hds : List ExceptHandler} {cs : List AClause} {su : Addr → Value → Option Addr → AS} (hm : X.mg x = some (.ref (He.ga X.K x))) (hx : ∀ c b, xm c = some b → PySem.W.exmOne X.K (.ref (He.ga X.K c)) (.ref (He.ga X.K x)) = some b)
    (hs : ∀ (a : Addr) (oe : Obj) (cls : Value) (d : Option Addr) (pn : List (Addr × Obj)), L2N.Zn cls d oe → (∃ vs, oe.data = .fields vs) → AXB (X.suite a ((a, oe) :: pn)) W0 (b0 :: suite) (su a cls d)) (hr : AXHm X hds cs)
    (hi : X.N[i]? = some n := by rfl) (hln : X.env.kindOf n = some .local := by rfl) (hg : Gl X x := by rfl) (hdb : (x == ("__debug__" : Str)) = false := by decide) : AXHm X (.ExceptHandler (some (.Name x np)) (some n) (b0 :: suite) pos' :: hds) ((xm, some i, su) :: cs) := by
  obtain ⟨l, hl, hh⟩ := hr
  refine ⟨_, .named (i := i) (ts := fun a cls d => rdS X.K W0 (su a cls d)) hi hln ⟨hg, hdb, .inl hm⟩ (fun a oe cls d pn hz hf => (hs a oe cls d pn hz hf).ps) hl, fun W G H kk D t e c dx env σ st s sl ea h => ?_⟩
  obtain ⟨b, hb1, h1, h2⟩ := h
  refine ⟨b, ?_, fun hbt a ha => ?_, fun hbf => hh W G H kk D t e c dx env σ st s sl ea (h2 hbf)⟩
  · obtain ⟨rfl, _⟩ := ea
    exact hx _ _ hb1
  · refine ⟨G, _, st, _, s, sl.put i (x := .exc a c dx e) (v := some (.ref a)) ⟨rfl, ea⟩, h1 hbt a c dx, ?_⟩
    exact ⟨fun env4 σ4 st4 G4 H4 p4 s4 l4 h4 => t.nx _ _ st4 G4 H4 p4 s4 (l4.drop i none) h4, t.rt,
      fun env4 σ4 st4 G4 H4 p4 s4 l4 h4 => t.bk _ _ st4 G4 H4 p4 s4 (l4.drop i none) h4, fun env4 σ4 st4 G4 H4 p4 s4 l4 h4 => t.ct _ _ st4 G4 H4 p4 s4 (l4.drop i none) h4, fun _ _ _ _ _ _ _ _ _ _ _ _ z => z.elim⟩
theorem axs_tryMix {h0 : ExceptHandler} {hds : List ExceptHandler} {cs : List AClause} (C : CxS X W k)
    (hb : ∀ (W' : WX) (pn : List (Addr × Obj)) (xe : Value → Shared → Prop), CxS (X.tr pn xe) W' k → AXB (X.tr pn xe) W' body ab) (hh : AXHm X (h0 :: hds) cs) :
    AXS X W (.Try body (h0 :: hds) [] [] pos) (sTryMix ab cs) := by
  obtain ⟨l, hl, hh⟩ := hh
  refine ⟨_, ps_mix (tb := fun W' => rdS X.K W' ab) C.stk C.frm C.nd C.takes (fun W' pn xe tk po => (hb W' pn xe (C.tr tk po)).ps) hl, fun G env st σ H D kk s sl h t => ?_⟩
  exact ⟨G, env, st, _, s, sl, h, ⟨t.nx, t.rt, t.bk, t.ct, fun e c dx env' σ' st2 G2 H2 p2 s2 l2 ea he => hh W G2 H2 kk D (t.on p2) e c dx env' σ' st2 s2 l2 ea he⟩⟩
end
/-! ### min and max of a list of ints -/
def bMin1 : ON := fun xs q => ∃ ns : List Int, xs = [.lst (ns.map D.int)] ∧ 0 < ns.length ∧ ∀ m, m ∈ ns → (∀ y, y ∈ ns → m ≤ y) → q (.int m)
def bMax1 : ON := fun xs q => ∃ ns : List Int, xs = [.lst (ns.map D.int)] ∧ 0 < ns.length ∧ ∀ m, m ∈ ns → (∀ y, y ∈ ns → y ≤ m) → q (.int m)
theorem cb_min1 {X : Cx} {W : WX} {k : Nat} (C : CxE X W k) : CB X (.builtin "min") bMin1 := ⟨_, cr_min C.calm, fun G st H xs ds Q q s r ⟨bs, eb, hp, h⟩ t => by
  subst eb
  cases r with
  | cons r1 r2 =>
    cases r2
    cases r1 with
    | lst h1 r1 =>
      have := ints_ok r1
      subst this
      exact ⟨_, bs, rfl, SqL.of h1, hp, fun m hm hy => t.here s (.int _) (h m hm hy)⟩⟩
theorem cb_max1 {X : Cx} {W : WX} {k : Nat} (C : CxE X W k) : CB X (.builtin "max") bMax1 := ⟨_, cr_max C.calm, fun G st H xs ds Q q s r ⟨bs, eb, hp, h⟩ t => by
  subst eb
  cases r with
  | cons r1 r2 =>
    cases r2
    cases r1 with
    | lst h1 r1 =>
      have := ints_ok r1
      subst this
      exact ⟨_, bs, rfl, SqL.of h1, hp, fun m hm hy => t.here s (.int _) (h m hm hy)⟩⟩
end AM
set_option Elab.async false
set_option linter.all false
set_option maxRecDepth 100000
set_option maxHeartbeats 4000000
namespace AM
open PySem PySem.Spec PyProof.Rows L2 Evl
/-! ### dict(zip(xs, ys)), xs tuples that differ -/
theorem storedAll_nodup {K : Type} [DecidableEq K] : ∀ (ps acc : List (K × Addr × Value)), ((acc ++ ps).map (·.1)).Nodup → storedAllH acc ps = acc ++ ps
  | [], acc, _ => by simp [storedAllH]
  | p :: ps, acc, h => by
    have hn : atKey acc p.1 = none := atKey_none_of_get fun j q e => by
      have hm : p.1 ∈ acc.map (·.1) := List.mem_map.mpr ⟨_, List.mem_of_getElem? e, rfl⟩
      rw [List.map_append, List.nodup_append] at h
      exact h.2.2 _ hm p.1 (by simp) rfl
    have e : storedAllH acc (p :: ps) = storedAllH (acc ++ [p]) ps := by
      show ps.foldl _ (storedH acc p.1 p.2.1 p.2.2) = ps.foldl _ (acc ++ [p])
      rw [storedH_new hn]
    rw [e, storedAll_nodup ps (acc ++ [p]) (by simpa using h)]
    simp
/-- the keys: tuples that lie there -/
def KeysAt (H : Hp) : List V → List (List Key) → Prop
  | [], [] => True
  | x :: xs, k :: ks => (∃ b, x = .ref b ∧ H b = some (.tup (k.map kV))) ∧ KeysAt H xs ks
  | _, _ => False
theorem KeysAt.length {H : Hp} : ∀ {xs : List V} {ks : List (List Key)}, KeysAt H xs ks → xs.length = ks.length
  | [], [], _ => rfl
  | _ :: _, _ :: _, h => congrArg Nat.succ (KeysAt.length h.2)
def tDictZip (K : PySem.W.Frag) (ta : TA) : TE := fun σ H Q => ta σ H fun vs H1 => ∃ (a b : Addr) (xs ys : List V) (ks : List (List Key)), vs = [.ref a, .ref b] ∧ SqL K H1 a xs ∧ SqL K H1 b ys ∧ xs.length = ys.length ∧ KeysAt H1 xs ks ∧ ks.Nodup ∧ ∀ p, H1 p = none → Q (.ref p) (upd H1 p (.dT (ks.zip ys)))
theorem keys_addrs {H : Hp} : ∀ {xs : List V} {ks : List (List Key)} {its : List Value}, KeysAt H xs ks → Vals xs its → ∃ bs : List Addr, its = bs.map Value.ref ∧ bs.length = ks.length ∧ ∀ (i : Nat) (k : List Key) (b : Addr), ks[i]? = some k → bs[i]? = some b → H b = some (.tup (k.map kV))
  | [], [], _, _, .nil => ⟨[], rfl, rfl, fun i k b h => by simp at h⟩
  | x :: xs, k :: ks, _, h, .cons r rs => by
    obtain ⟨⟨b, rfl, hb⟩, h2⟩ := h
    obtain ⟨bs, rfl, hl, hp⟩ := keys_addrs h2 rs
    cases r
    refine ⟨b :: bs, rfl, by simp [hl], fun i k' b' e1 e2 => ?_⟩
    cases i with
    | zero => simp at e1 e2; subst e1 e2; exact hb
    | succ i => exact hp i k' b' (by simpa using e1) (by simpa using e2)
theorem paired_zip {H : Hp} : ∀ {ks : List (List Key)} {bs : List Addr} {ys : List V} {us : List Value}, Vals ys us → bs.length = ks.length → ys.length = ks.length → (∀ (i : Nat) (k : List Key) (b : Addr), ks[i]? = some k → bs[i]? = some b → H b = some (.tup (k.map kV))) →
    Paired (fun (p : List Key × V) (q : List Key × Addr × Value) => p.1 = q.1 ∧ H q.2.1 = some (.tup (p.1.map kV)) ∧ RelV p.2 q.2.2) (ks.zip ys) (ks.zip (bs.zip us))
  | [], _, _, _, _, _, _, _ => by simp only [List.zip_nil_left]; exact .nil
  | k :: ks, b :: bs, _, _, .cons r rs, h1, h2, h => .cons ⟨rfl, h 0 k b rfl rfl, r⟩ (paired_zip rs (by simpa using h1) (by simpa using h2) fun i k' b' e1 e2 => h (i + 1) k' b' (by simpa using e1) (by simpa using e2))
  | _ :: _, [], _, _, _, h1, _, _ => by simp at h1
  | _ :: _, _ :: _, [], _, .nil, _, h2, _ => by simp at h2
theorem zip_apart {N a b : Nat} (la : a < N) (lb : b < N) : ZipApart (N + 4) (N + 2) (N + 3) N (N + 1) a b := by
  constructor <;> (show (_ : Nat) ≠ _; omega)
section
variable {X : Cx}
theorem pe_dictZip {e e2 : Expr} {ta : TA} {p p2 pos pos2 : Pos} (hc : X.calm = true) (hu : X.A.units + 4 < cLine) (hg : Gl X "dict") (hm : X.mg "dict" = none) (hgz : Gl X "zip") (hmz : X.mg "zip" = none) (ha : PA X [e, e2] ta)
    (hs : starEach [e, e2] X.env = (false, eval e X.env) :: starEach [e2] X.env := by rfl) (hpl : (backTo pos2 (starEach [e2] X.env)).any (·.1) = false := by rfl)
    (hs0 : starEach [.Call (.Name "zip" p2) [e, e2] [] pos2] X.env = (false, eval (.Call (.Name "zip" p2) [e, e2] [] pos2) X.env) :: starEach [] X.env := by rfl) (hpl0 : (backTo pos (starEach [] X.env)).any (·.1) = false := by rfl) :
    PE X (.Call (.Name "dict" p) [.Call (.Name "zip" p2) [e, e2] [] pos2] [] pos) (tDictZip X.K ta) := by
  refine ⟨fun pins s σ H Q I h => ?_⟩
  refine Call_ (ld_blt I hg hm PyProof.Rows.boot_dict (PyProof.Rows.callWith_type1 ?_ hs0 hpl0))
  rw [hs0]
  show wpAny _ _ (spliced ((false, eval (.Call (.Name "zip" p2) [e, e2] [] pos2) X.env) :: backTo pos (starEach [] X.env))) _ _ s
  refine Calls.spliced_cons ?_
  refine Call_ (ld_blt I hgz hmz PyProof.Rows.boot_zip (PyProof.Rows.callWith_type1 (thn (ha.run pos2 pins s σ H _ I h) fun us s1 ⟨vs, H1, I1, r1, q1⟩ => ?_) hs hpl))
  obtain ⟨a, b, xs, ys, ks, ex, hqx, hqy, hlen, hk, hnd, q⟩ := q1
  subst ex
  cases r1 with
  | cons r rr =>
    cases rr with
    | cons r' rr =>
      cases rr
      cases r
      cases r'
      obtain ⟨its, rv, p1, hz1, la⟩ := inv_sq (t := false) I1 hqx
      obtain ⟨its2, rv2, p2', hz2, lb⟩ := inv_sq (t := false) I1 hqy
      refine zip_begins2 (begins_sq (t := false) a its.toArray) (begins_sq (t := false) b its2.toArray) p1 p2' fun h' hz hTI hTO h1 h2 hsz hkp => ?_
      refine Calls.spliced_nil ?_
      have D : ZipApart (s1.heap.objs.size + 4) (s1.heap.objs.size + 2) (s1.heap.objs.size + 3) s1.heap.objs.size (s1.heap.objs.size + 1) a b := zip_apart la lb
      obtain ⟨bs, rfl, hbl, hbk⟩ := keys_addrs hk rv
      have hxl : xs.length = bs.length := by rw [rv.length]; simp
      have hyl : ys.length = its2.length := rv2.length
      have hkl : xs.length = ks.length := hk.length
      generalize hps : (ks.zip (bs.zip its2) : List (List Key × Addr × Value)) = ps
      have psl : ps.length = xs.length := by rw [← hps]; simp; omega
      have psk : ps.map (·.1) = ks := by rw [← hps, List.map_fst_zip (by simp; omega)]
      have pget : ∀ (i : Nat) (k : List Key) (c : Addr) (v : Value), ps[i]? = some (k, c, v) ↔ (ks[i]? = some k ∧ bs[i]? = some c ∧ its2[i]? = some v) := by
        intro i k c v
        rw [← hps, List.getElem?_zip_eq_some]
        simp only [List.getElem?_zip_eq_some]
      have P := PairArg.zip (prog := X.prog) (w := X.w) _ _ _ _ _ a b D (bs.map Value.ref).toArray its2.toArray
      have old : ∀ c, c < s1.heap.objs.size → c ∉ [s1.heap.objs.size + 4, s1.heap.objs.size + 3, s1.heap.objs.size, s1.heap.objs.size + 1] := fun c hc hm => by
        have hm : (c : Nat) = s1.heap.objs.size + 4 ∨ (c : Nat) = s1.heap.objs.size + 3 ∨ (c : Nat) = s1.heap.objs.size ∨ (c : Nat) = s1.heap.objs.size + 1 := by simpa using hm
        have hc : (c : Nat) < s1.heap.objs.size := hc
        omega
      have is2 : ∀ {h2 : Heap}, (∀ c o, c < s1.heap.objs.size → s1.heap.get? c = some o → h2.get? c = some o) → ∀ x ∈ ps, (tupleKind (mixKind X.prog X.w)).is h2 x.1 x.2.1 := fun {h2} kk x hx => by
        obtain ⟨i, hi⟩ := List.mem_iff_getElem?.mp hx
        obtain ⟨e1, e2, _⟩ := (pget i x.1 x.2.1 x.2.2).mp hi
        obtain ⟨o, its, n, g1, g2⟩ := key_of (P := X.prog) (w := X.w) I1.hok (hbk i _ _ e1 e2)
        exact ⟨o, its, n, kk _ _ (Heap.lt_size g1) g1, g2⟩
      refine call_dict_pairsH (knd := tupleKind (mixKind X.prog X.w)) (ps := ps) P (I1.ok.hd hc) (show X.A.in1.in1.units < cLine by have : X.A.in1.in1.units = X.A.units + 2 := rfl; omega) ⟨hz, hTI, ⟨_, _, hTO⟩, ⟨_, h1, rfl, rfl⟩, ⟨_, h2, rfl, rfl⟩, ?_, ?_⟩ ⟨?_, fun i key v hrel => ?_⟩ (fun h3 hk3 x hx => ?_) ?_ fun h3 tk hd hk3 => ?_
      · obtain ⟨o, g1, g2⟩ := (show s1.heap.IsList a _ from p1)
        exact ⟨o, hkp _ _ g1, g2⟩
      · obtain ⟨o, g1, g2⟩ := (show s1.heap.IsList b _ from p2')
        exact ⟨o, hkp _ _ g1, g2⟩
      · simp; omega
      · obtain ⟨e1, e2⟩ := hrel
        have e1 : (bs.map Value.ref)[i]? = some key := by simpa using e1
        have e2 : its2[i]? = some v := by simpa using e2
        rw [List.getElem?_map] at e1
        cases hb : bs[i]? with
        | none => rw [hb] at e1; cases e1
        | some c =>
          rw [hb] at e1
          obtain rfl : Value.ref c = key := Option.some.inj e1
          have hik : i < ks.length := by have := (List.getElem?_eq_some_iff.mp hb).1; omega
          exact ⟨ks[i], c, (pget i _ _ _).mpr ⟨List.getElem?_eq_getElem hik, hb, e2⟩, rfl⟩
      · refine is2 (fun c o hc g => hk3 c o ?_ (old c hc) (hkp _ _ g)) x hx
        have hc : (c : Nat) < s1.heap.objs.size := hc
        show (c : Nat) ≠ h'.objs.size
        omega
      · show min (bs.map Value.ref).toArray.size its2.toArray.size ≤ sizeLine
        simp; omega
      · rw [storedAll_nodup ps [] (by simpa [psk] using hnd), List.nil_append] at hd
        have keep : ∀ c o, s1.heap.get? c = some o → h3.get? c = some o := fun c o g => hk3 c o (old c (Heap.lt_size g)) (hkp _ _ g)
        have hle : s1.heap.objs.size ≤ h'.objs.size := by rw [hsz]; exact Nat.le_add_right _ _
        have hH : H1 h'.objs.size = none := I1.hok.fresh hle
        obtain ⟨o, es, ep, g1, g2, g3, g4, _, g5⟩ := hd
        refine ⟨.ref h'.objs.size, _, I1.laid (t' := tk) (a := h'.objs.size) (o := .dT (ks.zip ys)) keep hle ?_, rfl, q _ hH⟩
        refine ⟨by simp; omega, ?_, ps, ?_, o, es, ep, g1, g2, g3, g4, g5⟩
        · exact beq_eq_false_iff_ne.mpr (Nat.ne_of_gt (Nat.lt_of_lt_of_le I1.big hle))
        · rw [← hps]
          refine paired_zip rv2 (by omega) (by omega) fun i k c e1 e2 => ?_
          have hb := hbk i k c e1 e2
          rw [upd_ne (fun z => by rw [z, hH] at hb; cases hb)]
          exact hb
end
theorem nodup_inv {α β : Type} {f : α → β} : ∀ {l : List α}, (l.map f).Nodup → l.Nodup
  | [], _ => by simp
  | x :: xs, h => by
    rw [List.map_cons, List.nodup_cons] at h
    exact List.nodup_cons.mpr ⟨fun hm => h.1 (List.mem_map_of_mem hm), nodup_inv h.2⟩
def kT (k : List Key) : D := .tup (k.map kD)
theorem keysAt_of {K : PySem.W.Frag} {G : Gh} {H : Hp} (ex : Ex G.g H) : ∀ {l : List D} {vs : List V}, Reps K G l vs → (∀ k ∈ l, isKeyT k) → ∃ ks : List (List Key), KeysAt H vs ks ∧ l = ks.map kT
  | _, _, .nil, _ => ⟨[], trivial, rfl⟩
  | d :: _, v :: _, .cons h r, hk => by
    obtain ⟨ks, h1, e1⟩ := keysAt_of ex r fun k hm => hk k (by simp [hm])
    obtain ⟨k, e2⟩ := hk d (by simp)
    subst e1 e2
    refine ⟨k :: ks, ?_, rfl⟩
    cases h with
    | tup hp rs =>
      rename_i p vs
      have := reps_kD rs
      subst this
      exact ⟨⟨p, rfl, ex _ _ hp⟩, h1⟩
theorem repT_zip {K : PySem.W.Frag} {G : Gh} : ∀ {ks : List (List Key)} {m : List D} {ys : List V}, Reps K G m ys → RepT K G ((ks.map kT).zip m) (ks.zip ys)
  | [], _, _, _ => by simp only [List.map_nil, List.zip_nil_left]; exact .nil
  | _ :: _, _, _, .nil => by simp only [List.zip_nil_right]; exact .nil
  | k :: ks, _, _, .cons h r => .cons h (repT_zip r)
section
variable {X : Cx} {W : WX} {k : Nat} {e e2 : Expr} {ae ab : AE} {p p2 pos pos2 : Pos}
def fDZip (a b : AE) : AFd := fun env st q er => a env st (fun x s1 => b env s1 (fun y s2 => ∃ l m, vw s2 x = .lst l ∧ vw s2 y = .lst m ∧ l.length = m.length ∧ (∀ k ∈ l, isKeyT k) ∧ l.Nodup ∧ q (l.zip m) s2) er) er
theorem axd_zip (C : CxE X W k) (hm : X.mg "dict" = none) (hmz : X.mg "zip" = none) (h : AX X W e ae) (h' : AX X W e2 ab) (hg : Gl X "dict" := by rfl) (hgz : Gl X "zip" := by rfl)
    (hs : starEach [e, e2] X.env = (false, eval e X.env) :: starEach [e2] X.env := by rfl) (hs2 : starEach [e2] X.env = [(false, eval e2 X.env)] := by rfl) (hpl : (backTo pos2 (starEach [e2] X.env)).any (·.1) = false := by rfl)
    (hs0 : starEach [.Call (.Name "zip" p2) [e, e2] [] pos2] X.env = (false, eval (.Call (.Name "zip" p2) [e, e2] [] pos2) X.env) :: starEach [] X.env := by rfl) (hpl0 : (backTo pos (starEach [] X.env)).any (·.1) = false := by rfl) :
    AXD X W (.Call (.Name "dict" p) [.Call (.Name "zip" p2) [e, e2] [] pos2] [] pos) (fDZip ae ab) := by
  obtain ⟨t, pe, r⟩ := h
  obtain ⟨t', pe', r'⟩ := h'
  refine ⟨_, pe_dictZip C.calm (by have := u64 C.room; omega) hg hm hgz hmz (pa_cons pe (pa_cons pe' pa_nil (by rw [hs2]; rfl)) (by rw [hs])) hs hpl hs0 hpl0, fun G env st σ H Q q er s sl a tE tX => ?_⟩
  refine r G env st σ H _ _ er s sl a (fun v d st2 G2 H2 p2 s2 r2 h2 => r' G2 env st2 σ H2 _ _ er s2 (sl.mono p2.le) h2 (fun v' d' st3 G3 H3 p3 s3 r3 h3 => ?_) (tX.on p2)) tX
  obtain ⟨l, m, hl, hm', hlen, hk, hnd, h3⟩ := h3
  have rx := (r2.mono p3.le).vw s3
  have ry := r3.vw s3
  rw [hl] at rx
  rw [hm'] at ry
  cases rx with
  | lst ha rs =>
    cases ry with
    | lst hb rs' =>
      obtain ⟨ks, hks, rfl⟩ := keysAt_of s3.ex rs hk
      refine ⟨_, _, _, _, ks, rfl, SqL.of ha, SqL.of hb, by rw [← rs.length, ← rs'.length]; exact hlen, hks, nodup_inv hnd, fun a hp => ?_⟩
      obtain ⟨s4, p4, na, ng⟩ := s3.room (o := .dT (ks.zip _)) hp
      have p23 := p2.trans p3
      refine tE _ _ st3 G3 _ (p23.trans p4) s4 ⟨a, rfl, ⟨_, upd_same, repT_zip rs'⟩, ng, na, ?_⟩ h3
      cases hh : H a with
      | none => rfl
      | some o => exact absurd hp (p23.m a (by rw [hh]; exact fun z => nomatch z))
end
end AM
set_option Elab.async false
set_option linter.all false
set_option maxRecDepth 100000
set_option maxHeartbeats 4000000
namespace AM
open PySem PySem.Spec PyProof.Rows L2 Evl
/-! ### list(zip(xs, ys)) -/
theorem zipNoLen : typeLookup (.type "zip") "__len__" = pure none := am_miss_of_fast (by decide +kernel)
theorem zipNoHint : typeLookup (.type "zip") "__length_hint__" = pure none := am_miss_of_fast (by decide +kernel)
/-- a zip ahead of its i-th turn; S is the list that grows -/
structure ZAt (z TI TO i1 i2 l1 l2 S : Addr) (xs ys : Array Value) (i : Nat) (h : Heap) : Prop where
  ti : IsTupOf2 h TI (.ref i1) (.ref i2)
  a1 : h.IsListIter i1 l1 i
  a2 : h.IsListIter i2 l2 i
  q1 : h.IsList l1 xs
  q2 : h.IsList l2 ys
  out : (IsZip h z TI TO .none ∧ ∃ a b, IsTupOf2 h TO a b) ∨ ∃ T f oT, IsZipHeld h z TI TO T f ∧ h.get? T = some oT ∧ T ≠ z ∧ T ≠ i1 ∧ T ≠ i2 ∧ T ≠ S
structure Off (S z TI TO i1 i2 l1 l2 : Addr) : Prop where
  z : S ≠ z
  ti : S ≠ TI
  to : S ≠ TO
  a1 : S ≠ i1
  a2 : S ≠ i2
  q1 : S ≠ l1
  q2 : S ≠ l2
section
variable {z TI TO i1 i2 l1 l2 S : Addr} {xs ys : Array Value} {i : Nat} {h h' : Heap}
theorem ZAt.keep (o : Off S z TI TO i1 i2 l1 l2) (st : ZAt z TI TO i1 i2 l1 l2 S xs ys i h) (k : ∀ b u, b ≠ S → h.get? b = some u → h'.get? b = some u) : ZAt z TI TO i1 i2 l1 l2 S xs ys i h' := by
  refine ⟨k _ _ (Ne.symm o.ti) st.ti, st.a1.at fun u e => k _ u (Ne.symm o.a1) e, st.a2.at fun u e => k _ u (Ne.symm o.a2) e, st.q1.at fun u e => k _ u (Ne.symm o.q1) e, st.q2.at fun u e => k _ u (Ne.symm o.q2) e, ?_⟩
  rcases st.out with ⟨hz, a, b, e⟩ | ⟨T, f, oT, hz, hT, r1, r2, r3, r4⟩
  · exact .inl ⟨k _ _ (Ne.symm o.z) hz, a, b, k _ _ (Ne.symm o.to) e⟩
  · exact .inr ⟨T, f, oT, k _ _ (Ne.symm o.z) hz, k _ _ r4 hT, r1, r2, r3, r4⟩
end
section
variable {prog : Program} {w : World} {A : Around} {E : Value → Shared → Prop} {s : Shared} {z TI TO i1 i2 l1 l2 S : Addr} {xs ys : Array Value} {i : Nat}
theorem zat_next {x y : Value} {Q : Option Value → Shared → Prop} (D : ZipApart z TI TO i1 i2 l1 l2) (hS : S < s.heap.objs.size) (st : ZAt z TI TO i1 i2 l1 l2 S xs ys i s.heap) (ex : xs[i]? = some x) (ey : ys[i]? = some y)
    (hQ : ∀ h', ZAt z TI TO i1 i2 l1 l2 S xs ys (i + 1) h' → IsTupOf2 h' s.heap.objs.size x y → (∀ c o, c ∉ [z, TI, TO, i1, i2] → s.heap.get? c = some o → h'.get? c = some o) → Q (some (.ref s.heap.objs.size)) { s with heap := h' }) :
    wpAny (model prog w) A (pyNext (.ref z)) Q E s := by
  have lt : ∀ {c o}, s.heap.get? c = some o → s.heap.objs.size ≠ c := fun e => Nat.ne_of_gt (Heap.lt_size e)
  have n1 : s.heap.objs.size ≠ i1 := let ⟨_, e, _⟩ := st.a1; lt e
  have n2 : s.heap.objs.size ≠ i2 := let ⟨_, e, _⟩ := st.a2; lt e
  rcases st.out with ⟨hz, a, b, e⟩ | ⟨T, f, oT, hz, hT, r1, r2, r3, r4⟩
  · refine wpAny_pyNext_zip_item D hz st.ti e st.a1 st.a2 st.q1 st.q2 ex ey fun h' b1 b2 b3 b4 b5 b6 hk => ?_
    exact hQ h' ⟨hk _ _ D.TIz D.TITO D.TIi1 D.TIi2 st.ti, b3, b4, st.q1.at fun o e => hk _ o D.l1z D.l1TO D.l1i1 D.l1i2 e, st.q2.at fun o e => hk _ o D.l2z D.l2TO D.l2i1 D.l2i2 e,
      .inr ⟨_, false, _, b1, b5, lt hz, n1, n2, Nat.ne_of_gt hS⟩⟩ b5 fun c o hc e => hk c o (fun x => hc (by simp [x])) (fun x => hc (by simp [x])) (fun x => hc (by simp [x])) (fun x => hc (by simp [x])) e
  · refine wpAny_pyNext_zip_item_held D hz hT st.ti st.a1 st.a2 st.q1 st.q2 ex ey fun h' b1 b3 b4 b5 b6 hk => ?_
    exact hQ h' ⟨hk _ _ D.TIz D.TIi1 D.TIi2 st.ti, b3, b4, st.q1.at fun o e => hk _ o D.l1z D.l1i1 D.l1i2 e, st.q2.at fun o e => hk _ o D.l2z D.l2i1 D.l2i2 e,
      .inr ⟨T, true, oT, b1, hk _ _ r1 r2 r3 hT, r1, r2, r3, r4⟩⟩ b5 fun c o hc e => hk c o (fun x => hc (by simp [x])) (fun x => hc (by simp [x])) (fun x => hc (by simp [x])) e
theorem zat_end {Q : Option Value → Shared → Prop} (hh : A.handled = none) (D : ZipApart z TI TO i1 i2 l1 l2) (st : ZAt z TI TO i1 i2 l1 l2 S xs ys i s.heap) (he : xs[i]? = none ∨ ys[i]? = none)
    (hQ : ∀ h', (∀ c o, c ∉ [z, TI, TO, i1, i2] → s.heap.get? c = some o → h'.get? c = some o) → Q none { s with heap := h' }) : wpAny (model prog w) A (pyNext (.ref z)) Q E s := by
  rcases st.out with ⟨hz, a, b, e⟩ | ⟨T, f, oT, hz, hT, r1, r2, r3, r4⟩
  · exact wpAny_pyNext_zip_end hh D hz st.ti e st.a1 st.a2 st.q1 st.q2 he fun h' hk => hQ h' fun c o hc e => hk c o (fun x => hc (by simp [x])) (fun x => hc (by simp [x])) (fun x => hc (by simp [x])) (fun x => hc (by simp [x])) e
  · exact wpAny_pyNext_zip_end_held hh D hz hT st.ti st.a1 st.a2 st.q1 st.q2 he fun h' hk => hQ h' fun c o hc e => hk c o (fun x => hc (by simp [x])) (fun x => hc (by simp [x])) (fun x => hc (by simp [x])) e
end
theorem mapSeq_push {its : List Value} {n : Nat} {v : Value} : ∃ c, Obj.mapSeq (·.push v) { cls := .type "list", data := .seq its.toArray n } = { cls := .type "list", data := .seq (its ++ [v]).toArray c } :=
  ⟨_, by rw [show (its ++ [v]).toArray = its.toArray.push v from by simp]; rfl⟩
theorem Vals.app : ∀ {xs ys : List V} {us ws : List Value}, Vals xs us → Vals ys ws → Vals (xs ++ ys) (us ++ ws)
  | _, _, _, _, .nil, s => s
  | _, _, _, _, .cons h r, s => .cons h (Vals.app r s)
/-- what has been gathered: new tuples -/
structure Got (xs ys : List V) (H0 : Hp) (S : Addr) (i : Nat) (ts : List Addr) (H : Hp) : Prop where
  len : ts.length = i
  old : ∀ b o, H0 b = some o → H b = some o
  at_ : H S = some (.lst (ts.map V.ref))
  new : ∀ t ∈ ts, H0 t = none ∧ t ≠ S
  nd : ts.Nodup
  tup : ∀ (j : Nat) (t : Addr), ts[j]? = some t → ∃ x y, xs[j]? = some x ∧ ys[j]? = some y ∧ H t = some (.tup [x, y])
section
variable {X : Cx} {pins : List (Addr × Obj)} {σ : L2.St} {z TI TO i1 i2 l1 l2 S : Addr} {xs ys : List V} {us ws : List Value} {H0 : Hp}
theorem zip_loop {A : Around} {R : Result → Shared → Prop} {res : Value} (hh : A.handled = none) (D : ZipApart z TI TO i1 i2 l1 l2) (O : Off S z TI TO i1 i2 l1 l2) (hS0 : H0 S = none) (rx : Vals xs us) (ry : Vals ys ws) (hl : xs.length = ys.length) (hz : xs.length ≤ sizeLine)
    (hR : ∀ s H ts, Inv X pins σ H s → Got xs ys H0 S xs.length ts H → R (.ok (.ret res)) s) :
    ∀ (k i : Nat) (s : Shared) (H : Hp) (ts : List Addr), xs.length - i = k → i ≤ xs.length → Inv X pins σ H s → Got xs ys H0 S i ts H → ZAt z TI TO i1 i2 l1 l2 S us.toArray ws.toArray i s.heap → (∀ b ∈ [z, TI, TO, i1, i2], FpOk X pins H b ∧ b < s.heap.objs.size) →
      codeAny (model X.prog X.w) A (.builtin "list.extend.loop" ⟨[.ref S, .ref z, res], []⟩) R s := by
  have hul := rx.length
  have hwl := ry.length
  intro k
  induction k with
  | zero =>
    intro i s H ts hk hi I g st hf
    refine codeAny_builtin PySem.F.entry_extend_loop ?_
    rw [Around.under_plainId PySem.F.plain_extend_loop _]
    show wpAny _ A.in1 (pyNext (.ref z) >>= _) _ _ _
    refine wpAny_bind (zat_end hh D st (.inl (by simp; omega)) fun h' hkp => ?_)
    have : i = xs.length := by omega
    subst this
    exact wpAny_pure (hR _ H ts (I.turnedL (t' := s.toks) (ch := [z, TI, TO, i1, i2]) hkp fun b hb => (hf b hb).1) g)
  | succ k ih =>
    intro i s H ts hk hi I g st hf
    have hlt : i < xs.length := by omega
    obtain ⟨its, n, rv, hS, _⟩ : ∃ its n, Vals (ts.map V.ref) its ∧ s.heap.get? S = some { cls := .type "list", data := .seq its.toArray n } ∧ True := by
      obtain ⟨_, its, n, h1, h2⟩ := (show ObjOk X.prog X.w H s.heap S (.lst (ts.map V.ref)) from I.hok S _ g.at_)
      exact ⟨its, n, h1, h2, trivial⟩
    have hitl : its.length = i := by rw [← rv.length, List.length_map, g.len]
    have hSl : S < s.heap.objs.size := Heap.lt_size hS
    refine codeAny_builtin PySem.F.entry_extend_loop ?_
    rw [Around.under_plainId PySem.F.plain_extend_loop _]
    show wpAny _ A.in1 (pyNext (.ref z) >>= _) _ _ _
    have ex : us.toArray[i]? = some (us[i]'(by omega)) := by simp
    have ey : ws.toArray[i]? = some (ws[i]'(by omega)) := by simp
    obtain ⟨x, hx, rxi⟩ : ∃ x, xs[i]? = some x ∧ RelV x (us[i]'(by omega)) := by
      have e := List.getElem?_eq_getElem hlt
      obtain ⟨u, hu, ru⟩ := rx.get e
      rw [List.getElem?_eq_getElem (by omega)] at hu
      cases hu
      exact ⟨_, e, ru⟩
    obtain ⟨y, hy, ryi⟩ : ∃ y, ys[i]? = some y ∧ RelV y (ws[i]'(by omega)) := by
      have e := List.getElem?_eq_getElem (show i < ys.length by omega)
      obtain ⟨u, hu, ru⟩ := ry.get e
      rw [List.getElem?_eq_getElem (by omega)] at hu
      cases hu
      exact ⟨_, e, ru⟩
    refine wpAny_bind (zat_next D hSl st ex ey fun h' st' hT hkp => ?_)
    have nS : S ∉ [z, TI, TO, i1, i2] := by simp [O.z, O.ti, O.to, O.a1, O.a2]
    have hT0 : H s.heap.objs.size = none := I.hok.fresh (Nat.le_refl _)
    have I1 : Inv X pins σ (upd H s.heap.objs.size (.tup [x, y])) { s with heap := h' } := I.turnedNew (t' := s.toks) (ch := [z, TI, TO, i1, i2]) hkp (fun b hb => (hf b hb).1) (Nat.le_refl _) ⟨by show 2 ≤ sizeLine; decide, [_, _], .cons rxi (.cons ryi .nil), ⟨_, hT, rfl, _, rfl⟩⟩
    have hS' := hkp S _ nS hS
    have up : ∀ b o, b ≠ S → h'.get? b = some o → (h'.update S (Obj.mapSeq (·.push (Value.ref s.heap.objs.size)))).get? b = some o := fun b o hb e => (Heap.get?_update_other _ _ (Ne.symm hb)).trans e
    have hS2 := Heap.get?_update_self (Obj.mapSeq (·.push (Value.ref s.heap.objs.size))) hS' rfl
    have neS : s.heap.objs.size ≠ S := Nat.ne_of_gt hSl
    have hSH : (upd H s.heap.objs.size (.tup [x, y])) S = some (.lst (ts.map V.ref)) := by rw [upd_ne (Ne.symm neS)]; exact g.at_
    show wpAny _ A.in1 (updateSeq S (·.push (Value.ref s.heap.objs.size)) >>= _) _ _ _
    refine wpAny_bind (wpAny_updateSeq hS' rfl (wpAny_pure ⟨plainId_quiet PySem.F.plain_extend_loop _, ?_⟩) (by simp; omega) (by simp; omega))
    have tne : ∀ t ∈ ts, t ≠ s.heap.objs.size := fun t ht e => by
      obtain ⟨j, hj⟩ := List.mem_iff_getElem?.mp ht
      obtain ⟨_, _, _, _, e1⟩ := g.tup j t hj
      rw [e, hT0] at e1
      cases e1
    have hT2 := up _ _ neS hT
    refine ih (i + 1) _ (upd (upd H s.heap.objs.size (.tup [x, y])) S (.lst ((ts ++ [s.heap.objs.size]).map V.ref))) (ts ++ [s.heap.objs.size]) (by omega) hlt ?_ ?_ (st'.keep O up) ?_
    · refine I1.write (x := S) (e := S) (t' := s.toks) (by rw [hSH]; exact True.intro) (.inl rfl) up ⟨_, hS2⟩ ?_
      obtain ⟨c, ec⟩ := mapSeq_push (its := its) (n := n) (v := Value.ref s.heap.objs.size)
      refine ⟨by simp [g.len]; omega, its ++ [Value.ref s.heap.objs.size], c, ?_, hS2.trans (congrArg some ec)⟩
      rw [List.map_append]
      exact Vals.app rv (.cons rfl .nil)
    · refine ⟨by simp [g.len], fun b o e => ?_, upd_same, fun t ht => ?_, ?_, fun j t hj => ?_⟩
      · have hb := g.old b o e
        rw [upd_ne (fun q => by rw [q, hS0] at e; cases e), upd_ne (fun q => by rw [q, hT0] at hb; cases hb)]
        exact hb
      · rcases List.mem_append.mp ht with ht | ht
        · exact g.new t ht
        · obtain rfl : t = s.heap.objs.size := by simpa using ht
          refine ⟨?_, neS⟩
          cases e : H0 s.heap.objs.size with
          | none => rfl
          | some o => rw [g.old _ _ e] at hT0; cases hT0
      · rw [List.nodup_append]
        exact ⟨g.nd, by simp, fun a ha b hb => by obtain rfl : b = s.heap.objs.size := by simpa using hb
                                                  exact tne a ha⟩
      · by_cases hjl : j < ts.length
        · rw [List.getElem?_append_left hjl] at hj
          obtain ⟨x', y', e1, e2, e3⟩ := g.tup j t hj
          have hm := List.mem_of_getElem? hj
          refine ⟨x', y', e1, e2, ?_⟩
          rw [upd_ne (g.new t hm).2, upd_ne (tne t hm)]
          exact e3
        · have hlt2 := (List.getElem?_eq_some_iff.mp hj).1
          have hj2 : j = ts.length := by simp at hlt2; omega
          subst hj2
          obtain rfl : s.heap.objs.size = t := by simpa using hj
          rw [g.len]
          refine ⟨x, y, hx, hy, ?_⟩
          rw [upd_ne neS, upd_same]
    · intro b hb
      have hbl := (hf b hb).2
      refine ⟨⟨?_, (hf b hb).1.2⟩, Nat.lt_trans hbl (Heap.lt_size hT2)⟩
      rw [upd_ne (fun q => nS (by rw [← q]; exact hb)), upd_ne (Nat.ne_of_lt hbl)]
      exact (hf b hb).1.1
theorem call_listZip {A : Around} {E : Value → Shared → Prop} {s : Shared} {H : Hp} {Q : Value → Shared → Prop} (hh : A.handled = none) (D : ZipApart z TI TO i1 i2 l1 l2) (rx : Vals xs us) (ry : Vals ys ws) (hl : xs.length = ys.length) (hz : xs.length ≤ sizeLine) (I : Inv X pins σ H s) (hz0 : IsZip s.heap z TI TO .none)
    (st : ∀ S, S = s.heap.objs.size → ZAt z TI TO i1 i2 l1 l2 S us.toArray ws.toArray 0 s.heap) (hf : ∀ b ∈ [z, TI, TO, i1, i2], FpOk X pins H b ∧ b < s.heap.objs.size)
    (hq : ∀ s' H' ts, Inv X pins σ H' s' → Got xs ys H s.heap.objs.size xs.length ts H' → Q (.ref s.heap.objs.size) s') : wpAny (model X.prog X.w) A (call (.type "list") [.ref z]) Q E s := by
  generalize hSe : s.heap.objs.size = S at st hq
  have st := st S rfl
  have lt : ∀ {c o}, s.heap.get? c = some o → S ≠ c := fun e => by rw [← hSe]; exact Nat.ne_of_gt (Heap.lt_size e)
  have O : Off S z TI TO i1 i2 l1 l2 := by
    have hz : ∃ o, s.heap.get? z = some o := by
      rcases st.out with ⟨e, _⟩ | ⟨_, _, _, e, _⟩
      · exact ⟨_, e⟩
      · exact ⟨_, e⟩
    obtain ⟨_, ez⟩ := hz
    obtain ⟨_, e1, _⟩ := st.a1
    obtain ⟨_, e2, _⟩ := st.a2
    obtain ⟨_, e3, _⟩ := st.q1
    obtain ⟨_, e4, _⟩ := st.q2
    exact ⟨lt ez, lt st.ti, fun e => absurd (hf TO (by simp)).2 (by rw [← e, ← hSe]; exact Nat.lt_irrefl _), lt e1, lt e2, lt e3, lt e4⟩
  have hH : H S = none := I.hok.fresh (Nat.le_of_eq hSe)
  have loop : ∀ (h : Heap) (c : Nat), (∀ b o, b ≠ S → s.heap.get? b = some o → h.get? b = some o) → h.get? S = some { cls := .type "list", data := .seq #[] c } → ∀ {A : Around} {R : Result → Shared → Prop}, A.handled = none → (∀ s' H' ts, Inv X pins σ H' s' → Got xs ys H S xs.length ts H' → R (.ok (.ret .none)) s') →
      codeAny (model X.prog X.w) A (.builtin "list.extend.loop" ⟨[.ref S, .ref z, .none], []⟩) R { s with heap := h } := fun h c hk hS {A R} hh hR => by
    have I1 : Inv X pins σ (upd H S (.lst [])) { s with heap := h } := I.laid (t' := s.toks) (fun b u e => hk b u (fun q => lt e q.symm) e) (Nat.le_of_eq hSe) ⟨by show 0 ≤ _; omega, [], c, .nil, hS⟩
    have low : S < h.objs.size := Heap.lt_size hS
    refine zip_loop hh D O hH rx ry hl hz hR xs.length 0 _ _ [] (by omega) (by omega) I1 ⟨rfl, fun b o e => ?_, upd_same, by simp, by simp, by simp⟩ (st.keep O hk) fun b hb => ?_
    · rw [upd_ne (fun q => by rw [q, hH] at e; cases e)]
      exact e
    · have hbl : b < S := by rw [← hSe]; exact (hf b hb).2
      refine ⟨⟨?_, (hf b hb).1.2⟩, Nat.lt_trans hbl low⟩
      rw [upd_ne (Nat.ne_of_lt hbl)]
      exact (hf b hb).1.1
  refine callType_codes (Q₁ := fun obj s₁ => obj = .ref s.heap.objs.size ∧ s₁ = { s with heap := s.heap.push { cls := .type "list", data := .seq #[] } }) PySem.F.called_list (PySem.F.typeCall_list_1 _) PySem.F.entry_list_init (code_list_new _ ⟨rfl, rfl⟩) fun obj s₁ h₁ => ?_
  obtain ⟨rfl, rfl⟩ := h₁
  rw [hSe]
  have hS : (s.heap.push { cls := .type "list", data := .seq #[] }).get? S = some { cls := .type "list", data := .seq #[] } := by rw [← hSe]; exact Heap.get?_push_size _ rfl
  refine ⟨⟨_, hS, rfl⟩, PySem.F.args_list_init_2 _ _, ?_⟩
  have kp : ∀ (h : Heap) f, (∀ b o, b ≠ S → s.heap.get? b = some o → h.get? b = some o) → ∀ b o, b ≠ S → s.heap.get? b = some o → (h.update S f).get? b = some o := fun h f k b o hb e => (Heap.get?_update_other _ _ (Ne.symm hb)).trans (k b o hb e)
  have k0 : ∀ b o, b ≠ S → s.heap.get? b = some o → (s.heap.push { cls := .type "list", data := .seq #[] }).get? b = some o := fun b o _ e => Heap.get?_push_of_some _ e
  show wpAny _ _ (Builtin.List.listItems (.ref S) >>= fun old => Builtin.List.listUpdate (.ref S) (fun _ => #[]) >>= fun _ => letGo old.toList.reverse >>= fun _ => Builtin.List.listExtendWith (.ref S) (.ref z) .none) _ _ _
  refine wpAny_bind ?_
  unfold Builtin.List.listItems
  refine wpAny_bind (wpAny_seqItems hS rfl (wpAny_pure ?_))
  show wpAny _ _ (updateSeq S (fun _ => #[]) >>= fun _ => letGo (#[] : Array Value).toList.reverse >>= fun _ => Builtin.List.listExtendWith (.ref S) (.ref z) .none) _ _ _
  refine wpAny_bind (wpAny_updateSeq hS rfl ?_)
  have hS2 := Heap.get?_update_self (Obj.mapSeq (fun _ => (#[] : Array Value))) hS rfl
  have k1 := kp _ (Obj.mapSeq (fun _ => (#[] : Array Value))) k0
  have hz1 := k1 z _ (Ne.symm O.z) hz0
  refine wpAny_bind (wpAny_letGo ?_)
  unfold Builtin.List.listExtendWith
  refine wpAny_bind (wpAny_typeOf (T := "zip") ⟨_, hz1, rfl⟩ ?_)
  have n1 : Builtin.List.listSameRef (.ref S) (.ref z) = false := by simp [Builtin.List.listSameRef, O.z]
  have n2 : (Value.type "zip" == Value.type "list") = false := by decide
  have n3 : (Value.type "zip" == Value.type "tuple") = false := by decide
  simp only [n1, n2, n3, Bool.or_false, Bool.false_eq_true, if_false]
  refine wpAny_bind (wpAny_pyIter_zip hz1 ?_)
  refine wpAny_bind (wpAny_holding ?_)
  unfold Builtin.List.listLengthHint
  refine wpAny_bind (wpAny_specialOf (T := "zip") ⟨_, hz1, rfl⟩ zipNoLen ?_)
  show wpAny _ _ (specialOf (Value.ref z) (Str.ofString "__length_hint__") >>= _) _ _ _
  refine wpAny_bind (wpAny_specialOf (T := "zip") ⟨_, hz1, rfl⟩ zipNoHint ?_)
  refine wpAny_pure ?_
  refine wpAny_ite_split (fun _ => ?_) (fun _ => wpAny_pure ⟨plainId_quiet PySem.F.plain_extend_loop _, loop _ _ k1 hS2 hh fun s' H' ts I' g => ⟨rfl, hq s' H' ts I' g⟩⟩)
  refine wpAny_bind (wpAny_rule ?_)
  refine wpAny_bind ?_
  show wpAny _ _ (updateSeq S (·.push .none) >>= fun _ => updateSeq S (·.pop)) _ _ _
  refine wpAny_bind (wpAny_updateSeq hS2 rfl ?_)
  have hS3 := Heap.get?_update_self (Obj.mapSeq (·.push Value.none)) hS2 rfl
  have k2 := kp _ (Obj.mapSeq (·.push Value.none)) k1
  refine wpAny_updateSeq (hz := by seq_fits) hS3 rfl ?_
  have hS4 := Heap.get?_update_self (Obj.mapSeq (·.pop)) hS3 rfl
  have k3 := kp _ (Obj.mapSeq (·.pop)) k2
  exact wpAny_pure ⟨plainId_quiet PySem.F.plain_extend_loop _, loop _ _ k3 hS4 hh fun s' H' ts I' g => ⟨rfl, hq s' H' ts I' g⟩⟩
end
def tLZip (K : PySem.W.Frag) (ta : TA) : TE := fun σ H Q => ta σ H fun vs H1 => ∃ (a b : Addr) (xs ys : List V), vs = [.ref a, .ref b] ∧ SqL K H1 a xs ∧ SqL K H1 b ys ∧ xs.length = ys.length ∧ ∀ p H' ts, H1 p = none → Got xs ys H1 p xs.length ts H' → Q (.ref p) H'
theorem pe_listZip {X : Cx} {e e2 : Expr} {ta : TA} {p p2 pos pos2 : Pos} (hc : X.calm = true) (hg : Gl X "list") (hm : X.mg "list" = none) (hgz : Gl X "zip") (hmz : X.mg "zip" = none) (ha : PA X [e, e2] ta)
    (hs : starEach [e, e2] X.env = (false, eval e X.env) :: starEach [e2] X.env := by rfl) (hpl : (backTo pos2 (starEach [e2] X.env)).any (·.1) = false := by rfl)
    (hs0 : starEach [.Call (.Name "zip" p2) [e, e2] [] pos2] X.env = (false, eval (.Call (.Name "zip" p2) [e, e2] [] pos2) X.env) :: starEach [] X.env := by rfl) (hpl0 : (backTo pos (starEach [] X.env)).any (·.1) = false := by rfl) :
    PE X (.Call (.Name "list" p) [.Call (.Name "zip" p2) [e, e2] [] pos2] [] pos) (tLZip X.K ta) := by
  refine ⟨fun pins s σ H Q I h => ?_⟩
  refine Call_ (ld_blt I hg hm PyProof.Rows.boot_list (PyProof.Rows.callWith_type1 ?_ hs0 hpl0))
  rw [hs0]
  show wpAny _ _ (spliced ((false, eval (.Call (.Name "zip" p2) [e, e2] [] pos2) X.env) :: backTo pos (starEach [] X.env))) _ _ s
  refine Calls.spliced_cons ?_
  refine Call_ (ld_blt I hgz hmz PyProof.Rows.boot_zip (PyProof.Rows.callWith_type1 (thn (ha.run pos2 pins s σ H _ I h) fun us s1 ⟨vs, H1, I1, r1, q1⟩ => ?_) hs hpl))
  obtain ⟨a, b, xs, ys, ex, hqx, hqy, hlen, q⟩ := q1
  subst ex
  cases r1 with
  | cons r rr =>
    cases rr with
    | cons r' rr =>
      cases rr
      cases r
      cases r'
      obtain ⟨its, rv, p1, hz1, la⟩ := inv_sq (t := false) I1 hqx
      obtain ⟨its2, rv2, p2', hz2, lb⟩ := inv_sq (t := false) I1 hqy
      refine zip_begins2 (begins_sq (t := false) a its.toArray) (begins_sq (t := false) b its2.toArray) p1 p2' fun h' hz hTI hTO h1 h2 hsz hkp => ?_
      refine Calls.spliced_nil ?_
      have I2 : Inv X pins σ H1 { s1 with heap := h' } := I1.kept (t' := s1.toks) hkp
      have g1 : h'.IsList a its.toArray := by
        obtain ⟨o, g1, g2⟩ := (show s1.heap.IsList a _ from p1)
        exact ⟨o, hkp _ _ g1, g2⟩
      have g2 : h'.IsList b its2.toArray := by
        obtain ⟨o, g1, g2⟩ := (show s1.heap.IsList b _ from p2')
        exact ⟨o, hkp _ _ g1, g2⟩
      refine call_listZip (I1.ok.hd hc) (zip_apart la lb) rv rv2 hlen hz1 I2 hz (fun S _ => ⟨hTI, ⟨_, h1, rfl, rfl⟩, ⟨_, h2, rfl, rfl⟩, g1, g2, .inl ⟨hz, _, _, hTO⟩⟩) (fun c hcm => ?_) fun s' H' ts I' g => ⟨.ref _, H', I', rfl, q _ H' ts (I2.hok.fresh (Nat.le_refl _)) g⟩
      have e' : c = s1.heap.objs.size + 4 ∨ c = s1.heap.objs.size + 2 ∨ c = s1.heap.objs.size + 3 ∨ c = s1.heap.objs.size ∨ c = s1.heap.objs.size + 1 := by simpa using hcm
      have hle : s1.heap.objs.size ≤ c ∧ c < h'.objs.size := by
        rcases e' with z | z | z | z | z
        · rw [z, hsz]; exact ⟨Nat.le_add_right _ _, Nat.add_lt_add_left (by decide) _⟩
        · rw [z, hsz]; exact ⟨Nat.le_add_right _ _, Nat.add_lt_add_left (by decide) _⟩
        · rw [z, hsz]; exact ⟨Nat.le_add_right _ _, Nat.add_lt_add_left (by decide) _⟩
        · rw [z, hsz]; exact ⟨Nat.le_refl _, Nat.lt_add_of_pos_right (by decide)⟩
        · rw [z, hsz]; exact ⟨Nat.le_add_right _ _, Nat.add_lt_add_left (by decide) _⟩
      exact ⟨I1.fpOk hle.1 (I1.hok.fresh hle.1), hle.2⟩
/-! ### its reading -/
section
variable {K : PySem.W.Frag} {G G2 : Gh} {H H2 : Hp} {st : S}
theorem SS.ext (s : SS K G st H) (k : ∀ b o, H b = some o → H2 b = some o) : SS K G st H2 ∧ Post G H G H2 :=
  ⟨⟨fun a o e => k a o (s.ex a o e), s.len, s.nd, fun n c q e1 e2 => (s.cell n c q e1 e2).mono (Gh.le.refl G) (fun u e => k q u e) (fun _ e => e)⟩, ⟨Gh.le.refl G, fun x u e _ => k x u e, fun x e _ _ => e, fun x z => .inl z, fun x h z => by
    cases e : H x with
    | none => exact h e
    | some o => rw [k x o e] at z; cases z⟩⟩
/-- new tuples are frozen, one after the other -/
theorem frz_tups {G0 : Gh} : ∀ (ts : List Addr) (os : List HO) {G : Gh}, SS K G st H2 → Post G0 H G H2 → ts.length = os.length → ts.Nodup → (∀ t ∈ ts, H t = none ∧ G.g t = none ∧ t ∉ G.as) → (∀ (j : Nat) (t : Addr) (o : HO), ts[j]? = some t → os[j]? = some o → H2 t = some o) →
    ∃ G3, SS K G3 st H2 ∧ Post G0 H G3 H2 ∧ G.le G3 ∧ G3.as = G.as ∧ (∀ b, b ∉ ts → G3.g b = G.g b) ∧ ∀ (j : Nat) (t : Addr) (o : HO), ts[j]? = some t → os[j]? = some o → G3.g t = some o
  | [], _, G, s, p, _, _, _, _ => ⟨G, s, p, Gh.le.refl G, rfl, fun _ _ => rfl, fun j t o h => by simp at h⟩
  | _ :: _, [], _, _, _, h, _, _, _ => by simp at h
  | t :: ts, o :: os, G, s, p, hl, nd, hn, ho => by
    rw [List.nodup_cons] at nd
    obtain ⟨h1, h2, h3⟩ := hn t (by simp)
    have e := ho 0 t o rfl rfl
    obtain ⟨s1, le1⟩ := s.freeze e h2 h3
    obtain ⟨G3, s3, p3, le3, as3, off3, at3⟩ := frz_tups ts os s1 (p.freeze h2 h1) (by simpa using hl) nd.2 (fun x hx => ⟨(hn x (by simp [hx])).1, by
      show (upd G.g t o) x = none
      rw [upd_ne (fun q => nd.1 (by rw [← q]; exact hx))]
      exact (hn x (by simp [hx])).2.1, (hn x (by simp [hx])).2.2⟩) fun j x u e1 e2 => ho (j + 1) x u (by simpa using e1) (by simpa using e2)
    refine ⟨G3, s3, p3, le1.trans le3, as3, fun b hb => ?_, fun j x u e1 e2 => ?_⟩
    · rw [off3 b (fun q => hb (by simp [q]))]
      exact upd_ne (fun q => hb (by simp [q]))
    · cases j with
      | zero =>
        simp at e1 e2
        subst e1 e2
        rw [off3 _ nd.1]
        exact upd_same
      | succ j => exact at3 j x u (by simpa using e1) (by simpa using e2)
theorem reps_zip {G3 : Gh} : ∀ {l m : List D} {xs ys : List V} {ts : List Addr}, Reps K G3 l xs → Reps K G3 m ys → ts.length = xs.length → xs.length = ys.length → (∀ (j : Nat) (t : Addr) (x y : V), ts[j]? = some t → xs[j]? = some x → ys[j]? = some y → G3.g t = some (.tup [x, y])) → Reps K G3 (zipD l m) (ts.map V.ref)
  | _, _, _, _, [], .nil, _, _, _, _ => by unfold zipD; simp; exact .nil
  | _, _, _, _, t :: ts, .cons h r, .cons h2 r2, e1, e2, hg => .cons (.tup (hg 0 t _ _ rfl rfl rfl) (.cons h (.cons h2 .nil))) (reps_zip r r2 (by simpa using e1) (by simpa using e2) fun j t' x y a b c => hg (j + 1) t' x y (by simpa using a) (by simpa using b) (by simpa using c))
  | _, _, _, _, _ :: _, .nil, _, e1, _, _ => by simp at e1
  | _, _, _, _, [], .cons _ _, _, e1, _, _ => by simp at e1
  | _, _, _, _, _ :: _, .cons _ _, .nil, _, e2, _ => by simp at e2
end
section
variable {X : Cx} {W : WX} {k : Nat} {e e2 : Expr} {ae ab : AE} {p p2 pos pos2 : Pos}
def fLZip (a b : AE) : AFr := fun env st q er => a env st (fun x s1 => b env s1 (fun y s2 => ∃ l m, vw s2 x = .lst l ∧ vw s2 y = .lst m ∧ l.length = m.length ∧ q (zipD l m) s2) er) er
theorem axf_lzip (C : CxE X W k) (hm : X.mg "list" = none) (hmz : X.mg "zip" = none) (h : AX X W e ae) (h' : AX X W e2 ab) (hg : Gl X "list" := by rfl) (hgz : Gl X "zip" := by rfl)
    (hs : starEach [e, e2] X.env = (false, eval e X.env) :: starEach [e2] X.env := by rfl) (hs2 : starEach [e2] X.env = [(false, eval e2 X.env)] := by rfl) (hpl : (backTo pos2 (starEach [e2] X.env)).any (·.1) = false := by rfl)
    (hs0 : starEach [.Call (.Name "zip" p2) [e, e2] [] pos2] X.env = (false, eval (.Call (.Name "zip" p2) [e, e2] [] pos2) X.env) :: starEach [] X.env := by rfl) (hpl0 : (backTo pos (starEach [] X.env)).any (·.1) = false := by rfl) :
    AXF X W (.Call (.Name "list" p) [.Call (.Name "zip" p2) [e, e2] [] pos2] [] pos) (fLZip ae ab) := by
  obtain ⟨t, pe, r⟩ := h
  obtain ⟨t', pe', r'⟩ := h'
  refine ⟨_, pe_listZip C.calm hg hm hgz hmz (pa_cons pe (pa_cons pe' pa_nil (by rw [hs2]; rfl)) (by rw [hs])) hs hpl hs0 hpl0, fun G env st σ H Q q er s sl a tE tX => ?_⟩
  refine r G env st σ H _ _ er s sl a (fun v d st2 G2 H2 p2 s2 r2 h2 => r' G2 env st2 σ H2 _ _ er s2 (sl.mono p2.le) h2 (fun v' d' st3 G3 H3 p3 s3 r3 h3 => ?_) (tX.on p2)) tX
  obtain ⟨l, m, hl, hm', hlen, h3⟩ := h3
  have rx := (r2.mono p3.le).vw s3
  have ry := r3.vw s3
  rw [hl] at rx
  rw [hm'] at ry
  cases rx with
  | lst ha rs =>
    cases ry with
    | lst hb rs' =>
      rename_i pa vs pb vs'
      have hlv : vs.length = vs'.length := by rw [← rs.length, ← rs'.length]; exact hlen
      refine ⟨_, _, vs, vs', rfl, SqL.of ha, SqL.of hb, hlv, fun a H' ts hp g => ?_⟩
      obtain ⟨s4, p4⟩ := s3.ext g.old
      obtain ⟨_, _, na, ng⟩ := s3.room (o := .lst []) hp
      have tl := g.len
      obtain ⟨G5, s5, p5, le5, as5, off5, at5⟩ := frz_tups (H := H3) ts (List.zipWith (fun x y => HO.tup [x, y]) vs vs') s4 p4 (by simp; omega) g.nd (fun t ht => by
        obtain ⟨_, _, n1, n2⟩ := s3.room (o := .lst []) (g.new t ht).1
        exact ⟨(g.new t ht).1, n2, n1⟩) (fun j t o e1 e2 => by
        obtain ⟨x, y, f1, f2, f3⟩ := g.tup j t e1
        rw [List.getElem?_zipWith, f1, f2] at e2
        cases e2
        exact f3)
      have p23 := p2.trans p3
      have nat : a ∉ ts := fun hm => (g.new a hm).2 rfl
      refine tE _ _ st3 G5 H' (p23.trans p5) s5 ⟨a, _, rfl, g.at_, by rw [off5 a nat]; exact ng, by rw [as5]; exact na, ?_, reps_zip (rs.mono le5) (rs'.mono le5) (by omega) hlv fun j t x y e1 e2 e3 => at5 j t _ e1 (by rw [List.getElem?_zipWith, e2, e3])⟩ h3
      cases hh : H a with
      | none => rfl
      | some o => exact absurd hp (p23.m a (by rw [hh]; exact fun z => nomatch z))
end
end AM
set_option Elab.async false
set_option linter.all false
set_option maxRecDepth 100000
set_option maxHeartbeats 4000000
namespace AM
open PySem PySem.Spec PyProof.Rows L2 Evl
/-! ### l[i] += n, d[k] += n -/
section
variable {X : Cx}
theorem get_list : PGet X (rIxL X.K) := by
  intro pins s σ H x y v u Q I rx ry h
  obtain ⟨p, xs, i, z, rfl, rfl, hq, he, q⟩ := h
  cases rx
  obtain ⟨t, rfl⟩ := ry
  obtain ⟨its, r, pl, hz⟩ := I.list hq
  obtain ⟨j, h1, h2, h3, h4, h5⟩ := atI_get he
  obtain ⟨w, ew, rw'⟩ := r.get h2
  have hl := r.length
  have hn := line63
  have fin : EP X pins σ Q w s := ⟨z, H, I, rw', q⟩
  by_cases h0 : 0 ≤ i
  · have hj : i.toNat = j := by
      rw [seqIndex_of h0 h5] at h1
      exact Option.some.inj h1
    exact wpAny_getItem_list pl.isList h0 (by omega) (by rw [hj]; simpa using ew) fin
  · have hj : (i + (its.toArray.size : Int)).toNat = j := by
      rw [seqIndex_neg (by omega) h4] at h1
      rw [List.size_toArray, ← hl]
      exact Option.some.inj h1
    exact wpAny_getItem_list_neg pl.isList (by omega) (by rw [List.size_toArray] <;> omega) (by omega) (by rw [hj]; simpa using ew) fin
theorem get_dic (hu : X.A.units + 2 < cLine) : PGet X rIxDic := by
  intro pins s σ H x y v u Q I rx ry h
  obtain ⟨a, w, rfl, g, q⟩ := h
  obtain rfl : v = Value.ref a := rx
  exact d_getItem (by omega) I g ry fun w' s3 I3 rw' => ⟨w, H, I3, rw', q⟩
end
def sAugIx (o b a : AE) : AS := fun env st k => o env st (fun x s1 => b env s1 (fun j s2 => ∃ n i l v, x = .ref n ∧ j = .int i ∧ s2[n]? = some (.lst l) ∧ atI l i = some (.int v) ∧ a env s2 (fun y s3 => ∃ w l' j', y = .int w ∧ s3[n]? = some (.lst l') ∧ ixN l'.length i = some j' ∧ k.nx env (s3.set n (.lst (l'.set j' (.int (v + w)))))) (fun e s => k.er e env s)) (fun e s => k.er e env s)) (fun e s => k.er e env s)
def sAugDx (o b a : AE) : AS := fun env st k => o env st (fun x s1 => b env s1 (fun j s2 => ∃ n l v, x = .ref n ∧ isKeyT (vw s2 j) ∧ s2[n]? = some (.dic l) ∧ DLook l (vw s2 j) (.int v) ∧ a env s2 (fun y s3 => ∃ w l' l2, y = .int w ∧ s3[n]? = some (.dic l') ∧ keysT l' ∧ l'.length < 100000 ∧ vw s3 j = vw s2 j ∧ DPutD l' (vw s3 j) (.int (v + w)) l2 ∧ k.nx env (s3.set n (.dic l2))) (fun e s => k.er e env s)) (fun e s => k.er e env s)) (fun e s => k.er e env s)
section
variable {K : PySem.W.Frag} {W : WX}
theorem refS_augIx {ta to tb : TE} {aa ao ab : AE} (ha : RefE K W ta aa) (ho : RefE K W to ao) (hb : RefE K W tb ab) : RefS K W (tAugS to tb ta (rIxL K) (ipI fun i j => i + j) rSetL) (sAugIx ao ab aa) := fun G env st σ H D k s l h t => by
  refine ho G env st σ H _ _ _ s l h (fun w x st1 G1 H1 p1 s1 r1 h1 => ?_) (t.x l)
  refine hb G1 env st1 σ H1 _ _ _ s1 (l.mono p1.le) h1 (fun u j st2 G2 H2 p2 s2 r2 h2 => ?_) ((t.x l).on p1)
  obtain ⟨n, i, ls, v, rfl, rfl, hn, hat, h2⟩ := h2
  have p12 := p1.trans p2
  cases r1 with
  | ref ep =>
    rename_i p
    cases r2
    have ep2 := pre_get p2.le.a ep
    obtain ⟨vs, gp, hp, rs⟩ := s2.cell n _ p hn ep2
    obtain ⟨vv, hv, rv⟩ := atI_reps rs hat
    cases rv
    refine ⟨p, vs, i, _, rfl, rfl, SqL.of hp, hv, ?_⟩
    refine ha G2 env st2 σ H2 _ _ _ s2 (l.mono p12.le) h2 (fun y d st3 G3 H3 p3 s3 r3 h3 => ?_) ((t.x l).on p12)
    obtain ⟨w, l', j', rfl, hn3, hj, h3⟩ := h3
    cases r3
    have ep3 := pre_get p3.le.a ep2
    obtain ⟨vs3, gp3, hp3, rs3⟩ := s3.cell n _ p hn3 ep3
    obtain ⟨s4, p4⟩ := s3.setCell (n := n) (c' := .lst (l'.set j' (.int (v + w)))) (o := .lst (vs3.set j' (.int (v + w)))) ep3 gp3 ⟨_, gp3, upd_same, rs3.set (.int _) j'⟩
    exact ⟨v, w, rfl, rfl, p, vs3, i, j', rfl, rfl, hp3, by rw [← rs3.length]; exact hj, t.nx env σ _ G3 _ ((p12.trans p3).trans p4) s4 (l.mono ((p12.trans p3).trans p4).le) h3⟩
theorem dicT_of {G : Gh} {H : Hp} {l : List (D × D)} {p : Addr} {kk d : D} (h : CellOk K G H (.dic l) p) (hk : isKeyT kk) (hl : DLook l kk d) : G.g p = none ∧ ∃ kvs, H p = some (.dT kvs) ∧ RepT K G l kvs := by
  exact h
theorem refS_augDx {ta to tb : TE} {aa ao ab : AE} (ha : RefE K W ta aa) (ho : RefE K W to ao) (hb : RefE K W tb ab) : RefS K W (tAugS to tb ta rIxDic (ipI fun i j => i + j) rSetD) (sAugDx ao ab aa) := fun G env st σ H D k s l h t => by
  refine ho G env st σ H _ _ _ s l h (fun w x st1 G1 H1 p1 s1 r1 h1 => ?_) (t.x l)
  refine hb G1 env st1 σ H1 _ _ _ s1 (l.mono p1.le) h1 (fun u j st2 G2 H2 p2 s2 r2 h2 => ?_) ((t.x l).on p1)
  obtain ⟨n, ls, v, rfl, hkey, hn, hat, h2⟩ := h2
  have p12 := p1.trans p2
  cases r1 with
  | ref ep =>
    rename_i p
    have ep2 := pre_get p2.le.a ep
    obtain ⟨gp, kvs, hp, rk⟩ := dicT_of (s2.cell n _ p hn ep2) hkey hat
    obtain ⟨kk, ek⟩ := hkey
    have ru := r2.vw s2
    rw [ek] at ru hat
    obtain ⟨vv, e1, rv⟩ := rk.look hat
    cases rv
    obtain ⟨b, eb, hb2⟩ : ∃ b, u = .ref b ∧ H2 b = some (.tup (kk.map kV)) := by
      cases ru with
      | tup hy rs _ =>
        have := reps_kD rs
        subst this
        exact ⟨_, rfl, hy⟩
    subst eb
    refine ⟨p, _, rfl, by rw [← e1]; exact DGet.t hp hb2, ?_⟩
    refine ha G2 env st2 σ H2 _ _ _ s2 (l.mono p12.le) h2 (fun y d st3 G3 H3 p3 s3 r3 h3 => ?_) ((t.x l).on p12)
    obtain ⟨w, l', l2, rfl, hn3, hne, hsz, hvw, hput, h3⟩ := h3
    cases r3
    have ep3 := pre_get p3.le.a ep2
    have ru3 := (r2.mono p3.le).vw s3
    rw [hvw, ek] at ru3
    rw [hvw, ek] at hput
    have hb3 : H3 b = some (.tup (kk.map kV)) := by
      cases ru3 with
      | tup hy rs _ =>
        have := reps_kD rs
        subst this
        exact hy
    obtain ⟨gp3, kvs3, hp3, rk3⟩ := s3.cell n _ p hn3 ep3
    · obtain ⟨s4, p4⟩ := s3.setCell (n := n) (c' := .dic l2) (o := .dT (putK kvs3 kk (.int (v + w)))) ep3 gp3 ⟨gp3, _, upd_same, RepT.put (.int _) rk3 hput⟩
      refine ⟨v, w, rfl, rfl, ?_⟩
      exact ⟨p, _, rfl, DPut.t hp3 hb3 (sz_lt (by rw [← rk3.length]; exact hsz)), t.nx env σ _ G3 _ ((p12.trans p3).trans p4) s4 (l.mono ((p12.trans p3).trans p4).le) h3⟩
end
section
variable {X : Cx} {W : WX} {o i e : Expr} {ao ab ae : AE} {pos tpos : Pos}
theorem axs_augIx (ho : AX X W o ao) (hi : AX X W i ab) (he : AX X W e ae) (ha : ∀ ov iv new, augStore i ov iv new = (do holding [new, ov, iv] (setItem ov iv new); release [new, ov, iv] []; pure .next) := by intros; rfl) : AXS X W (.AugAssign (.Subscript o i tpos) .Add e pos) (sAugIx ao ab ae) := by
  obtain ⟨to, po, ro⟩ := ho
  obtain ⟨tb, pb, rb⟩ := hi
  obtain ⟨te, pe, re⟩ := he
  exact ⟨_, ps_augS po pb get_list pe ip_add set_list ha, refS_augIx re ro rb⟩
theorem axs_augDx {k : Nat} (C : CxE X W k) (ho : AX X W o ao) (hi : AX X W i ab) (he : AX X W e ae) (ha : ∀ ov iv new, augStore i ov iv new = (do holding [new, ov, iv] (setItem ov iv new); release [new, ov, iv] []; pure .next) := by intros; rfl) : AXS X W (.AugAssign (.Subscript o i tpos) .Add e pos) (sAugDx ao ab ae) := by
  obtain ⟨to, po, ro⟩ := ho
  obtain ⟨tb, pb, rb⟩ := hi
  obtain ⟨te, pe, re⟩ := he
  exact ⟨_, ps_augS po pb (get_dic (by have := u64 C.room; omega)) pe ip_add (set_dict (by have := u64 C.room; omega)) ha, refS_augDx re ro rb⟩
end
end AM
set_option Elab.async false
set_option linter.all false
set_option maxRecDepth 100000
set_option maxHeartbeats 4000000
namespace AM
open PySem PySem.Spec PyProof.Rows L2 Evl
/-! ### x = {..: .. for ..}, a cell -/
def sCellD (f : AFd) (i : Nat) : AS := fun env st k => f env st (fun l s1 => k.nx (env.set i (.d (.ref s1.length))) (s1 ++ [.dic l])) (fun e s1 => k.er e env s1)
theorem refS_cellD {K : PySem.W.Frag} {W : WX} {te : TE} {af : AFd} {i : Nat} (h : RefD K W te af) : RefS K W (tAsg te (gName i)) (sCellD af i) := fun G env st σ H D k s l a t =>
  h G env st σ H _ _ _ s l a (fun v ds st2 G2 H2 p2 s2 r2 h2 => by
    obtain ⟨G3, s3, p3, r3⟩ := ownd_cell s2 p2 r2
    exact t.nx _ _ _ G3 H2 p3 s3 ((l.mono p3.le).set i r3) h2) (t.x l)
theorem swD_true {kx vx : Expr} {gs : List Comprehension} {scope : Scope} {pos py : Pos} {y : Str} {l : Nat} {env : Env} (hk : env.scope.kind = .function) (hy : env.scope.names.lookup y = some .local) (hl : (py.line == pos.line) = true)
    (ha : (scope.names.any fun (n, k) => n == y && (k == .local || k == .cell)) = false) : swapsWith (.DictComp kx vx gs scope pos) (some (.Name y py)) l env = pure true := by
  have ky : env.kindOf y = some .local := hy
  have hb : env.blockKind = .function := by unfold Env.blockKind; rw [hk]; rfl
  unfold swapsWith
  simp only [hb, ky, ha, Expr.pos, hl]
  rfl
section
variable {X : Cx} {W : WX} {k : Nat}
theorem ps_setDcT {i : Nat} {y : Str} {py : Pos} {kx vx tg iter : Expr} {ifs : List Expr} {scope : Scope} {own : List (Str × Nat)} {pos spos : Pos} {wi : TI} {g : TG} {tt : TT} {tk tv : TE} (hu : X.A.units + 1 < cLine) (hc : X.calm = true) (hN : X.N.Nodup) (hy : X.N[i]? = some y) (hyl : X.env.scope.names.lookup y = some .local)
    (hsw : swapsWith (.DictComp kx vx [⟨tg, iter, ifs, 0⟩] scope pos) (some (.Name y py)) spos.line X.env = pure true) (hi : PI X tg iter wi) (ok : BlkOk X.N X.env.scope scope own)
    (hg : ∀ (s : Shared) (H : Hp) (C : Addr) (cl : List (Str × Addr)) (fp : List Addr), PG (X.blk s H scope (compEnvC scope cl C X.env) fp) tg g) (ht : ∀ (s : Shared) (H : Hp) (C : Addr) (cl : List (Str × Addr)) (fp : List Addr), PTs (X.blk s H scope (compEnvC scope cl C X.env) fp) ifs tt)
    (hk : ∀ (s : Shared) (H : Hp) (C : Addr) (cl : List (Str × Addr)) (fp : List Addr), PE (X.blk s H scope (compEnvC scope cl C X.env) fp) kx tk)
    (he : ∀ (s : Shared) (H : Hp) (C : Addr) (cl : List (Str × Addr)) (fp : List Addr), PE (X.blk s H scope (compEnvC scope cl C X.env) fp) vx tv) (hs : ∀ x, foldedSetIterable iter X.env x = pure x) :
    PS X (.Assign [.Name y py] (.DictComp kx vx [⟨tg, iter, ifs, 0⟩] scope pos) spos) (tAsg (tDcT wi g tt tk tv (own.map (·.2))) (gName i)) := by
  refine ⟨fun pins s σ H D I h => ?_⟩
  rw [exec_Assign_Name_used _ _ _ _ hsw]
  refine wpAny_bind (wpAny_standAt (wpAny_bind ?_))
  have h : tDcT wi g tt tk tv (own.map (·.2)) σ H (fun x H1 => gName i x σ H1 D.nx) := h
  show wpAny _ X.A (do let _ ← comprehension (.DictComp kx vx [⟨tg, iter, ifs, 0⟩] scope pos) scope X.env (firstIterPos [⟨tg, iter, ifs, 0⟩] pos) newDict false (eval iter X.env) (some (assign (.Name y py) X.env))) _ _ s
  refine wpAny_bind (thn (dc_coreT (Qf := fun _ s' => SP X pins D .next s') hu hc hN hi ok hg ht hk he hs I h fun L C s' m H' I' q hn f => ?_) fun _ s' hq => wpAny_pure (wpAny_pure hq))
  show wpAny _ _ (assign (.Name y py) X.env (.ref L)) _ _ _
  refine wpAny_assign_Name (store_ok2 (v := V.ref L) I' hN hy (.inl hyl) rfl (fun s2 I2 ⟨a, sb, ha⟩ => ?_) (.inr hyl))
  obtain ⟨f0, f1, f2, f3, f4, f5⟩ := f
  have haC : C ≠ a := by
    rcases ha with z | z
    · rw [z]; exact f1
    · exact fun e => f4 y a z e.symm
  exact ⟨m, hn.sameBut sb haC, fun h3 sb3 => ⟨_, H', I2.turned (t' := s2.toks) (fun b o hb e => (sb3.2 b hb).trans e) f0 f1 f3 f4 f5, q⟩⟩
theorem axs_setDc (own : List (Str × Nat)) {i : Nat} {y : Str} {py pos spos : Pos} {kx vx tg iter : Expr} {ifs : List Expr} {scope : Scope} {ai : AI} {ag : AG} {xt : AT} {ak ae : AE} (C : CxE X W k) (ok : BlkOk X.N X.env.scope scope own) (hi : AXI X W tg iter ai)
    (hg : ∀ (s : Shared) (H : Hp) (C : Addr) (cl : List (Str × Addr)) (fp : List Addr), AXGc (X.blk s H scope (compEnvC scope cl C X.env) fp) (own.map (·.2)) tg ag) (ht : ∀ (s : Shared) (H : Hp) (C : Addr) (cl : List (Str × Addr)) (fp : List Addr), AXTs (X.blk s H scope (compEnvC scope cl C X.env) fp) W0 ifs xt)
    (hk : ∀ (s : Shared) (H : Hp) (C : Addr) (cl : List (Str × Addr)) (fp : List Addr), AX (X.blk s H scope (compEnvC scope cl C X.env) fp) W0 kx ak)
    (he : ∀ (s : Shared) (H : Hp) (C : Addr) (cl : List (Str × Addr)) (fp : List Addr), AX (X.blk s H scope (compEnvC scope cl C X.env) fp) W0 vx ae)
    (hsw : swapsWith (.DictComp kx vx [⟨tg, iter, ifs, 0⟩] scope pos) (some (.Name y py)) spos.line X.env = pure true := by exact swD_true rfl rfl rfl (by decide +kernel)) (hy : X.N[i]? = some y := by rfl) (hyl : X.env.scope.names.lookup y = some .local := by rfl) (hs : ∀ x, foldedSetIterable iter X.env x = pure x := by intro _; rfl) :
    AXS X W (.Assign [.Name y py] (.DictComp kx vx [⟨tg, iter, ifs, 0⟩] scope pos) spos) (sCellD (fDc ai ag xt ak ae (own.map (·.2))) i) := by
  obtain ⟨t, p, r⟩ := hi
  exact ⟨_, ps_setDcT (i := i) (by have := u64 C.room; omega) C.calm C.nd hy hyl hsw p ok (fun s H C cl fp => (hg s H C cl fp).pg) (fun s H C cl fp => (ht s H C cl fp).pts) (fun s H C cl fp => (hk s H C cl fp).pe) (fun s H C cl fp => (he s H C cl fp).pe) hs, refS_cellD (refD_dc r rdG_ref rdG_stays rdT_ref rdE_ref rdE_ref)⟩
theorem axs_cellD {i : Nat} {x : Str} {e : Expr} {af : AFd} {pos pos' : Pos} (hN : X.N.Nodup) (h : AXD X W e af) (hi : X.N[i]? = some x := by rfl) (hx : Loc X.env.scope x := by first | exact Or.inl rfl | exact Or.inr rfl) (hs : swapsWith e (some (.Name x pos')) pos.line X.env = pure false := by rfl) (hf : X.fn x = true ∨ X.env.scope.names.lookup x = some .local := by first | exact .inl rfl | exact .inr rfl) :
    AXS X W (.Assign [.Name x pos'] e pos) (sCellD af i) := by
  obtain ⟨t, p, r⟩ := h
  exact ⟨_, ps_set hN hi hx p hs hf, refS_cellD r⟩
end
/-! ### list(range(n)) -/
def fLRng (a : AE) : AFr := fun env st q er => a env st (fun x s1 => ∃ n : Int, x = .int n ∧ 0 ≤ n ∧ n ≤ 100000 ∧ q ((List.range n.toNat).map fun (i : Nat) => D.int (i : Int)) s1) er
theorem reps_rg {K : PySem.W.Frag} {G : Gh} {n : Int} : Reps K G ((List.range n.toNat).map fun (i : Nat) => D.int (i : Int)) (rgV 0 n) := by
  have e1 : ((List.range n.toNat).map fun (i : Nat) => D.int (i : Int)) = ((List.range n.toNat).map fun (i : Nat) => (i : Int)).map D.int := by rw [List.map_map]; rfl
  have e2 : rgV 0 n = ((List.range n.toNat).map fun (i : Nat) => (i : Int)).map V.int := by
    unfold rgV
    rw [List.map_map]
    simp
  rw [e1, e2]
  exact Reps.ints _
section
variable {X : Cx} {W : WX} {k : Nat} {a o e : Expr} {ae ao : AE} {p p2 pos pos2 apos : Pos}
theorem axf_lrng (C : CxE X W k) (hm : X.mg "list" = none) (hmr : X.mg "range" = none) (h : AX X W a ae) (hg : Gl X "list" := by rfl) (hgr : Gl X "range" := by rfl) (na : starEach [a] X.env = (false, eval a X.env) :: starEach [] X.env := by rfl)
    (na2 : starEach [.Call (.Name "range" p2) [a] [] pos2] X.env = (false, eval (.Call (.Name "range" p2) [a] [] pos2) X.env) :: starEach [] X.env := by rfl) : AXF X W (.Call (.Name "list" p) [.Call (.Name "range" p2) [a] [] pos2] [] pos) (fLRng ae) := by
  obtain ⟨t, pe, r⟩ := h
  refine ⟨_, pe_listRg C.calm hg hm (prg_1 hgr hmr pe na) na2, fun G env st σ H Q q er s l h tE tX => r G env st σ H _ _ er s l h (fun v d st1 G1 H1 p1 s1 r1 h1 => ?_) tX⟩
  obtain ⟨n, rfl, h0, h2, h1⟩ := h1
  cases r1
  refine ⟨n, rfl, RgOk.of_le (by omega) (by omega) (by omega) h0, fun a hp => ?_⟩
  obtain ⟨s2, p2, np, gp⟩ := s1.room (o := .lst (rgV 0 n)) hp
  exact tE _ _ st1 _ _ (p1.trans p2) s2 (ResOk.on p1 ⟨a, _, rfl, upd_same, gp, np, hp, reps_rg⟩) h1
/-! ### l.index(x) -/
def aIdx (o a : AE) : AE := fun env st q er => o env st (fun x s1 => (∃ l, vw s1 x = .lst l) ∧ a env s1 (fun y s2 => ∃ l j z, vw s2 x = .lst l ∧ (D.lst l).shp ∧ (vw s2 y).shp ∧ l[j]? = some z ∧ D.eqv z (vw s2 y) = true ∧ (∀ (m : Nat) (z' : D), m < j → l[m]? = some z' → D.eqv z' (vw s2 y) = false) ∧ q (.int (j : Nat)) s2) er) er
theorem pys_map : ∀ l : List D, D.pys l = l.map D.py
  | [] => by rw [D.pys]; rfl
  | x :: xs => by rw [D.pys, pys_map xs]; rfl
theorem plains_mem : ∀ {l : List D}, D.plains l = true → ∀ x ∈ l, x.plain = true
  | [], _, _, h => by cases h
  | y :: ys, h, x, hx => by
    rw [D.plains, Bool.and_eq_true] at h
    rcases List.mem_cons.mp hx with rfl | hx
    · exact h.1
    · exact plains_mem h.2 x hx
theorem refE_idx {K : PySem.W.Frag} {to te : TE} (ho : RefE K W to ao) (he : RefE K W te ae) : RefE K W (tBM K "list" (rIndexD K) to (tCons te tNil)) (aIdx ao ae) := fun G env st σ H Q q er s l h tE tX => by
  refine ho G env st σ H _ _ er s l h (fun v d st1 G1 H1 p1 s1 r1 h1 => ?_) tX
  obtain ⟨⟨l0, hl0⟩, h1⟩ := h1
  have rv := r1.vw s1
  rw [hl0] at rv
  cases rv with
  | lst hp rs =>
    rename_i pp vs
    refine ⟨Or.inl ⟨rfl, _, Or.inl (Or.inl hp)⟩, he G1 env st1 σ H1 _ _ er s1 (l.mono p1.le) h1 (fun w d2 st2 G2 H2 p2 s2 r2 h2 => ?_) (tX.on p1)⟩
    obtain ⟨l2, j, z, hl2, hsl, hsy, hj, he1, he2, h2⟩ := h2
    have rv2 := (r1.mono p2.le).vw s2
    have ry := r2.vw s2
    rw [hl2] at rv2
    have dl := rv2.dp s2.ex hsl.1
    have dy := ry.dp s2.ex hsy.1
    rw [D.py] at dl
    have pl : ∀ x ∈ l2, x.plain = true := plains_mem (by have := hsl.1; rw [D.plain] at this; exact this)
    have sl := D.shaped hsl
    rw [D.py] at sl
    refine ⟨pp, w, _, _, j, z.py, rfl, rfl, dl, dy, sl, D.shaped hsy, by rw [pys_map, List.getElem?_map, hj]; rfl, ?_, fun m z' hm hz => ?_, tE _ _ st2 G2 H2 (p1.trans p2) s2 (.int _) h2⟩
    · rw [D.py_eqv (pl z (List.mem_of_getElem? hj)) hsy.1]; exact he1
    · rw [pys_map, List.getElem?_map] at hz
      cases hz2 : l2[m]? with
      | none => rw [hz2] at hz; cases hz
      | some y =>
        rw [hz2] at hz
        obtain rfl : y.py = z' := Option.some.inj hz
        rw [D.py_eqv (pl y (List.mem_of_getElem? hz2)) hsy.1]
        exact he2 m y hm hz2
theorem ax_idx (C : CxE X W k) (ho : AX X W o ao) (he : AX X W e ae) (hbase : attributeBase o "index" X.env (eval o X.env) = eval o X.env := by rfl)
    (hfew : ((backTo pos (starEach [e] X.env)).all (fun x => !x.1) && (backToKw pos (keywordEach [] X.env)).all (fun x => x.1.isSome) && decide (([e] : List Expr).length + ([] : List Keyword).length + (if ([] : List Keyword).isEmpty then 0 else 1) < 30)) = true := by rfl)
    (hline : (apos.endLine == pos.line) = true := by rfl) (hs : starEach [e] X.env = (false, eval e X.env) :: starEach [] X.env := by rfl) : AX X W (.Call (.Attribute o "index" apos) [e] [] pos) (aIdx ao ae) := by
  obtain ⟨to, po, ro⟩ := ho
  obtain ⟨te, pe, re⟩ := he
  exact ⟨_, pe_bm PySem.F.plainAttrs_list PySem.F.slot_list_index PySem.F.type_list_index (mt_indexD (by have := u64 C.room; omega)) po (pa_cons pe pa_nil hs) hbase hfew hline hs rfl, refE_idx ro re⟩
end
end AM
set_option Elab.async false
set_option linter.all false
set_option maxRecDepth 100000
set_option maxHeartbeats 4000000
namespace AM
open PySem PySem.Spec PyProof.Rows L2 Evl
/-! ### l[::-1] -/
def aRev (a : AE) : AE := fun env st q er => a env st (fun x s1 => ∃ l, vw s1 x = .lst l ∧ q (.lst l.reverse) s1) er
theorem Reps.reverse {K : PySem.W.Frag} {G : Gh} : ∀ {l : List D} {vs : List V}, Reps K G l vs → Reps K G l.reverse vs.reverse
  | _, _, .nil => .nil
  | _ :: _, _ :: _, .cons h r => by
    rw [List.reverse_cons, List.reverse_cons]
    exact (Reps.reverse r).append (.cons h .nil)
section
variable {X : Cx} {W : WX} {k : Nat}
theorem ax_rev {e : Expr} {ae : AE} {k1 : Nat} {p1 p2 p3 pos : Pos} (h : AX X W e ae) : AX X W (.Subscript e (.Slice none none (some (.UnaryOp .USub (.Constant (.int 1) k1 p1) p2)) p3) pos) (aRev ae) := by
  obtain ⟨t, pe, r⟩ := h
  refine ⟨_, pe_revL pe, fun G env st σ H Q q er s l h tE tX => r G env st σ H _ _ er s l h (fun v d st1 G1 H1 p1 s1 r1 h1 => ?_) tX⟩
  obtain ⟨l0, hl, h1⟩ := h1
  have rv := r1.vw s1
  rw [hl] at rv
  cases rv with
  | lst hp rs =>
    refine ⟨_, _, rfl, SqL.of hp, fun a ha => ?_⟩
    obtain ⟨s4, p4⟩ := s1.new (o := .lst (List.reverse _)) ha
    exact tE _ _ st1 _ _ (p1.trans p4) s4 (.lst upd_same ((Reps.reverse rs).mono p4.le)) h1
/-! ### list * int -/
def oRep : O2 := fun x y q => ∃ l k, x = .lst l ∧ y = .int k ∧ 0 ≤ k ∧ k ≤ 100000 ∧ l.length * k.toNat ≤ 100000 ∧ q (.lst (List.replicate k.toNat l).flatten)
theorem Reps.rep {K : PySem.W.Frag} {G : Gh} {l : List D} {vs : List V} (r : Reps K G l vs) : ∀ n : Nat, Reps K G (List.replicate n l).flatten (List.replicate n vs).flatten
  | 0 => .nil
  | n + 1 => by
    rw [List.replicate_succ, List.replicate_succ, List.flatten_cons, List.flatten_cons]
    exact r.append (Reps.rep r n)
theorem op_Rep : OpR X (binaryOp .Mult) rRep ∧ RefO X.K rRep oRep := ⟨op_rep, fun G st H x y dx dy Q q s rx ry h t => by
  obtain ⟨l, k, rfl, rfl, h0, h1, h2, h⟩ := h
  cases rx with
  | lst hp rs =>
    cases ry
    exact ⟨_, k, _, rfl, rfl, hp, by omega, by omega, sz_of (by rw [← rs.length]; exact h2), fun p hp' => t.newL s (Reps.rep rs k.toNat) h hp'⟩⟩
/-! ### n += .. -/
abbrev oInc : O2 := oI fun i j => .int (i + j)
theorem ip_Add : PIp X .Add (rI0 fun i j => .int (i + j)) ∧ RefO X.K (rI0 fun i j => .int (i + j)) oInc := ⟨ip_add, ref_i fun _ _ _ => .int _⟩
theorem ip_Sub : PIp X .Sub (rI0 fun i j => .int (i - j)) ∧ RefO X.K (rI0 fun i j => .int (i - j)) oSub := ⟨ip_sub, ref_i fun _ _ _ => .int _⟩
theorem ip_Mul : PIp X .Mult (rI CMulW fun i j => .int (i * j)) ∧ RefO X.K (rI CMulW fun i j => .int (i * j)) oMul := ⟨(opI fun _ _ _ _ _ _ _ hc q => imul_int q hc.ok : OpR X (inplaceOp .Mult) (rI CMulW fun i j => .int (i * j))), ref_ic fun _ _ _ => .int _⟩
end
/-! ### dict([(key, value), ..]), the keys tuples that differ -/
def PairsAt (H : Hp) : List V → List (List Key) → List V → Prop
  | [], [], [] => True
  | x :: xs, k :: ks, y :: ys => (∃ T b, x = .ref T ∧ H T = some (.tup [.ref b, y]) ∧ H b = some (.tup (k.map kV))) ∧ PairsAt H xs ks ys
  | _, _, _ => False
theorem PairsAt.len {H : Hp} : ∀ {xs : List V} {ks : List (List Key)} {ys : List V}, PairsAt H xs ks ys → xs.length = ks.length ∧ ys.length = ks.length
  | [], [], [], _ => ⟨rfl, rfl⟩
  | _ :: _, _ :: _, _ :: _, h => ⟨congrArg Nat.succ h.2.len.1, congrArg Nat.succ h.2.len.2⟩
  | [], [], _ :: _, h => h.elim
  | [], _ :: _, _, h => by cases h
  | _ :: _, [], _, h => by cases h
  | _ :: _, _ :: _, [], h => h.elim
def tDictP (K : PySem.W.Frag) (ta : TA) : TE := fun σ H Q => ta σ H fun vs H1 => ∃ (a : Addr) (xs ys : List V) (ks : List (List Key)), vs = [.ref a] ∧ SqL K H1 a xs ∧ PairsAt H1 xs ks ys ∧ ks.Nodup ∧ ∀ p, H1 p = none → Q (.ref p) (upd H1 p (.dT (ks.zip ys)))
section
variable {X : Cx}
theorem pairs_addrs {pins : List (Addr × Obj)} {σ : L2.St} {H : Hp} {s : Shared} (I : Inv X pins σ H s) : ∀ {xs : List V} {ks : List (List Key)} {ys : List V} {its : List Value}, PairsAt H xs ks ys → Vals xs its → ∃ (ts bs : List Addr) (us : List Value), its = ts.map Value.ref ∧ ts.length = ks.length ∧ bs.length = ks.length ∧ us.length = ks.length ∧ Vals ys us ∧ (∀ (i : Nat) (k : List Key) (b : Addr), ks[i]? = some k → bs[i]? = some b → H b = some (.tup (k.map kV))) ∧
    ∀ (j : Nat) (t b : Addr) (u : Value), ts[j]? = some t → bs[j]? = some b → us[j]? = some u → s.heap.IsTuple t #[.ref b, u]
  | [], [], [], _, _, .nil => ⟨[], [], [], rfl, rfl, rfl, rfl, .nil, fun i k b h => by simp at h, fun j t b u h => by simp at h⟩
  | x :: xs, k :: ks, y :: ys, _, h, .cons r rs => by
    obtain ⟨⟨T, b, rfl, hT, hb⟩, h2⟩ := h
    obtain ⟨ts, bs, us, rfl, l1, l2, l3, hv, hk, ht⟩ := pairs_addrs I h2 rs
    cases r
    obtain ⟨its', r', p', _⟩ := I.tuple (SqT.of hT)
    cases r' with
    | cons ra rb =>
      cases rb with
      | cons ry rn =>
        rename_i u _
        cases rn
        cases ra
        refine ⟨T :: ts, b :: bs, _ :: us, rfl, by simp [l1], by simp [l2], by simp [l3], .cons ry hv, fun i k' b' e1 e2 => ?_, fun j t b' u' e1 e2 e3 => ?_⟩
        · cases i with
          | zero => simp at e1 e2; subst e1 e2; exact hb
          | succ i => exact hk i k' b' (by simpa using e1) (by simpa using e2)
        · cases j with
          | zero => simp at e1 e2 e3; subst e1 e2 e3; exact p'
          | succ j => exact ht j t b' u' (by simpa using e1) (by simpa using e2) (by simpa using e3)
  | [], [], _ :: _, _, h, _ => h.elim
  | _ :: _, _ :: _, [], _, h, _ => h.elim
theorem pe_dictPairs {e : Expr} {ta : TA} {p pos : Pos} (hc : X.calm = true) (hu : X.A.units + 4 < cLine) (hg : Gl X "dict") (hm : X.mg "dict" = none) (ha : PA X [e] ta)
    (hs0 : starEach [e] X.env = (false, eval e X.env) :: starEach [] X.env := by rfl) (hpl0 : (backTo pos (starEach [] X.env)).any (·.1) = false := by rfl) :
    PE X (.Call (.Name "dict" p) [e] [] pos) (tDictP X.K ta) := by
  refine ⟨fun pins s σ H Q I h => ?_⟩
  refine Call_ (ld_blt I hg hm PyProof.Rows.boot_dict (PyProof.Rows.callWith_type1 (thn (ha.run pos pins s σ H _ I h) fun us s1 ⟨vs, H1, I1, r1, q1⟩ => ?_) hs0 hpl0))
  obtain ⟨a, xs, ys, ks, ex, hqx, hk, hnd, q⟩ := q1
  subst ex
  cases r1 with
  | cons r rr =>
    cases rr
    cases r
    obtain ⟨its, rv, pl, hz⟩ := I1.list hqx
    obtain ⟨ts, bs, us, rfl, l1, l2, l3, hv, hbk, htt⟩ := pairs_addrs I1 hk rv
    obtain ⟨lx, ly⟩ := hk.len
    generalize hps : (ks.zip (bs.zip us) : List (List Key × Addr × Value)) = ps
    have psl : ps.length = ks.length := by rw [← hps]; simp; omega
    have psk : ps.map (·.1) = ks := by rw [← hps, List.map_fst_zip (by simp; omega)]
    have pget : ∀ (i : Nat) (k : List Key) (c : Addr) (v : Value), ps[i]? = some (k, c, v) ↔ (ks[i]? = some k ∧ bs[i]? = some c ∧ us[i]? = some v) := by
      intro i k c v
      rw [← hps, List.getElem?_zip_eq_some]
      simp only [List.getElem?_zip_eq_some]
    have P := PairArg.list (prog := X.prog) (w := X.w) a (ts.map Value.ref).toArray (fun j => ts[j]?.getD 0) ((bs.map Value.ref).zip us)
    have nl : ((bs.map Value.ref).zip us).length = ks.length := by simp; omega
    refine call_dict_pairsH (knd := tupleKind (mixKind X.prog X.w)) (ps := ps) P (I1.ok.hd hc) (show X.A.in1.in1.units < cLine by have : X.A.in1.in1.units = X.A.units + 2 := rfl; omega) ⟨pl, by simp; omega, fun j k v hj => ?_⟩ ⟨by rw [nl, psl], fun i key v hrel => ?_⟩ (fun h3 hk3 x hx => ?_) (by rw [nl]; omega) fun h3 tk hd hk3 => ?_
    · rw [List.getElem?_zip_eq_some, List.getElem?_map] at hj
      obtain ⟨e1, e2⟩ := hj
      have hj3 : j < ts.length := by have := (List.getElem?_eq_some_iff.mp e2).1; omega
      cases hb : bs[j]? with
      | none => rw [hb] at e1; cases e1
      | some b =>
        rw [hb] at e1
        obtain rfl : Value.ref b = k := Option.some.inj e1
        have et : ts[j]? = some ts[j] := List.getElem?_eq_getElem hj3
        refine ⟨by simp [et], .inl ?_⟩
        show s1.heap.IsTuple (ts[j]?.getD 0) #[Value.ref b, v]
        rw [et]
        exact htt j _ b v et hb e2
    · have hrel : ((bs.map Value.ref).zip us)[i]? = some (key, v) := hrel
      rw [List.getElem?_zip_eq_some, List.getElem?_map] at hrel
      obtain ⟨e1, e2⟩ := hrel
      cases hb : bs[i]? with
      | none => rw [hb] at e1; cases e1
      | some c =>
        rw [hb] at e1
        obtain rfl : Value.ref c = key := Option.some.inj e1
        have hik : i < ks.length := by have := (List.getElem?_eq_some_iff.mp hb).1; omega
        exact ⟨ks[i], c, (pget i _ _ _).mpr ⟨List.getElem?_eq_getElem hik, hb, e2⟩, rfl⟩
    · obtain ⟨i, hi⟩ := List.mem_iff_getElem?.mp hx
      obtain ⟨e1, e2, _⟩ := (pget i x.1 x.2.1 x.2.2).mp hi
      obtain ⟨o, its, n, g1, g2⟩ := key_of (P := X.prog) (w := X.w) I1.hok (hbk i _ _ e1 e2)
      exact ⟨o, its, n, hk3 _ _ (Nat.ne_of_lt (Heap.lt_size g1)) (by simp) g1, g2⟩
    · rw [storedAll_nodup ps [] (by simpa [psk] using hnd), List.nil_append] at hd
      have keep : ∀ c o, s1.heap.get? c = some o → h3.get? c = some o := fun c o g => hk3 c o (by simp) g
      have hH : H1 s1.heap.objs.size = none := I1.hok.fresh (Nat.le_refl _)
      obtain ⟨o, es, ep, g1, g2, g3, g4, _, g5⟩ := hd
      refine ⟨.ref s1.heap.objs.size, _, I1.laid (t' := tk) (a := s1.heap.objs.size) (o := .dT (ks.zip ys)) keep (Nat.le_refl _) ?_, rfl, q _ hH⟩
      refine ⟨by simp; omega, ?_, ps, ?_, o, es, ep, g1, g2, g3, g4, g5⟩
      · exact beq_eq_false_iff_ne.mpr (Nat.ne_of_gt I1.big)
      · rw [← hps]
        refine paired_zip hv (by omega) (by omega) fun i k c e1 e2 => ?_
        have hb := hbk i k c e1 e2
        rw [upd_ne (fun z => by rw [z, hH] at hb; cases hb)]
        exact hb
end
theorem pairsAt_of {K : PySem.W.Frag} {G : Gh} {H : Hp} (ex : Ex G.g H) : ∀ {ps : List (D × D)} {vs : List V}, Reps K G (ps.map fun p => D.tup [p.1, p.2]) vs → (∀ p ∈ ps, isKeyT p.1) → ∃ (ks : List (List Key)) (ys : List V), PairsAt H vs ks ys ∧ ps.map (·.1) = ks.map kT ∧ RepT K G ps (ks.zip ys)
  | [], _, .nil, _ => ⟨[], [], trivial, rfl, .nil⟩
  | (d, e) :: ps, v :: vs, .cons h r, hk => by
    obtain ⟨ks, ys, h1, e1, h2⟩ := pairsAt_of ex r fun k hm => hk k (by simp [hm])
    obtain ⟨k, e2⟩ := hk (d, e) (by simp)
    have e2 : d = kT k := e2
    subst e2
    cases h with
    | tup hp rs =>
      rename_i T vs'
      cases rs with
      | cons ra rb =>
        cases rb with
        | cons ry rn =>
          rename_i y _
          cases rn
          cases ra with
          | tup hp' rs' =>
            rename_i b ws
            have := reps_kD rs'
            subst this
            refine ⟨k :: ks, _ :: ys, ⟨⟨T, b, rfl, ex _ _ hp, ex _ _ hp'⟩, h1⟩, by simp [e1], .cons ry h2⟩
section
variable {X : Cx} {W : WX} {k : Nat} {e : Expr} {ae : AE} {p pos : Pos}
def fDPairs (a : AE) : AFd := fun env st q er => a env st (fun x s1 => ∃ ps : List (D × D), vw s1 x = .lst (ps.map fun p => D.tup [p.1, p.2]) ∧ (∀ p ∈ ps, isKeyT p.1) ∧ (ps.map (·.1)).Nodup ∧ q ps s1) er
theorem axd_pairs (C : CxE X W k) (hm : X.mg "dict" = none) (h : AX X W e ae) (hg : Gl X "dict" := by rfl)
    (hs0 : starEach [e] X.env = (false, eval e X.env) :: starEach [] X.env := by rfl) (hpl0 : (backTo pos (starEach [] X.env)).any (·.1) = false := by rfl) :
    AXD X W (.Call (.Name "dict" p) [e] [] pos) (fDPairs ae) := by
  obtain ⟨t, pe, r⟩ := h
  refine ⟨_, pe_dictPairs C.calm (by have := u64 C.room; omega) hg hm (pa_cons pe pa_nil hs0) hs0 hpl0, fun G env st σ H Q q er s sl a tE tX => ?_⟩
  refine r G env st σ H _ _ er s sl a (fun v d st2 G2 H2 p2 s2 r2 h2 => ?_) tX
  obtain ⟨ps, hl, hk, hnd, h2⟩ := h2
  have rx := r2.vw s2
  rw [hl] at rx
  cases rx with
  | lst ha rs =>
    obtain ⟨ks, ys, hks, ek, rt⟩ := pairsAt_of s2.ex rs hk
    rw [ek] at hnd
    refine ⟨_, _, ys, ks, rfl, SqL.of ha, hks, nodup_inv hnd, fun a hp => ?_⟩
    obtain ⟨s4, p4, na, ng⟩ := s2.room (o := .dT (ks.zip _)) hp
    refine tE _ _ st2 G2 _ (p2.trans p4) s4 ⟨a, rfl, ⟨_, upd_same, rt⟩, ng, na, ?_⟩ h2
    cases hh : H a with
    | none => rfl
    | some o => exact absurd hp (p2.m a (by rw [hh]; exact fun z => nomatch z))
end
end AM
set_option Elab.async false
set_option linter.all false
set_option maxRecDepth 100000
set_option maxHeartbeats 4000000
namespace AM
open PySem PySem.Spec PyProof.Rows L2 Evl
section
variable {X : Cx} {CX : CXT} {k : Nat} {f : Addr} {fd : FuncData} {ps : List Str} {sp : Sp} {E : L2.St → XK} {x : Str} {e : Expr} {es : List Expr} {t : TA} {p pos : Pos} {ds : List Value} {dvs : List V}
/-- f(x, .., *y) -/
theorem pe_callSt (F : FnOk X.prog X.w X.K X.mg X.base CX k f fd ps sp) (hr : Room k X.A) (hg : Gl X x) (hm : X.mg x = some (.ref f)) (hk : PySem.W.keepIn X.K (.ref f) = true) (hb : Binds X.K fd ps ds) (hd : Vals dvs ds) (hx : ∀ σ, PassesAt CX X σ (E σ))
    (ha : PA X (e :: es) t) (hdb : (x == ("__debug__" : Str)) = false := by decide) (he : starEach (e :: es) X.env = (false, eval e X.env) :: starEach es X.env := by rfl) (hst : (backTo pos (starEach es X.env)).any (·.1) = true := by rfl) :
    PE X (.Call (.Name x p) (e :: es) [] pos) (tCallSD sp dvs E t) := by
  refine ⟨fun pins s σ H Q I h => ?_⟩
  refine wpAny_Call_Name_kw (ld_glob I hg hm ?_ hdb)
  refine PySem.W.callWith_S2 (h₀ := X.base) I.ok.mod.kin hk (thn (ha.run pos pins s σ H _ I h) fun us s1 ⟨vs, H1, I1, r, q⟩ => ⟨I1.kIn, ?_⟩) he hst
  exact run_fnSD F hr hb hd (hx σ) I1 r q
end
section
variable {X : Cx} {W : WX} {k j : Nat} {f : Addr} {fd : FuncData} {ps : List Str} {m : AF} {x : Str} {e : Expr} {es : List Expr} {aa : AEs} {p pos : Pos} {dd : List D} {dvs : List V}
theorem ax_callSt (C : CxE X W k) (F : FnOk X.prog X.w X.K X.mg X.base (L2N.CX X.prog X.w) j f fd ps (SpA X.K m)) (hm : X.mg x = some (.ref f)) (hk : PySem.W.keepIn X.K (.ref f) = true) (hb : BindsD X.K fd ps dvs) (hdd : ∀ G, Reps X.K G dd dvs) (ha : AXA X W (e :: es) aa) (hj : j ≤ k)
    (hg : Gl X x := by rfl) (hdb : (x == ("__debug__" : Str)) = false := by decide) (he : starEach (e :: es) X.env = (false, eval e X.env) :: starEach es X.env := by rfl) (hst : (backTo pos (starEach es X.env)).any (·.1) = true := by rfl) : AX X W (.Call (.Name x p) (e :: es) [] pos) (aCall m aa dd) := by
  obtain ⟨t, p, r⟩ := ha
  obtain ⟨ds, hv, hb⟩ := hb
  exact ⟨_, pe_callSt F (C.room.mono hj) hg hm hk hb hv (fun σ => L2N.passAt C.takes σ) p hdb he hst, refE_call r hdd⟩
end
/-! ### l += list -/
def sExt (i : Nat) (a : AE) : AS := fun env st k => ∃ n, env[i]? = some (.d (.ref n)) ∧ a env st (fun y s1 => ∃ l l2, s1[n]? = some (.lst l) ∧ vw s1 y = .lst l2 ∧ l.length + l2.length ≤ 100000 ∧ k.nx (env.set i (.d (.ref n))) (s1.set n (.lst (l ++ l2)))) (fun e s1 => k.er e env s1)
section
variable {X : Cx} {K : PySem.W.Frag} {W : WX}
theorem refS_ext {i : Nat} {te : TE} {ae : AE} (he : RefE K W te ae) : RefS K W (tAug i te rExt2) (sExt i ae) := fun G env st σ H D k s l h t => by
  obtain ⟨n, ex, h⟩ := h
  obtain ⟨u, eu, ru⟩ := l.slot i _ ex
  refine ⟨u, eu, he G env st σ H _ _ _ s l h (fun v d st2 G2 H2 p2 s2 r2 q => ?_) (t.x l)⟩
  obtain ⟨ls, ls2, hn2, hv2, hlen, q⟩ := q
  cases ru with
  | ref ep =>
    rename_i pp
    obtain ⟨vs2, gp2, hp2, rs2⟩ := s2.cell n _ pp hn2 (pre_get p2.le.a ep)
    have rv := r2.vw s2
    rw [hv2] at rv
    cases rv with
    | lst hb rb =>
      obtain ⟨s3, p3⟩ := s2.setCell (n := n) (c' := .lst (ls ++ ls2)) (o := .lst (vs2 ++ _)) (pre_get p2.le.a ep) gp2 ⟨_, gp2, upd_same, rs2.append rb⟩
      exact ⟨pp, _, vs2, _, rfl, rfl, hp2, hb, sz_of (by rw [← rs2.length, ← rb.length]; exact hlen), t.nx _ _ _ G2 _ (p2.trans p3) s3 ((l.mono (p2.trans p3).le).set i (.ref (pre_get p2.le.a ep))) q⟩
theorem axs_ext {i : Nat} {x : Str} {e : Expr} {ae : AE} {pos pos' : Pos} (hN : X.N.Nodup) (h : AX X W e ae) (hi : X.N[i]? = some x := by rfl) (hx : Loc X.env.scope x := by first | exact Or.inl rfl | exact Or.inr rfl) (hf : X.fn x = true ∨ X.env.scope.names.lookup x = some .local := by first | exact .inl rfl | exact .inr rfl) :
    AXS X W (.AugAssign (.Name x pos') .Add e pos) (sExt i ae) := by
  obtain ⟨t, p, r⟩ := h
  exact ⟨_, ps_aug hN hi hx p (iop_ext : OpR X (inplaceOp .Add) rExt2) hf, refS_ext r⟩
end
end AM
set_option Elab.async false
set_option linter.all false
set_option maxRecDepth 100000
set_option maxHeartbeats 4000000
namespace AM
open PySem PySem.Spec PyProof.Rows L2 Evl
/-! ### own __iter__ that gives back iter(self.f), f a list -/
def spIt (K : PySem.W.Frag) (n : Nat) (C : Addr) (fld : Str) : Sp := fun vs H Q _ => ∃ a dx fs l zs, vs = [.ref a] ∧ H a = some (.ins C dx fs) ∧ Cls K C ∧ NoAttr K C fld ∧ fs.lookup fld = some (.ref l) ∧ SqL K H l zs ∧ ∀ it, H it = none → n ≤ it → Q (.ref it) (upd H it (ItO l it 0))
def rIterB (K : PySem.W.Frag) (n : Nat) : List V → Hp → VK → Prop := fun xs H Q => ∃ (l : Addr) (zs : List V), xs = [.ref l] ∧ SqL K H l zs ∧ ∀ it, H it = none → n ≤ it → Q (.ref it) (upd H it (ItO l it 0))
theorem call_iterB {X : Cx} : CallR X (.builtin "iter") (rIterB X.K X.base.objs.size) := by
  intro pins s σ H xs us Q I r h
  obtain ⟨l, zs, ex, hq, q⟩ := h
  exact ItX.call_iterN pins s σ H xs us Q I r ⟨l, zs, ex, hq, fun it h1 h2 => q it h1 (Nat.le_trans I.ok.bsz h2)⟩
/-- a heap with room that is taken by nothing -/
def padH (h : Heap) (n : Nat) : Heap := ⟨h.objs ++ Array.replicate (n - h.objs.size) ⟨.none, none, .freed, #[]⟩, h.life⟩
theorem padH_size {h : Heap} {n : Nat} (e : h.objs.size ≤ n) : (padH h n).objs.size = n := by
  unfold padH
  simp
  omega
theorem padH_get {h : Heap} {n b : Nat} : (padH h n).get? b = h.get? b := by
  unfold Heap.get? padH
  by_cases hb : b < h.objs.size
  · rw [Array.getElem?_append_left hb]
  · have e : h.objs[b]? = none := Array.getElem?_eq_none (by omega)
    rw [Array.getElem?_append_right (by omega), e, Array.getElem?_replicate]
    by_cases h2 : b - h.objs.size < n - h.objs.size
    · rw [if_pos h2]
    · rw [if_neg h2]
theorem env0_pad {P : Program} {w : World} {K : PySem.W.Frag} {mg : Str → Option Value} {base : Heap} {A : Around} {outer : List Env} {s : Shared} {H : Hp} (e : Env0 P w K mg base A outer s H) : Env0 P w K mg (padH base s.heap.objs.size) A outer s H := by
  have k : ∀ b o, base.get? b = some o → (padH base s.heap.objs.size).get? b = some o := fun b o h => by rw [padH_get]; exact h
  have ff : ∀ l : List Env, s.heap.FunFrames base l → s.heap.FunFrames (padH base s.heap.objs.size) l := by
    intro l
    induction l with
    | nil => exact fun _ => trivial
    | cons x xs ih =>
      rintro ⟨h1, ⟨L, o, h2, h3, h4⟩, h5⟩
      exact ⟨h1, ⟨L, o, h2, by rw [padH_get]; exact h3, h4⟩, ih h5⟩
  obtain ⟨mb, b1, b2⟩ := e.mod.blt
  exact ⟨e.frames, ⟨e.mod.kin.keeps k, e.mod.glob.keeps k, ⟨mb, b1.keeps k, b2⟩, e.mod.nolimit.keeps k⟩, fun b o h => e.bs b o (by rw [padH_get] at h; exact h), Nat.le_of_eq (padH_size e.bsz), ff _ e.funs, e.frf, e.hok, e.bare⟩
theorem fn_iter {P : Program} {w : World} {K : PySem.W.Frag} {mg : Str → Option Value} {base : Heap} {x qual : Str} {params : Arguments} {scope : Scope} {f : Addr} {fd : FuncData} {C : Addr} {fld : Str} {p1 p2 p3 p4 p5 : Pos}
    (F : FunD K x qual params [.Return (some (.Call (.Name "iter" p1) [.Attribute (.Name "self" p2) fld p3] [] p4)) p5] scope [] [] f fd) (S : FnScope ["self"] ["self"] scope) (hm : mg "iter" = none)
    (hg : ∀ (cdv : Value) (A : Around) (outer : List Env) (s : Shared) (H : Hp) (E : XK), Gl (cxOf (L2N.CX P w) P w K mg base ["self"] qual scope f cdv A outer s H E) "iter")
    (hv : Vis scope "self")
    (hb : ∀ env : Env, attributeBase (.Name "self" p2) fld env (eval (.Name "self" p2) env) = eval (.Name "self" p2) env := by intro _; rfl)
    (hst : ∀ env : Env, starEach [.Attribute (.Name "self" p2) fld p3] env = [(false, eval (.Attribute (.Name "self" p2) fld p3) env)] := by intro _; rfl) :
    FnOk P w K mg base (L2N.CX P w) 1 f fd ["self"] (spIt K base.objs.size C fld) := by
  refine F.ok (k := 0) S (fun vs H Q E h => ?_) (fun cdv A outer s H vs Q E hr h => ?_)
  · obtain ⟨a, dx, fs, l, zs, rfl, _⟩ := h; rfl
  · obtain ⟨a, dx, fs, l, zs, rfl, ha, hc, hn, hl, hq, q⟩ := h
    refine ⟨_, pss_one (ps_ret (pe_callB call_iterB (hg _ _ _ _ _ _) hm (by rfl) (pa_cons (pe_fld (pe_var (i := 0) rfl hv (by decide) (by decide)) (hb _)) pa_nil (by rw [hst]; rfl)) (by decide) (by decide) (by rw [hst]; rfl) (by rfl))), ?_⟩
    exact ⟨.ref a, rfl, a, C, dx, fs, .ref l, rfl, ha, hc, hn, hl, l, zs, rfl, hq, q⟩
def iOwn (K : PySem.W.Frag) (C : Addr) (fld : Str) (te : TE) : TI := fun σ H R => te σ H fun x H1 => ∃ a dx fs l zs, x = .ref a ∧ H1 a = some (.ins C dx fs) ∧ Cls K C ∧ NoAttr K C fld ∧ fs.lookup fld = some (.ref l) ∧ SqL K H1 l zs ∧ R (Itl K l) H1
theorem itlF0 {K : PySem.W.Frag} {a : Addr} : ItX.ItlF K a 0 = Itl K a := by
  unfold ItX.ItlF
  simp only [Nat.zero_add]
section
variable {X : Cx} {k : Nat} {f C : Addr} {fd : FuncData} {ps : List Str} {fld : Str} {e : Expr} {te : TE}
/-- the own __iter__ runs: an iterator that nobody holds -/
theorem run_iter {A' : Around} {pins : List (Addr × Obj)} {σ : L2.St} {H : Hp} {s : Shared} {Q : Value → Shared → Prop} {a dx l : Addr} {fs : List (Str × V)} {zs : List V} (F : ∀ base, FnOk X.prog X.w X.K X.mg base (L2N.CX X.prog X.w) k f fd ps (spIt X.K base.objs.size C fld)) (hr : Room k A') (hfr : A'.frames = X.A.frames) (hb : Binds X.K fd ps [])
    (hs : PySem.W.findIn X.K (.ref C) "__iter__" = some (some (.ref f))) (hfn : PySem.W.isFn X.K (.ref f) = true)
    (I : Inv X pins σ H s) (ha : H a = some (.ins C dx fs)) (hc : Cls X.K C) (hn : NoAttr X.K C fld) (hl : fs.lookup fld = some (.ref l)) (hq : SqL X.K H l zs)
    (h : ∀ (it : Addr) (s' : Shared), H it = none → s.heap.objs.size ≤ it → Inv X pins σ (upd H it (ItO l it 0)) s' → Q (.ref it) s') : wpAny (model X.prog X.w) A' (pyIter (.ref a)) Q X.xe s := by
  obtain ⟨mA, J, _⟩ := ins_get I.hok ha
  obtain ⟨od, J, _⟩ := J.look
  obtain ⟨m, hF⟩ := I.fr
  refine PySem.W.owit_iter hF I.ok.mod.kin J hs hfn ?_
  have e0 : Env0 X.prog X.w X.K X.mg X.base A' X.stack s H := by
    have e := I.env0
    exact ⟨by rw [hfr]; exact e.frames, e.mod, e.bs, e.bsz, e.funs, e.frf, e.hok, e.bare⟩
  have e1 := env0_pad e0
  have hsz : (padH X.base s.heap.objs.size).objs.size = s.heap.objs.size := padH_size e0.bsz
  have F := F (padH X.base s.heap.objs.size)
  rw [hsz] at F
  have hsp : spIt X.K s.heap.objs.size C fld [.ref a] H (fun v H' => ∃ it, v = .ref it ∧ H it = none ∧ s.heap.objs.size ≤ it ∧ H' = upd H it (ItO l it 0)) (fun _ _ _ => False) := ⟨a, dx, fs, l, zs, rfl, ha, hc, hn, hl, hq, fun it hi hg => ⟨it, rfl, hi, hg, rfl⟩⟩
  have hlen : [Value.ref a].length = ps.length := F.len _ _ _ _ hsp
  have b := hb s [.ref a] I.kIn (by rw [List.append_nil]; exact hlen)
  rw [List.append_nil] at b
  refine wpAny_call (codeAny_mono (F.run A' X.stack s H ⟨[.ref a], []⟩ [.ref a] [.ref a] _ _ hr e1 b (.cons rfl .nil) hsp) fun r s' hq => ?_)
  cases r with
  | error e =>
    obtain ⟨_, _, _, _, _, _, _, _, _, _, _, _, w⟩ := hq
    exact w.elim
  | ok fl =>
    cases fl with
    | next => exact False.elim hq
    | brk => exact False.elim hq
    | cont => exact False.elim hq
    | ret u =>
      obtain ⟨v2, H2, I2, rv2, it2, ev2, hi, hge, eH2⟩ := I.after hq
      subst ev2 eH2
      obtain rfl : u = Value.ref it2 := rv2
      show wpAny _ _ (specialOf (.ref it2) "__next__") _ _ s'
      have hT : s'.TypeIs (.ref it2) "list_iterator" := ⟨_, itO_get I2 upd_same, rfl⟩
      exact wpAny_specialOf (name := Str.ofString "__next__") hT slot_listiter_next.lookup (h it2 s' hi hge I2)
theorem pi_own {tg : Expr} (F : ∀ base, FnOk X.prog X.w X.K X.mg base (L2N.CX X.prog X.w) k f fd ps (spIt X.K base.objs.size C fld)) (hr : Room k X.A) (hb : Binds X.K fd ps [])
    (hs : PySem.W.findIn X.K (.ref C) "__iter__" = some (some (.ref f))) (hfn : PySem.W.isFn X.K (.ref f) = true) (he : PE X e te) : PI X tg e (iOwn X.K C fld te) := by
  refine ⟨fun pins s σ H R I h => thn (he.run pins s σ H _ I h) fun u s1 ⟨v, H1, I1, r1, a, dx, fs, l, zs, ev, ha, hc, hn, hl, hq, q⟩ => ?_⟩
  subst ev
  obtain rfl : u = Value.ref a := r1
  refine run_iter F hr rfl hb hs hfn I1 ha hc hn hl hq fun it s' hi hge I2 => ?_
  have eo := itO_get I2 (upd_same (H := H1) (a := it) (o := ItO l it 0))
  have st : s'.heap.IsListIter it l (0 + 0) := ⟨_, eo, rfl, rfl⟩
  have I3 := ItX.inv_drop (φ := fun h => h.get? it = some (GNX.itObj l 0)) I2 (by rw [upd_same]; rfl)
  have I4 := ItX.inv_fp I2 (upd_same (H := H1) (a := it) (o := ItO l it 0)) (Nat.le_trans I1.sz hge)
  rw [ItX.dropH_upd hi] at I3 I4
  refine ⟨it, [it], _, _, H1, rfl, I3, ItX.turn_listF l it 0, st, fun b hb => ?_, by rw [itlF0]; exact q⟩
  obtain rfl : b = it := by simpa using hb
  exact I4
end
/-- the items of an object that is walked by its list f -/
def itemsO (c f : Str) : D → Option (List D)
  | .obj c' fs => if c' = c then (match fs.lookup f with
    | some (.lst l) => some l
    | _ => none) else none
  | _ => none
def aIterO (c f : Str) (a : AE) : AI := fun env st q er => a env st (fun d s1 => ∃ l, itemsO c f d = some l ∧ q l [] s1) er
theorem rep_items {K : PySem.W.Frag} {G : Gh} {c f : Str} {d : D} {v : V} {l : List D} (r : Rep K G d v) (e : itemsO c f d = some l) : ∃ p dx fs a vs, v = .ref p ∧ G.g p = some (.ins (He.ga K c) dx fs) ∧ fs.lookup f = some (.ref a) ∧ G.g a = some (.lst vs) ∧ Reps K G l vs := by
  cases r with
  | obj hp rf =>
    rename_i c' p dx fs vs
    have e' : (if c' = c then (match fs.lookup f with
      | some (.lst l) => some l
      | _ => none) else none) = some l := e
    clear e
    have e := e'; clear e'
    split at e
    · rename_i ec
      subst ec
      split at e
      · rename_i l' el
        cases e
        obtain ⟨w, hw, rw'⟩ := rf.look el
        cases rw' with
        | lst ha rs => exact ⟨p, dx, vs, _, _, rfl, hp, hw, ha, rs⟩
      · cases e
    · cases e
  | _ => cases e
section
variable {X : Cx} {W : WX} {k j : Nat} {fa : Addr} {fd : FuncData} {ps : List Str} {c fld : Str} {e tg : Expr} {ae : AE}
theorem axi_own (C : CxE X W k) (F : ∀ base, FnOk X.prog X.w X.K X.mg base (L2N.CX X.prog X.w) j fa fd ps (spIt X.K base.objs.size (He.ga X.K c) fld)) (hb : BindsD X.K fd ps []) (hcl : Cls X.K (He.ga X.K c)) (hna : NoAttr X.K (He.ga X.K c) fld)
    (hs : PySem.W.findIn X.K (.ref (He.ga X.K c)) "__iter__" = some (some (.ref fa))) (hfn : PySem.W.isFn X.K (.ref fa) = true) (he : AX X W e ae) (hj : j ≤ k) : AXI X W tg e (aIterO c fld ae) := by
  obtain ⟨t, p, r⟩ := he
  obtain ⟨ds0, v0, hb⟩ := hb
  cases v0
  refine ⟨_, pi_own F (C.room.mono hj) hb hs hfn p, fun G env st σ H R q er s sl a t tX => r G env st σ H _ _ er s sl a (fun v d st2 G2 H2 p2 s2 r2 ⟨l, el, h2⟩ => ?_) tX⟩
  obtain ⟨p, dx, fs, a, vs, rfl, hp, hl, ha, rs⟩ := rep_items r2 el
  refine ⟨p, dx, fs, a, vs, rfl, s2.ex _ _ hp, hcl, hna, hl, SqL.of (s2.ex _ _ ha), t _ _ _ st2 G2 H2 p2 s2 (walks_seq fun G3 st3 H3 le s3 _ => ⟨vs, rs.mono le, SqL.of (s3.ex _ _ (le.g _ _ ha))⟩) h2⟩
end
end AM
set_option Elab.async false
set_option linter.all false
set_option maxRecDepth 100000
set_option maxHeartbeats 4000000
namespace AM
open PySem PySem.Spec PyProof.Rows L2 Evl
/-! ### fresh dicts: handed back, come from a call -/
def sRetD (f : AFd) : AS := fun env st k => f env st (fun l s1 => k.rt (.ownD l) s1) (fun e s1 => k.er e env s1)
section
variable {X : Cx} {W : WX} {e : Expr} {af : AFd} {pos p : Pos} {k j : Nat} {f : Addr} {fd : FuncData} {ps : List Str} {m : AF} {x : Str} {es : List Expr} {aa : AEs} {dd : List D} {dvs : List V}
theorem axs_retD (h : AXD X W e af) : AXS X W (.Return (some e) pos) (sRetD af) := by
  obtain ⟨t, p, r⟩ := h
  refine ⟨_, ps_ret p, fun G env st σ H D k s l a t => ?_⟩
  exact r G env st σ H _ _ _ s l a (fun v ds st2 G2 H2 p2 s2 r2 h2 => t.rt v (.ownD ds) st2 G2 H2 p2 s2 r2 h2) (t.x l)
theorem axd_call (C : CxE X W k) (F : FnOk X.prog X.w X.K X.mg X.base (L2N.CX X.prog X.w) j f fd ps (SpA X.K m)) (hm : X.mg x = some (.ref f)) (hk : PySem.W.keepIn X.K (.ref f) = true) (hb : BindsD X.K fd ps dvs) (hdd : ∀ G, Reps X.K G dd dvs) (ha : AXA X W (e :: es) aa) (hj : j ≤ k)
    (hg : Gl X x := by rfl) (hdb : (x == ("__debug__" : Str)) = false := by decide) (he : starEach (e :: es) X.env = (false, eval e X.env) :: starEach es X.env := by rfl) (hpl : (backTo pos (starEach es X.env)).any (·.1) = false := by rfl) : AXD X W (.Call (.Name x p) (e :: es) [] pos) (fdCall m aa dd) := by
  obtain ⟨t, p, r⟩ := ha
  obtain ⟨ds, hv, hb⟩ := hb
  refine ⟨_, pe_callSD F (C.room.mono hj) hg hm hk hb hv (fun σ => L2N.passAt C.takes σ) p hdb he hpl, fun G env st σ H Q q er s l h tE tX => ?_⟩
  refine r G env st σ H _ _ er s l h (fun vs ds st2 G2 H2 p2 s2 a2 h2 => ?_) tX
  refine ⟨G2, st2, _, _, er, s2, a2.append (hdd G2), h2, fun v r st3 G3 H3 p3 s3 r3 h3 => ?_, fun e c dx st3 G3 H3 p3 s3 ea h3 => tX e c dx st3 G3 H3 (p2.trans p3) s3 ea h3⟩
  cases r with
  | ownD l => exact tE v l st3 G3 H3 (p2.trans p3) s3 (r3.on p2) h3
  | _ => exact h3.elim
end
/-- a fresh list, a fresh dict, as a cell -/
def aCellL (f : AFr) : AE := fun env st q er => f env st (fun l s1 => q (.ref s1.length) (s1 ++ [.lst l])) er
def aCellD (f : AFd) : AE := fun env st q er => f env st (fun l s1 => q (.ref s1.length) (s1 ++ [.dic l])) er
section
variable {X : Cx} {W : WX} {e : Expr}
theorem ax_cellL {af : AFr} (h : AXF X W e af) : AX X W e (aCellL af) := by
  obtain ⟨t, p, r⟩ := h
  refine ⟨_, p, fun G env st σ H Q q er s l a tE tX => r G env st σ H _ _ er s l a (fun v ds st2 G2 H2 p2 s2 r2 h2 => ?_) tX⟩
  obtain ⟨G3, s3, p3, r3⟩ := own_cell s2 p2 r2
  exact tE v _ _ G3 H2 p3 s3 r3 h2
theorem ax_cellD {af : AFd} (h : AXD X W e af) : AX X W e (aCellD af) := by
  obtain ⟨t, p, r⟩ := h
  refine ⟨_, p, fun G env st σ H Q q er s l a tE tX => r G env st σ H _ _ er s l a (fun v ds st2 G2 H2 p2 s2 r2 h2 => ?_) tX⟩
  obtain ⟨G3, s3, p3, r3⟩ := ownd_cell s2 p2 r2
  exact tE v _ _ G3 H2 p3 s3 r3 h2
end
/-! ### the methods, by values -/
section
variable {X : Cx}
def rClearT : V → List V → Hp → VK → Prop := fun x xs H Q => ∃ a kvs, x = .ref a ∧ xs = [] ∧ H a = some (.dT kvs) ∧ Q .non (upd H a (.dT []))
theorem mt_clearT : MtR X "dict.clear" rClearT := by
  intro pins s σ H x xs v us Q I rx rxs h
  obtain ⟨a, kvs, rfl, rfl, ha, q⟩ := h
  cases rx
  cases rxs
  obtain ⟨z, hd, xs', rel, dd⟩ := dt_of I.hok ha
  have hz : (pairsH xs').length ≤ sizeLine := by rw [show (pairsH xs').length = xs'.length by simp [pairsH], ← Paired.length rel]; exact z
  refine clear_keyed (knd := tupleKind (mixKind X.prog X.w)) ⟨xs', dd, rfl⟩ (fun h' hm' hs => ?_) hz
  obtain ⟨ys, dd', e⟩ := hm'
  have ey : ys = [] := List.map_eq_nil_iff.mp e
  subst ey
  obtain ⟨o, es, ep, hq, h2, h3, h4, _, h5⟩ := dd'
  have I2 : Inv X pins σ (upd H a (.dT [])) { s with heap := h' } := d_write (t' := s.toks) I (by rw [ha]; exact True.intro) hs ⟨o, hq⟩ ⟨Nat.zero_le _, hd, [], .nil, o, es, ep, hq, h2, h3, h4, h5⟩
  exact ⟨.non, _, I2, rfl, q⟩
def rGetT : V → List V → Hp → VK → Prop := fun x xs H Q => ∃ (a : Addr) (kvs : List (List L2.Key × V)) (k : List L2.Key) (b : Addr) (d : V), x = .ref a ∧ xs = [.ref b, d] ∧ H a = some (.dT kvs) ∧ H b = some (.tup (k.map kV)) ∧ Q ((valV kvs k).getD d) H
theorem valueAt_pairs {κ : Type} [DecidableEq κ] (xs : List (κ × Addr × Value)) (k : κ) : valueAt (pairsH xs) k = (atKey xs k).map (·.2) := valueAt_pairsH xs k
theorem mt_getT (hu : X.A.units + 1 < cLine) : MtR X "dict.get" rGetT := by
  intro pins s σ H x xs v us Q I rx rxs h
  obtain ⟨a, kvs, k, b, d, rfl, rfl, ha, hb, q⟩ := h
  cases rx
  obtain ⟨u1, u2, rfl, r1, r2⟩ := vals2 rxs
  cases r1
  obtain ⟨z, hd, xs', rel, dd⟩ := dt_of I.hok ha
  refine getOr_keyed (knd := tupleKind (mixKind X.prog X.w)) (tupleKind_room_in1 hu) (key_of I.hok hb) hd ⟨xs', dd, rfl⟩ ?_
  rw [valueAt_pairsH]
  have r := rel.val k
  refine ⟨(valV kvs k).getD d, H, I.tok _, ?_, q⟩
  revert r
  cases valV kvs k <;> cases (atKey xs' k).map (·.2) <;> intro r
  · exact r2
  · exact (show False from r).elim
  · exact (show False from r).elim
  · exact r
end
/-! ### by data -/
inductive DGetD : List (D × D) → D → Option D → Prop
  | hit {l : List (D × D)} {k v : D} : DLook l k v → DGetD l k (some v)
  | miss {l : List (D × D)} {k : D} : (∀ p ∈ l, p.1 ≠ k) → DGetD l k none
theorem RepT.getD {K : PySem.W.Frag} {G : Gh} {l : List (D × D)} {kvs : List (List Key × V)} {k : List Key} {o : Option D} {d : D} {v : V} (r : RepT K G l kvs) (rd : Rep K G d v) (h : DGetD l (.tup (k.map kD)) o) : Rep K G (o.getD d) ((valV kvs k).getD v) := by
  generalize hk : D.tup (k.map kD) = kk at h
  cases h with
  | hit hl =>
    subst hk
    obtain ⟨w, e, rw'⟩ := r.look hl
    rw [e]; exact rw'
  | miss hm =>
    subst hk
    rw [r.none hm]; exact rd
/-- d.clear() -/
def aClrD (o : AE) : AE := fun env st q er => o env st (fun x s1 => ∃ n l, x = .ref n ∧ s1[n]? = some (.dic l) ∧ q .non (s1.set n (.dic []))) er
/-- d.get(k, x) -/
def aGetD (o a b : AE) : AE := fun env st q er => o env st (fun x s1 => (∃ l0, vw s1 x = .dic l0) ∧ a env s1 (fun y s2 => b env s2 (fun z s3 => ∃ l r, vw s3 x = .dic l ∧ isKeyT (vw s3 y) ∧ DGetD l (vw s3 y) r ∧ q (r.getD z) s3) er) er) er
/-- x.pop(), x.pop(i), x.clear(): lists -/
def aPopL (o : AE) : AE := fun env st q er => o env st (fun x s1 => ∃ n l y, x = .ref n ∧ s1[n]? = some (.lst l) ∧ l[l.length - 1]? = some y ∧ q y (s1.set n (.lst l.dropLast))) er
def aPopI (o a : AE) : AE := fun env st q er => o env st (fun x s1 => ∃ n l0, x = .ref n ∧ s1[n]? = some (.lst l0) ∧ a env s1 (fun j s2 => ∃ (i : Nat) (l : List D) (y : D), j = .int (i : Int) ∧ i < 2 ^ 63 ∧ s2[n]? = some (.lst l) ∧ l[i]? = some y ∧ q y (s2.set n (.lst (l.eraseIdx i)))) er) er
def aClrL (o : AE) : AE := fun env st q er => o env st (fun x s1 => ∃ n l, x = .ref n ∧ s1[n]? = some (.lst l) ∧ q .non (s1.set n (.lst []))) er
section
variable {K : PySem.W.Frag} {G : Gh}
theorem Reps.erase : ∀ {ds : List D} {vs : List V} (i : Nat), Reps K G ds vs → Reps K G (ds.eraseIdx i) (vs.eraseIdx i)
  | _, _, _, .nil => .nil
  | _, _, 0, .cons _ r => r
  | _, _, i + 1, .cons q r => .cons q (Reps.erase i r)
theorem Reps.dropLast : ∀ {ds : List D} {vs : List V}, Reps K G ds vs → Reps K G ds.dropLast vs.dropLast
  | _, _, .nil => .nil
  | _, _, .cons h .nil => .nil
  | _, _, .cons h (.cons h2 r) => .cons h (Reps.dropLast (.cons h2 r))
end
section
variable {X : Cx} {W : WX} {k : Nat} {o e e2 : Expr} {ao ae ab : AE} {pos apos : Pos}
theorem ax_clrD (ho : AX X W o ao) (hbase : attributeBase o "clear" X.env (eval o X.env) = eval o X.env := by rfl) (hline : (apos.endLine == pos.line) = true := by rfl) : AX X W (.Call (.Attribute o "clear" apos) [] [] pos) (aClrD ao) := by
  obtain ⟨t, p, r⟩ := ho
  refine ⟨_, pe_bm0 PySem.F.plainAttrs_dict PySem.F.slot_dict_clear PySem.F.type_dict_clear mt_clearT p hbase hline, fun G env st σ H Q q er s l h tE tX => ?_⟩
  refine r G env st σ H _ _ er s l h (fun v d st1 G1 H1 p1 s1 r1 h1 => ?_) tX
  obtain ⟨n, ls, rfl, hn, h1⟩ := h1
  cases r1 with
  | ref ep =>
    rename_i a
    obtain ⟨gp, kvs, hp, rk⟩ := s1.cell n _ a hn ep
    obtain ⟨s2, p2⟩ := s1.setCell (n := n) (c' := .dic []) (o := .dT []) ep gp ⟨gp, [], upd_same, .nil⟩
    exact ⟨Or.inr (Or.inr (Or.inl ⟨rfl, .inr ⟨_, hp⟩⟩)), a, kvs, rfl, rfl, hp, tE .non .non _ G1 _ (p1.trans p2) s2 .non h1⟩
theorem ax_clrL (ho : AX X W o ao) (hbase : attributeBase o "clear" X.env (eval o X.env) = eval o X.env := by rfl) (hline : (apos.endLine == pos.line) = true := by rfl) : AX X W (.Call (.Attribute o "clear" apos) [] [] pos) (aClrL ao) := by
  obtain ⟨t, p, r⟩ := ho
  refine ⟨_, pe_bm0 PySem.F.plainAttrs_list PySem.F.slot_list_clear PySem.F.type_list_clear mt_clear p hbase hline, fun G env st σ H Q q er s l h tE tX => ?_⟩
  refine r G env st σ H _ _ er s l h (fun v d st1 G1 H1 p1 s1 r1 h1 => ?_) tX
  obtain ⟨n, ls, rfl, hn, h1⟩ := h1
  cases r1 with
  | ref ep =>
    rename_i a
    obtain ⟨vs, gp, hp, rk⟩ := s1.cell n _ a hn ep
    obtain ⟨s2, p2⟩ := s1.setCell (n := n) (c' := .lst []) (o := .lst []) ep gp ⟨[], gp, upd_same, .nil⟩
    exact ⟨Or.inl ⟨rfl, _, Or.inl (Or.inl hp)⟩, a, vs, rfl, rfl, hp, tE .non .non _ G1 _ (p1.trans p2) s2 .non h1⟩
theorem ax_popL (ho : AX X W o ao) (hbase : attributeBase o "pop" X.env (eval o X.env) = eval o X.env := by rfl) (hline : (apos.endLine == pos.line) = true := by rfl) : AX X W (.Call (.Attribute o "pop" apos) [] [] pos) (aPopL ao) := by
  obtain ⟨t, p, r⟩ := ho
  refine ⟨_, pe_bm0 PySem.F.plainAttrs_list PySem.F.slot_list_pop PySem.F.type_list_pop mt_pop p hbase hline, fun G env st σ H Q q er s l h tE tX => ?_⟩
  refine r G env st σ H _ _ er s l h (fun v d st1 G1 H1 p1 s1 r1 h1 => ?_) tX
  obtain ⟨n, ls, y, rfl, hn, hy, h1⟩ := h1
  cases r1 with
  | ref ep =>
    rename_i a
    obtain ⟨vs, gp, hp, rk⟩ := s1.cell n _ a hn ep
    obtain ⟨w, hw, rw'⟩ := rk.get hy
    obtain ⟨s2, p2⟩ := s1.setCell (n := n) (c' := .lst ls.dropLast) (o := .lst vs.dropLast) ep gp ⟨_, gp, upd_same, rk.dropLast⟩
    exact ⟨Or.inl ⟨rfl, _, Or.inl (Or.inl hp)⟩, a, vs, w, rfl, rfl, hp, by rw [← rk.length]; exact hw, tE w y _ G1 _ (p1.trans p2) s2 (rw'.mono p2.le) h1⟩
theorem ax_popI (ho : AX X W o ao) (he : AX X W e ae) (hbase : attributeBase o "pop" X.env (eval o X.env) = eval o X.env := by rfl)
    (hfew : ((backTo pos (starEach [e] X.env)).all (fun x => !x.1) && (backToKw pos (keywordEach [] X.env)).all (fun x => x.1.isSome) && decide (([e] : List Expr).length + ([] : List Keyword).length + (if ([] : List Keyword).isEmpty then 0 else 1) < 30)) = true := by rfl)
    (hline : (apos.endLine == pos.line) = true := by rfl) (hs : starEach [e] X.env = (false, eval e X.env) :: starEach [] X.env := by rfl) : AX X W (.Call (.Attribute o "pop" apos) [e] [] pos) (aPopI ao ae) := by
  obtain ⟨to, po, ro⟩ := ho
  obtain ⟨te, pe, re⟩ := he
  refine ⟨_, pe_bm PySem.F.plainAttrs_list PySem.F.slot_list_pop PySem.F.type_list_pop mt_popAt po (pa_cons pe pa_nil hs) hbase hfew hline hs rfl, fun G env st σ H Q q er s l h tE tX => ?_⟩
  refine ro G env st σ H _ _ er s l h (fun v d st1 G1 H1 p1 s1 r1 h1 => ?_) tX
  obtain ⟨n, l0, rfl, hn, h1⟩ := h1
  cases r1 with
  | ref ep =>
    rename_i a
    obtain ⟨vs, gp, hp, rk⟩ := s1.cell n _ a hn ep
    refine ⟨Or.inl ⟨rfl, _, Or.inl (Or.inl hp)⟩, re G1 env st1 σ H1 _ _ er s1 (l.mono p1.le) h1 (fun w d st2 G2 H2 p2 s2 r2 h2 => ?_) (tX.on p1)⟩
    obtain ⟨i, ls, y, rfl, hi, hn2, hy, h2⟩ := h2
    cases r2
    obtain ⟨vs2, gp2, hp2, rk2⟩ := s2.cell n _ a hn2 (pre_get p2.le.a ep)
    obtain ⟨w, hw, rw'⟩ := rk2.get hy
    obtain ⟨s3, p3⟩ := s2.setCell (n := n) (c' := .lst (ls.eraseIdx i)) (o := .lst (vs2.eraseIdx i)) (pre_get p2.le.a ep) gp2 ⟨_, gp2, upd_same, rk2.erase i⟩
    have hil := (List.getElem?_eq_some_iff.mp hw).1
    refine ⟨a, vs2, (i : Int), i, w, rfl, rfl, hp2, by omega, by omega, ?_, hw, tE w y _ G2 _ ((p1.trans p2).trans p3) s3 (rw'.mono p3.le) h2⟩
    rw [seqIndex_of (by omega) (by simpa using hil)]
    simp
theorem ax_getD (C : CxE X W k) (ho : AX X W o ao) (he : AX X W e ae) (he2 : AX X W e2 ab) (hbase : attributeBase o "get" X.env (eval o X.env) = eval o X.env := by rfl)
    (hfew : ((backTo pos (starEach [e, e2] X.env)).all (fun x => !x.1) && (backToKw pos (keywordEach [] X.env)).all (fun x => x.1.isSome) && decide (([e, e2] : List Expr).length + ([] : List Keyword).length + (if ([] : List Keyword).isEmpty then 0 else 1) < 30)) = true := by rfl)
    (hline : (apos.endLine == pos.line) = true := by rfl) (hs : starEach [e, e2] X.env = (false, eval e X.env) :: starEach [e2] X.env := by rfl) (hs2 : starEach [e2] X.env = (false, eval e2 X.env) :: starEach [] X.env := by rfl) (hpl : (backTo pos (starEach [e2] X.env)).any (·.1) = false := by rfl) : AX X W (.Call (.Attribute o "get" apos) [e, e2] [] pos) (aGetD ao ae ab) := by
  obtain ⟨to, po, ro⟩ := ho
  obtain ⟨te, pe, re⟩ := he
  obtain ⟨tb, pb, rb⟩ := he2
  refine ⟨_, pe_bm PySem.F.plainAttrs_dict PySem.F.slot_dict_get PySem.F.type_dict_get (mt_getT (by have := u64 C.room; omega)) po (pa_cons pe (pa_cons pb pa_nil hs2) hs) hbase hfew hline hs hpl, fun G env st σ H Q q er s l h tE tX => ?_⟩
  refine ro G env st σ H _ _ er s l h (fun v d st1 G1 H1 p1 s1 r1 h1 => ?_) tX
  obtain ⟨⟨l0, e0⟩, h1⟩ := h1
  have rv := r1.vw s1
  rw [e0] at rv
  obtain ⟨a, kvs, ev, hp⟩ : ∃ a kvs, v = .ref a ∧ H1 a = some (.dT kvs) := by
    cases rv with
    | dicT hp rk => exact ⟨_, _, rfl, hp⟩
  subst ev
  refine ⟨Or.inr (Or.inr (Or.inl ⟨rfl, .inr ⟨_, hp⟩⟩)), re G1 env st1 σ H1 _ _ er s1 (l.mono p1.le) h1 (fun w d2 st2 G2 H2 p2 s2 r2 h2 => ?_) (tX.on p1)⟩
  have p12 := p1.trans p2
  refine rb G2 env st2 σ H2 _ _ er s2 (l.mono p12.le) h2 (fun w3 d3 st3 G3 H3 p3 s3 r3 h3 => ?_) (tX.on p12)
  have p13 := p12.trans p3
  obtain ⟨ls, o', e3, ⟨kk, ek⟩, hg, h3⟩ := h3
  have rx3 := (r1.mono (p2.trans p3).le).vw s3
  rw [e3] at rx3
  have ry3 := (r2.mono p3.le).vw s3
  rw [ek] at ry3 hg
  cases rx3 with
  | dicT hp3 rk3 =>
    cases ry3 with
    | tup hy rs _ =>
      have := reps_kD rs
      subst this
      exact ⟨a, _, kk, _, w3, rfl, rfl, hp3, hy, tE _ _ st3 G3 H3 p13 s3 (RepT.getD rk3 r3 hg) h3⟩
/-- d[k] = v, keys tuples: the value first -/
def sSetDx (o b a : AE) : AS := fun env st k => a env st (fun d s1 => o env s1 (fun x s2 => b env s2 (fun j s3 => ∃ n l l2, x = .ref n ∧ s3[n]? = some (.dic l) ∧ isKeyT (vw s3 j) ∧ l.length < 100000 ∧ DPutD l (vw s3 j) d l2 ∧ k.nx env (s3.set n (.dic l2))) (fun e s => k.er e env s)) (fun e s => k.er e env s)) (fun e s => k.er e env s)
theorem axs_setDx {a b : Expr} {aa : AE} {spos : Pos} (C : CxE X W k) (ha : AX X W a aa) (ho : AX X W o ao) (hb : AX X W b ab)
    (hg : ∀ v, assign (.Subscript o b spos) X.env v = (do
      let ov ← holding [v] (eval o X.env)
      let iv ← holding [v, ov] (eval b X.env)
      standAt spos
      holding [v, ov, iv] (setItem ov iv v)
      release [v, ov, iv] []) := by intro _; rfl)
    (hs : swapsWithSole [.Subscript o b spos] a pos.line X.env = pure false := by rfl) (hw : swappedStores [.Subscript o b spos] a X.env = pure none := by rfl) (h1 : (assignEach [.Subscript o b spos] X.env).map (·.2) = [assign (.Subscript o b spos) X.env] := by rfl) :
    AXS X W (.Assign [.Subscript o b spos] a pos) (sSetDx ao ab aa) := by
  obtain ⟨ta, pa, ra⟩ := ha
  obtain ⟨to, po, ro⟩ := ho
  obtain ⟨tb, pb, rb⟩ := hb
  refine ⟨_, ps_asg pa (pg_sub po pb (set_dict (by have := u64 C.room; omega)) hg) hs hw h1, fun G env st σ H D k s l h t => ?_⟩
  refine ra G env st σ H _ _ _ s l h (fun v d st1 G1 H1 p1 s1 r1 h1 => ?_) (t.x l)
  refine ro G1 env st1 σ H1 _ _ _ s1 (l.mono p1.le) h1 (fun w x st2 G2 H2 p2 s2 r2 h2 => ?_) ((t.x l).on p1)
  refine rb G2 env st2 σ H2 _ _ _ s2 (l.mono (p1.trans p2).le) h2 (fun u j st3 G3 H3 p3 s3 r3 h3 => ?_) ((t.x l).on (p1.trans p2))
  have p13 := (p1.trans p2).trans p3
  obtain ⟨n, ls, l2, rfl, hn, ⟨kk, ek⟩, hsz, hput, h3⟩ := h3
  cases r2 with
  | ref ep =>
    rename_i p
    have ep3 := pre_get p3.le.a ep
    obtain ⟨gp, kvs, hp, rk⟩ := s3.cell n _ p hn ep3
    have ry := r3.vw s3
    rw [ek] at ry hput
    cases ry with
    | tup hy rs _ =>
      have := reps_kD rs
      subst this
      obtain ⟨s4, p4⟩ := s3.setCell (n := n) (c' := .dic l2) (o := .dT (putK kvs kk v)) ep3 gp ⟨gp, _, upd_same, RepT.put (r1.mono (p2.trans p3).le) rk hput⟩
      exact ⟨p, _, rfl, DPut.t hp hy (sz_lt (by rw [← rk.length]; exact hsz)), t.nx env σ _ G3 _ (p13.trans p4) s4 (l.mono (p13.trans p4).le) h3⟩
end
/-! ### != of dicts -/
section
variable {prog : Program} {w : World} {K : Type} [DecidableEq K] {knd : HeapKind prog w K} {A : Around} {E : Value → Shared → Prop} {s : Shared}
theorem neH {a b : Addr} {xa xb : List (K × Addr × Value)} {r : Bool} {Q : Value → Shared → Prop} (hr : knd.room A.in1) (ha : (a == sysModules) = false) (hb : (b == sysModules) = false)
    (da : s.heap.DictOfH knd a xa) (db : s.heap.DictOfH knd b xb) (hu : A.units < cLine) (hits : xa.length = xb.length → HitsH A.in1 s xb xa r) (h : Q (.bool (!(xa.length == xb.length && r))) s) :
    wpAny (model prog w) A (compareOp .NotEq (.ref a) (.ref b)) Q E s := by
  have tb := typeIsH db
  have ta := typeIsH da
  refine wpAny_richCompare_same_room (op := .NotEq) ta tb PySem.F.slot_dict_ne (wpAny_call_entry PySem.F.slot_dict_ne ta PySem.F.entry_dict_ne ?_ (PySem.F.args_dict_ne_2 _ _)) hu
  show wpAny _ _ (Builtin.Dict.dictSlotArgs "__ne__" ⟨[.ref a, .ref b], []⟩ >>= _) _ _ s
  refine wpAny_bind ?_
  unfold Builtin.Dict.dictSlotArgs
  refine wpAny_bind (wpAny_notOrdered_dict ta (wpAny_pure ?_))
  refine wpAny_bind (wpAny_isInstance (T := "dict") tb PySem.F.sub_dict_dict ?_)
  simp only [Bool.not_true, Bool.false_eq_true, if_false]
  refine wpAny_bind (wpAny_pure (wpAny_bind (wpAny_pure (wpAny_bind (samePairsH hr ha hb da db hits (wpAny_pure ⟨_, rfl, ?_, ?_⟩))))))
  · exact fun x => nomatch x
  · simpa using h
end
def rNeT (K : PySem.W.Frag) : R2 := fun x y H Q => ∃ a b kvs kws r, x = .ref a ∧ y = .ref b ∧ H a = some (.dT kvs) ∧ H b = some (.dT kws) ∧ (kvs.length = kws.length → VHits K H kws kvs r) ∧ Q (.bl (!(kvs.length == kws.length && r))) H
def oEqD : O2 := fun x y q => ∃ l m b, x = .dic l ∧ y = .dic m ∧ (l.length = m.length → DHits m l b) ∧ q (.bl (l.length == m.length && b))
def oNeD : O2 := fun x y q => ∃ l m b, x = .dic l ∧ y = .dic m ∧ (l.length = m.length → DHits m l b) ∧ q (.bl (!(l.length == m.length && b)))
section
variable {X : Cx} {W : WX} {k : Nat}
theorem op_neT (hu : X.A.units + 65 < cLine) : OpR X (compareOp .NotEq) (rNeT X.K) := by
  intro pins s σ H x y v u Q I rx ry h
  obtain ⟨a, b, kvs, kws, r, rfl, rfl, ea, eb, hh, q⟩ := h
  obtain rfl : v = Value.ref a := rx
  obtain rfl : u = Value.ref b := ry
  obtain ⟨_, ha, xa, ra, da⟩ := dt_of I.hok ea
  obtain ⟨_, hb, xb, rb, db⟩ := dt_of I.hok eb
  have l1 := Paired.length ra
  have l2 := Paired.length rb
  have hu1 : X.A.in1.units + 64 < cLine := by show X.A.units + 1 + 64 < cLine; omega
  refine neH (show (tupleKind (mixKind X.prog X.w)).room X.A.in1 by show X.A.units + 1 < cLine; omega) ha hb da db (by omega) (r := r) (fun hl => hits_of hu1 I rb (by obtain ⟨_, _, _, _, _, _, _, _, hn⟩ := db; exact hn) ra (hh (by omega))) ?_
  rw [← l1, ← l2]
  exact ⟨.bl _, H, I, rfl, q⟩
theorem Rv.dicT' {K : PySem.W.Frag} {G : Gh} {H : Hp} {l : List (D × D)} {v : V} (r : Rv K G H (.dic l) v) : ∃ a kvs, v = .ref a ∧ H a = some (.dT kvs) ∧ RepT K G l kvs := by
  cases r with
  | dicT hp rk => exact ⟨_, _, rfl, hp, rk⟩
theorem op_EqD (C : CxE X W k) : OpR X (compareOp .Eq) (rEqT X.K) ∧ RefO X.K (rEqT X.K) oEqD := ⟨(op_EqT C).1, fun G st H x y dx dy Q q s rx ry h t => by
  obtain ⟨l, m, b, rfl, rfl, hh, h⟩ := h
  obtain ⟨a, kvs, rfl, ha, ra⟩ := rx.dicT'
  obtain ⟨a', kws, rfl, hb, rb⟩ := ry.dicT'
  refine ⟨a, a', kvs, kws, b, rfl, rfl, ha, hb, fun e => vhits s.ex rb ra (hh (by rw [ra.length, rb.length]; exact e)), ?_⟩
  rw [← ra.length, ← rb.length]
  exact t.here s (.bl _) h⟩
theorem op_NeD (C : CxE X W k) : OpR X (compareOp .NotEq) (rNeT X.K) ∧ RefO X.K (rNeT X.K) oNeD := ⟨op_neT (u64 C.room), fun G st H x y dx dy Q q s rx ry h t => by
  obtain ⟨l, m, b, rfl, rfl, hh, h⟩ := h
  obtain ⟨a, kvs, rfl, ha, ra⟩ := rx.dicT'
  obtain ⟨a', kws, rfl, hb, rb⟩ := ry.dicT'
  refine ⟨a, a', kvs, kws, b, rfl, rfl, ha, hb, fun e => vhits s.ex rb ra (hh (by rw [ra.length, rb.length]; exact e)), ?_⟩
  rw [← ra.length, ← rb.length]
  exact t.here s (.bl _) h⟩
end
end AM
set_option Elab.async false
set_option linter.all false
set_option maxRecDepth 100000
set_option maxHeartbeats 4000000
namespace AM
open PySem PySem.Spec PyProof.Rows L2 Evl
/-! ### sum of a list or of a tuple -/
section
variable {X : Cx} {W : WX} {k : Nat}
def rSumT (K : PySem.W.Frag) : List V → Hp → VK → Prop := fun vs H Q => rSum K vs H Q ∨ ∃ (a : Addr) (ns : List Int), vs = [V.ref a] ∧ SqT K H a (ns.map V.int) ∧ Q (.int ns.sum) H
theorem cr_sumT (hc : X.calm = true) : CallR X (.builtin "sum") (rSumT X.K) := by
  intro pins s σ H vs us Q I r h
  rcases h with h | ⟨a, ns, rfl, hs, q⟩
  · exact cr_sum hc pins s σ H vs us Q I r h
  · obtain ⟨its, rv, hl, _⟩ := I.tuple hs
    have hl' : s.heap.IsTuple a its.toArray := hl
    have hi : IntsAre its ns := rv.ints
    rw [Vals.ref1 r]
    obtain ⟨xs, hx⟩ := hi.allInts.items
    have hn : numsOf its.toArray.toList = ns := by rw [show its.toArray.toList = its from rfl, hi.numsOf]
    rw [hx] at hl' hn
    rw [nums_intItems] at hn
    refine PySem.W.ktm_sumG (I.ok.hd hc) hl' fun h' tk t' hk => ?_
    refine ⟨.int _, H, I.kept hk, ⟨_, rfl⟩, ?_⟩
    rw [preSum_eq, List.take_of_length_le (by simp), hn]
    exact q
def bSumA : ON := fun xs q => match xs with
  | [.tup l] => ∃ ns : List Int, l = ns.map D.int ∧ q (.int ns.sum)
  | _ => bSum xs q
theorem cb_sumA (C : CxE X W k) : CB X (.builtin "sum") bSumA := ⟨_, cr_sumT C.calm, fun G st H xs ds Q q s r h t => by
  unfold bSumA at h
  split at h
  · obtain ⟨bs, eb, h⟩ := h
    subst eb
    cases r with
    | cons r1 r2 =>
      cases r2
      cases r1 with
      | tup h1 r1 _ =>
        have := ints_ok r1
        subst this
        exact .inr ⟨_, bs, rfl, SqT.of h1, t.here s (.int _) h⟩
  · obtain ⟨bs, eb, h⟩ := h
    subst eb
    cases r with
    | cons r1 r2 =>
      cases r2
      cases r1 with
      | lst h1 r1 =>
        have := ints_ok r1
        subst this
        exact .inl ⟨_, bs, rfl, SqL.of h1, t.here s (.int _) h⟩⟩
@[simp ↓] theorem ev_bSumA_l {l : List D} {q : D → Prop} : bSumA [.lst l] q = bSum [.lst l] q := propext Iff.rfl
@[simp ↓] theorem ev_bSumA_t {l : List D} {q : D → Prop} : bSumA [.tup l] q = ∃ ns : List Int, l = ns.map D.int ∧ q (.int ns.sum) := propext Iff.rfl
end
end AM
set_option Elab.async false
set_option linter.all false
set_option maxRecDepth 100000
set_option maxHeartbeats 4000000
namespace AM
open PySem PySem.Spec L2 Evl
/-! ### xs[:] = ys -/
section
variable {prog : Program} {w : World} {A : Around} {E : Value → Shared → Prop} {s : Shared}
theorem setWhole {l b sl : Addr} {items new : Array Value} {n : Nat} {Q : Unit → Shared → Prop} (ho : s.heap.get? l = some { cls := .type "list", data := .seq items n })
    (hb : s.heap.IsList b new) (hs : s.heap.IsSliceOf sl .none .none .none) (hz : items.size + new.size ≤ sizeLine)
    (h : ∀ f : Array Value → Array Value, f items = new → Q () { s with heap := s.heap.update l (Obj.mapSeq f) }) : wpAny (model prog w) A (setItem (.ref l) (.ref sl) (.ref b)) Q E s := by
  have hl : s.heap.IsList l items := PySem.IsL.isList (n := n) ho
  obtain ⟨os, hos, hcs, hds⟩ := id hs
  obtain ⟨ob, hob, hcb, nb, hdb⟩ := id hb
  have hTs : s.TypeIs (.ref sl) "slice" := ⟨os, hos, hcs⟩
  have hTb : s.TypeIs (.ref b) "list" := ⟨ob, hob, hcb⟩
  unfold setItem
  try with_reducible refine wpAny_holding ?_
  first | refine wpAny_bind (wpAny_pure ?_) | skip
  refine wpAny_bind (wpAny_sequenceKey hl.typeIs (by decide) ?_)
  refine wpAny_bind (wpAny_callSpecial?_slot (name := Str.ofString "__setitem__") hl.typeIs PySem.slot_list_setitem
    (wpAny_call_entry PySem.slot_list_setitem hl.typeIs PySem.entry_list_setitem ?_ (PySem.args_list_setitem _ _ _)))
  show wpAny _ _ (Builtin.List.listSubscript? (.ref sl) >>= _) _ _ s
  refine wpAny_bind ?_
  unfold Builtin.List.listSubscript?
  refine wpAny_bind (wpAny_specialOf hTs slice_no_index ?_)
  simp only [Option.isNone_none, if_true]
  refine wpAny_pure ?_
  show wpAny _ _ (typeOf (.ref sl) >>= _) _ _ s
  refine wpAny_bind (wpAny_typeOf hTs ?_)
  rw [if_neg (by decide)]
  rw [listSliceParts_eq]
  refine wpAny_bind (wpAny_bind (wpAny_field hos hds (x := .none) rfl (wpAny_bind (wpAny_listPart .none ?_))))
  rw [if_neg (show ¬ ((rawPart none == rawInt 0) = true) from Bool.false_ne_true)]
  refine wpAny_bind (wpAny_field hos hds (x := .none) rfl (wpAny_bind (wpAny_listPart .none ?_)))
  refine wpAny_bind (wpAny_field hos hds (x := .none) rfl (wpAny_bind (wpAny_listPart .none (wpAny_pure ?_))))
  have hi : ∀ {A : Around} {E : Value → Shared → Prop} {Q : Array Value → Shared → Prop}, Q new s → wpAny (model prog w) A (Builtin.List.listItems (.ref b)) Q E s := by
    intro A E Q q
    unfold Builtin.List.listItems
    exact wpAny_bind (wpAny_seqItems hob hdb (wpAny_pure q))
  have ha : ∀ {A : Around} {E : Value → Shared → Prop} {Q : Array Value → Shared → Prop}, Q new s → wpAny (model prog w) A (Builtin.List.listAllItems (.ref b) "must assign iterable to extended slice") Q E s := by
    intro A E Q q
    unfold Builtin.List.listAllItems
    refine wpAny_bind (wpAny_typeOf hTb ?_)
    rw [if_pos (by decide)]
    exact hi q
  have e0 : (sliceBounds none none none items.size) = (0, (items.size : Int), 1) := rfl
  have es : (rawPart none, rawPart none, rawPart none).2.snd = rawPart none := rfl
  have hlong : ¬ (Builtin.List.listTooLong (items.size + new.size) = true) := by
    unfold Builtin.List.listTooLong
    simp
    exact hz
  split
  · refine wpAny_bind (hi ?_)
    refine wpAny_bind (m := Builtin.List.listItems (.ref l)) ?_
    unfold Builtin.List.listItems
    refine wpAny_bind (wpAny_seqItems ho rfl (wpAny_pure ?_))
    refine wpAny_bind (wpAny_of_eq (sliceIndices_raw none none none items.size (by simp)) ?_)
    rw [e0, if_pos (show ((1 : Int) == 1) = true from rfl)]
    refine wpAny_bind (wpAny_rule ?_)
    rw [if_neg hlong]
    have hf : (fun xs : Array Value => xs.extract 0 (0 : Int).toNat ++ new ++ xs.extract (max (0 : Int) (items.size : Int)).toNat) items = new := by
      have e1 : (max (0 : Int) (items.size : Int)).toNat = items.size := by omega
      show items.extract 0 0 ++ new ++ items.extract (max (0 : Int) (items.size : Int)).toNat items.size = new
      rw [e1]
      simp
    refine wpAny_bind (PyProof.Rows.listUpdate_at ho rfl ?_ (by omega) (by
      show ((fun xs : Array Value => xs.extract 0 (0 : Int).toNat ++ new ++ xs.extract (max (0 : Int) (items.size : Int)).toNat) items).size ≤ _
      rw [hf]; omega))
    refine wpAny_bind (wpAny_letGo ?_)
    exact wpAny_pure ⟨.none, rfl, wpAny_pure (h _ hf)⟩
  · refine wpAny_bind (ha ?_)
    refine wpAny_bind (m := Builtin.List.listItems (.ref l)) ?_
    unfold Builtin.List.listItems
    refine wpAny_bind (wpAny_seqItems ho rfl (wpAny_pure ?_))
    refine wpAny_bind (wpAny_of_eq (sliceIndices_raw none none none items.size (by simp)) ?_)
    rw [e0, if_pos (show ((1 : Int) == 1) = true from rfl)]
    refine wpAny_bind (wpAny_rule ?_)
    rw [if_neg hlong]
    have hf : (fun xs : Array Value => xs.extract 0 (0 : Int).toNat ++ new ++ xs.extract (max (0 : Int) (items.size : Int)).toNat) items = new := by
      have e1 : (max (0 : Int) (items.size : Int)).toNat = items.size := by omega
      show items.extract 0 0 ++ new ++ items.extract (max (0 : Int) (items.size : Int)).toNat items.size = new
      rw [e1]
      simp
    refine wpAny_bind (PyProof.Rows.listUpdate_at ho rfl ?_ (by omega) (by
      show ((fun xs : Array Value => xs.extract 0 (0 : Int).toNat ++ new ++ xs.extract (max (0 : Int) (items.size : Int)).toNat) items).size ≤ _
      rw [hf]; omega))
    refine wpAny_bind (wpAny_letGo ?_)
    exact wpAny_pure ⟨.none, rfl, wpAny_pure (h _ hf)⟩
def rSetW (K : PySem.W.Frag) : V → V → Hp → (Hp → Prop) → Prop := fun o v H Q => ∃ p xs b ys, o = .ref p ∧ v = .ref b ∧ H p = some (.lst xs) ∧ SqL K H b ys ∧ xs.length + ys.length ≤ sizeLine ∧ Q (upd H p (.lst ys))
theorem set_whole {X : Cx} {pins : List (Addr × Obj)} {s : Shared} {σ : St} {H : Hp} {o v : V} {ov u : Value} {sl : Addr} {Q : Hp → Prop} (I : Inv X pins σ H s) (ro : RelV o ov) (rv : RelV v u) (hs : s.heap.IsSliceOf sl .none .none .none) (h : rSetW X.K o v H Q) :
    wpAny (model X.prog X.w) X.A (setItem ov (.ref sl) u) (fun _ s' => ∃ H', Inv X pins σ H' s' ∧ Q H') X.xe s := by
  obtain ⟨p, xs, b, ys, rfl, rfl, hp, hb, hz, q⟩ := h
  cases ro
  cases rv
  obtain ⟨its, n, r, ho, _⟩ := I.lst hp
  obtain ⟨new, rn, hl, _⟩ := I.list hb
  have l1 := r.length
  have l2 := rn.length
  refine setWhole ho hl.isList hs (by rw [List.size_toArray, List.size_toArray]; omega) fun f hf => ?_
  refine ⟨_, I.lstUpd (n' := if new.toArray.size == its.toArray.size then n else n + 1) hp ho ?_ rn (by omega) s.toks, q⟩
  simp only [Obj.mapSeq, hf]
def gWhole (K : PySem.W.Frag) (to : TE) : TG := fun v σ H Q => to σ H fun o H1 => rSetW K o v H1 fun H2 => Q σ H2
theorem pg_whole {X : Cx} {o : Expr} {to : TE} {pos p2 : Pos} (ho : PE X o to)
    (ha : ∀ v, assign (.Subscript o (.Slice none none none p2) pos) X.env v = (do
      let ov ← holding [v] (eval o X.env)
      let iv ← holding [v, ov] (eval (.Slice none none none p2) X.env)
      standAt pos
      holding [v, ov, iv] (setItem ov iv v)
      release [iv, v, ov] []) := by intro _; rfl) : PG X (.Subscript o (.Slice none none none p2) pos) (gWhole X.K to) := by
  refine ⟨fun pins s σ H v u Q I r h => ?_⟩
  rw [ha]
  refine wpAny_bind (wpAny_holding (thn (ho.run pins s σ H _ I h) fun ov s1 ⟨x, H1, I1, r1, q1⟩ => ?_))
  refine wpAny_bind (wpAny_holding ?_)
  refine wpAny_Slice ?_
  rw [evalPart_none]
  refine wpAny_pure ?_
  refine wpAny_pure ?_
  refine wpAny_pure ?_
  have I2 : Inv X pins σ H1 { s1 with heap := s1.heap.push { cls := .type "slice", data := .fields #[.none, .none, .none] } } := I1.kept (t' := s1.toks) fun b ob q => Heap.get?_push_of_some _ q
  refine wpAny_bind (wpAny_standAt (wpAny_bind (wpAny_holding (thn (set_whole I2 r1 r (Heap.IsSliceOf.new ..) q1) fun _ s3 ⟨H3, I3, q3⟩ => ?_))))
  exact wpAny_release ⟨σ, H3, I3, q3⟩
end
section
variable {K : PySem.W.Frag} {W : WX}
/-- x[:] = e: the value first, a list of its own -/
def sSetW (o a : AE) : AS := fun env st k => a env st (fun d s1 => o env s1 (fun x s2 => match x, d with
  | .ref n, .lst ys => ∃ l, s2[n]? = some (.lst l) ∧ l.length + ys.length < 100000 ∧ k.nx env (s2.set n (.lst ys))
  | _, _ => False) (fun e s => k.er e env s)) (fun e s => k.er e env s)
theorem refS_setW {ta to : TE} {aa ao : AE} (ha : RefE K W ta aa) (ho : RefE K W to ao) : RefS K W (tAsg ta (gWhole K to)) (sSetW ao aa) := fun G env st σ H D k s l h t => by
  refine ha G env st σ H _ _ _ s l h (fun v d st1 G1 H1 p1 s1 r1 h1 => ?_) (t.x l)
  refine ho G1 env st1 σ H1 _ _ _ s1 (l.mono p1.le) h1 (fun w x st2 G2 H2 p2 s2 r2 h2 => ?_) ((t.x l).on p1)
  split at h2
  · rename_i n ys
    obtain ⟨ls, hn, hz, h2⟩ := h2
    cases r2 with
    | ref ep =>
      rename_i p
      have r1' := r1.mono p2.le
      cases r1' with
      | lst hb rs2 =>
        obtain ⟨vs, gp, hp, rs⟩ := s2.cell n _ p hn ep
        obtain ⟨s4, p4⟩ := s2.setCell (n := n) (c' := .lst ys) (o := .lst _) ep gp ⟨_, gp, upd_same, rs2⟩
        refine ⟨p, vs, _, _, rfl, rfl, hp, SqL.of (s2.ex _ _ hb), ?_, t.nx env σ _ G2 _ ((p1.trans p2).trans p4) s4 (l.mono ((p1.trans p2).trans p4).le) h2⟩
        have := rs.length
        have := rs2.length
        exact Nat.le_of_lt (sz_lt (by omega))
  · exact h2.elim
end
section
variable {X : Cx} {W : WX} {o a : Expr} {ao aa : AE} {pos spos p2 : Pos}
theorem axs_setW (ha : AX X W a aa) (ho : AX X W o ao)
    (hg : ∀ v, assign (.Subscript o (.Slice none none none p2) spos) X.env v = (do
      let ov ← holding [v] (eval o X.env)
      let iv ← holding [v, ov] (eval (.Slice none none none p2) X.env)
      standAt spos
      holding [v, ov, iv] (setItem ov iv v)
      release [iv, v, ov] []) := by intro _; rfl)
    (hs : swapsWithSole [.Subscript o (.Slice none none none p2) spos] a pos.line X.env = pure false := by rfl) (hw : swappedStores [.Subscript o (.Slice none none none p2) spos] a X.env = pure none := by rfl) (h1 : (assignEach [.Subscript o (.Slice none none none p2) spos] X.env).map (·.2) = [assign (.Subscript o (.Slice none none none p2) spos) X.env] := by rfl) :
    AXS X W (.Assign [.Subscript o (.Slice none none none p2) spos] a pos) (sSetW ao aa) := by
  obtain ⟨ta, pa, ra⟩ := ha
  obtain ⟨to, po, ro⟩ := ho
  exact ⟨_, ps_asg pa (pg_whole po hg) hs hw h1, refS_setW ra ro⟩
end
/-! ### tuple * int -/
theorem tuple_mul1 (l : Addr) (items : Array Value) (n : Nat) (dd : Option Addr) (sl : Array (Option Value)) (u : Tok) :
    Meets (Builtin.«tuple.__mul__» ⟨[.ref l, .int 1 u], []⟩) (fun _ R s => s.heap.get? l = some { cls := .type "tuple", dict := dd, data := .seq items n, slots := sl } ∧
      R (.ok (.ret (Value.ref l))) s) :=
  .of_wp fun prog w A R s h => by
    obtain ⟨hp, g, d, tk, os⟩ := s
    obtain ⟨hl, h⟩ := h
    have f1 := AutoSeq1.idx_int
    wp_walk using wpAny_loadPart' hl
    repeat (first
      | (refine wpAny_ite_false (decide_eq_false (by decide)) ?_; wp_walk using wpAny_loadPart' hl)
      | (refine wpAny_ite_true (decide_eq_true (by simp)) ?_; wp_walk using wpAny_loadPart' hl))
    exact ⟨_, rfl, h⟩
section
variable {X : Cx}
def rRepT1 (K : PySem.W.Frag) : R2 := fun x y H Q => ∃ l xs, x = .ref l ∧ y = .int 1 ∧ SqT K H l xs ∧ Q (.ref l) H
theorem op_repT1 : OpR X (binaryOp .Mult) (rRepT1 X.K) := by
  intro pins s σ H x y v u Q I rx ry h
  obtain ⟨l, xs, rfl, rfl, hT, q⟩ := h
  cases rx
  obtain ⟨t, rfl⟩ := ry
  obtain ⟨its, r, ⟨⟨cls, dd, data, sl⟩, ho, hc, n, hd⟩, hs⟩ := I.tuple hT
  simp only at hc hd
  subst hc hd
  refine wpAny_binaryOp_repeat_ref (T := "tuple") (U := "int") (by decide) ⟨_, ho, rfl⟩ (fun s' => typeIs_int s' 1 t) noFill_tuple_mul F.fills_int_mul F.slot_int_rmul repeat_tuple F.slot_int_index.lookup
    (call_meets F.slot_int_rmul (typeIs_int s 1 t) F.entry_int_rmul (F.args_int_rmul_2 _ _) (int_rmul_tuple 1 t l its.toArray n dd sl)
      ⟨ho, rfl, ⟨_, ho, rfl⟩, call_meets F.slot_tuple_mul ⟨_, ho, rfl⟩ F.entry_tuple_mul (F.args_tuple_mul_2 _ _) (tuple_mul1 l its.toArray n dd sl t) ⟨ho, ?_⟩⟩)
  exact ⟨.ref l, H, I, rfl, q⟩
def oRepT : O2 := fun x y q => ∃ l k, x = .tup l ∧ y = .int k ∧ l ≠ [] ∧ 1 ≤ k ∧ k ≤ 1000 ∧ l.length ≤ 1000 ∧ q (.tup (List.replicate k.toNat l).flatten)
theorem op_RepT : OpR X (binaryOp .Mult) (fun x y H Q => rRepT1 X.K x y H Q ∨ rRepT X.K x y H Q) ∧ RefO X.K (fun x y H Q => rRepT1 X.K x y H Q ∨ rRepT X.K x y H Q) oRepT := ⟨op_repT1.or op_repT, fun G st H x y dx dy Q q s rx ry h t => by
  obtain ⟨l, k, rfl, rfl, h0, h1, h2, h3, h⟩ := h
  cases rx with
  | tup hp rs hh =>
    cases ry
    by_cases hk : k = 1
    · subst hk
      have e : (List.replicate (1 : Int).toNat l).flatten = l := by simp
      rw [e] at h
      exact .inl ⟨_, _, rfl, rfl, SqT.of hp, t.here s hh h⟩
    · refine .inr ⟨_, k, _, rfl, rfl, SqT.of hp, ?_, by omega, h2, by rw [← rs.length]; exact h3, fun p hp' => ?_⟩
      · intro e
        subst e
        cases rs
        exact h0 rfl
      · exact t.newT s (Reps.rep rs k.toNat) h hp'⟩
end
/-! ### own == against a value of another kind -/
def LookT (X : Cx) (P : V → Hp → Prop) (t : Value) : Prop := ∀ {pins : List (Addr × Obj)} {s : Shared} {σ : St} {H : Hp} {y : V} {u : Value}, L2.Inv X pins σ H s → L2.RelV y u → P y H → PySem.W.Looks (model X.prog X.w) s.heap (typeOf u) t
section
variable {X : Cx} {W : WX} {k j : Nat} {a b : Expr} {ta tb : TE} {C f : Addr} {fd : FuncData} {ps : List Str} {sp : Sp} {CX : CXT} {E : St → XK} {P : V → Hp → Prop} {t : Value}
theorem pe_eqK (hP : LookT X P t) (F : FnOk X.prog X.w X.K X.mg X.base CX k f fd ps sp) (hr : Room k X.A) (hn : PySem.W.notFirst X.K C t = true) (hs : PySem.W.findIn X.K (.ref C) "__eq__" = some (some (.ref f))) (hfn : PySem.W.isFn X.K (.ref f) = true) (hb : Binds X.K fd ps []) (hx : ∀ σ, PassesAt CX X σ (E σ)) (ha : PE X a ta) (hi : PE X b tb) :
    PC X .Eq a b (tOwn2 C sp E P ta tb) := by
  refine ⟨fun pins s σ H Q I h => ?_⟩
  refine binT ha hi I h fun v u s2 x y H2 I2 rx ry q => ?_
  obtain ⟨p, dx, fs, rfl, hp, hpy, q⟩ := q
  obtain rfl : v = Value.ref p := rx
  obtain ⟨mA, J, _⟩ := ins_get I2.hok hp
  obtain ⟨od, J, _⟩ := J.look
  obtain ⟨m, hF⟩ := I2.fr
  exact PySem.W.cmp_K (op := .Eq) (by have := u64 hr; omega) hF I2.ok.mod.kin J (hP I2 ry hpy) hn hs hfn (wpAny_mono (run_fnAt F hr rfl hb (hx σ) I2 (vs := [V.ref p, y]) (us := [Value.ref p, u]) (.cons (show L2.RelV (.ref p) (.ref p) from rfl) (.cons ry .nil)) q) (fun _ _ z => back_ok z) fun _ _ z => z)
def PLst (K : PySem.W.Frag) (y : V) (H : Hp) : Prop := ∃ a xs, y = .ref a ∧ SqL K H a xs
def PNon (y : V) (H : Hp) : Prop := y = .non
theorem look_lst : LookT X (PLst X.K) (.type "list") := by
  rintro pins s σ H y u I r ⟨a, xs, rfl, h⟩
  obtain rfl : u = Value.ref a := r
  obtain ⟨its, _, ht, _⟩ := I.list h
  obtain ⟨o, ho, hc⟩ := ht.isList.typeIs
  exact fun A Q E s k q => wpAny_typeOf_ref (k _ _ ho) (by rw [hc]; exact q)
theorem look_non : LookT X PNon (.type "NoneType") := by
  rintro pins s σ H y u I r h
  obtain rfl : y = .non := h
  cases r
  exact PySem.W.Looks.of_pure rfl
theorem look_cls {C : Addr} : LookT X (PIns C) (.ref C) := by
  rintro pins s σ H y u I r ⟨p', dx', fs', rfl, hp'⟩
  obtain rfl : u = Value.ref p' := r
  obtain ⟨mA', J', _⟩ := ins_get I.hok hp'
  obtain ⟨od', J', _⟩ := J'.look
  exact J'.type
end
def isLst : D → Prop
  | .lst _ => True
  | _ => False
def isNon : D → Prop
  | .non => True
  | _ => False
section
variable {K : PySem.W.Frag}
theorem pv_lst {G : Gh} {H : Hp} {d : D} {v : V} (r : Rv K G H d v) (h : isLst d) : PLst K v H := by
  cases r with
  | lst hp rs => exact ⟨_, _, rfl, SqL.of hp⟩
  | _ => exact h.elim
theorem pv_non {G : Gh} {H : Hp} {d : D} {v : V} (r : Rv K G H d v) (h : isNon d) : PNon v H := by
  cases r with
  | non => rfl
  | _ => exact h.elim
end
section
variable {X : Cx} {W : WX} {k j : Nat} {a b : Expr} {c : Str} {pos : Pos} {aa ab : AE} {mf : AF} {f : Addr} {fd : FuncData} {ps : List Str} {P : V → Hp → Prop} {PD : D → Prop} {t : Value}
theorem ax_eqK (hP : LookT X P t) (hv : ∀ {G : Gh} {H : Hp} {d : D} {v : V}, Rv X.K G H d v → PD d → P v H) (C : CxE X W k) (F : FnOk X.prog X.w X.K X.mg X.base (L2N.CX X.prog X.w) j f fd ps (SpA X.K mf)) (hb : BindsD X.K fd ps []) (hn : PySem.W.notFirst X.K (He.ga X.K c) t = true) (hs : PySem.W.findIn X.K (.ref (He.ga X.K c)) "__eq__" = some (some (.ref f))) (hfn : PySem.W.isFn X.K (.ref f) = true) (ha : AX X W a aa) (hi : AX X W b ab) (hj : j ≤ k) (hm : behindInMarks .Eq b = false := by first | exact nobehind _ (by decide) (by decide) | rfl) :
    AX X W (.Compare a [.Eq] [b] pos) (aOwn2 c mf PD aa ab) := by
  obtain ⟨ta, pa, ra⟩ := ha
  obtain ⟨tb, pb, rb⟩ := hi
  obtain ⟨ds, hv', hb⟩ := hb
  cases hv'
  exact ⟨_, pe_cmp (pe_eqK (E := fun σ c d H => W c d σ H) hP F (C.room.mono hj) hn hs hfn hb (fun σ => L2N.passAt C.takes σ) pa pb) hm, refE_own2 hv ra rb⟩
theorem axt_eqK (hP : LookT X P t) (hv : ∀ {G : Gh} {H : Hp} {d : D} {v : V}, Rv X.K G H d v → PD d → P v H) (C : CxE X W k) (F : FnOk X.prog X.w X.K X.mg X.base (L2N.CX X.prog X.w) j f fd ps (SpA X.K mf)) (hb : BindsD X.K fd ps []) (hn : PySem.W.notFirst X.K (He.ga X.K c) t = true) (hs : PySem.W.findIn X.K (.ref (He.ga X.K c)) "__eq__" = some (some (.ref f))) (hfn : PySem.W.isFn X.K (.ref f) = true) (ha : AX X W a aa) (hi : AX X W b ab) (hj : j ≤ k) (hm : behindInMarks .Eq b = false := by first | exact nobehind _ (by decide) (by decide) | rfl) :
    AXT X W (.Compare a [.Eq] [b] pos) (aTest (aOwn2 c mf PD aa ab)) := by
  obtain ⟨ta, pa, ra⟩ := ha
  obtain ⟨tb, pb, rb⟩ := hi
  obtain ⟨ds, hv', hb⟩ := hb
  cases hv'
  exact ⟨_, pt_cmp (pe_eqK (E := fun σ c d H => W c d σ H) hP F (C.room.mono hj) hn hs hfn hb (fun σ => L2N.passAt C.takes σ) pa pb) hm, refT_test (refE_own2 hv ra rb)⟩
end
end AM
set_option Elab.async false
set_option linter.all false
set_option maxRecDepth 100000
set_option maxHeartbeats 4000000
namespace AM
open PySem PySem.Spec L2 Evl
/-! ### the lists in a list's cell are frozen, ahead of a piece -/
inductive FrzS (n : Nat) : S → S → Prop
  | nil {s : S} : FrzS n s s
  | step {s s' : S} {L l : List D} {j m : Nat} : s[n]? = some (.lst L) → L[j]? = some (.ref m) → m ≠ n → s[m]? = some (.lst l) → FrzS n ((s.set m .dead).set n (.lst (L.set j (.lst l)))) s' → FrzS n s s'
def sFrzIn (i : Nat) (a : AS) : AS := fun env st k => ∃ n st2, env[i]? = some (.d (.ref n)) ∧ FrzS n st st2 ∧ a env st2 k
theorem frz_ok {K : PySem.W.Frag} {n : Nat} {st st2 : S} (f : FrzS n st st2) : ∀ {G : Gh} {H : Hp} {p : Addr}, SS K G st H → G.as[n]? = some p → ∃ G2, Post G H G2 H ∧ SS K G2 st2 H := by
  induction f with
  | nil => exact fun {G H p} s hp => ⟨G, ⟨Gh.le.refl G, fun _ _ e _ => e, fun _ e _ _ => e, fun _ z => .inl z, fun _ k => k⟩, s⟩
  | step h1 h2 hm h3 f ih =>
    intro G H p s hp
    rename_i s0 s' L l j m
    obtain ⟨vs, gp, hh, rs⟩ := s.cell n _ p h1 hp
    obtain ⟨v, ev, rv⟩ := rs.get h2
    cases rv with
    | ref ep =>
      rename_i pm
      obtain ⟨vm, gpm, hhm, rm⟩ := s.cell m _ pm h3 ep
      obtain ⟨s2, p2⟩ := s.freezeCell ep gpm hhm
      have hne : p ≠ pm := fun z => by
        subst z
        exact hm ((List.getElem?_inj (List.getElem?_eq_some_iff.mp ep).1 s.nd).mp (ep.trans hp.symm))
      have gp2 : (upd G.g pm (.lst vm)) p = none := by rw [upd_ne hne]; exact gp
      have e : vs.set j (.ref pm) = vs := by
        apply List.ext_getElem?
        intro i
        by_cases hi : i = j
        · subst hi
          rw [List.getElem?_set_self (List.getElem?_eq_some_iff.mp ev).1, ev]
        · rw [List.getElem?_set_ne (Ne.symm hi)]
      have hu : upd H p (.lst vs) = H := by
        funext x
        by_cases hx : x = p
        · subst hx; rw [upd_same, hh]
        · rw [upd_ne hx]
      obtain ⟨s3, p3⟩ := s2.setCell (n := n) (c' := .lst (L.set j (.lst l))) (o := .lst vs) hp gp2 ⟨vs, gp2, upd_same, by
        have := (rs.mono p2.le).set (Rep.lst (K := K) upd_same (rm.mono p2.le)) j
        rw [e] at this
        exact this⟩
      rw [hu] at s3 p3
      obtain ⟨G3, p4, s4⟩ := ih s3 hp
      exact ⟨G3, (p2.trans p3).trans p4, s4⟩
theorem axs_frzIn {X : Cx} {W : WX} {st : Stmt} {as : AS} (i : Nat) (h : AXS X W st as) : AXS X W st (sFrzIn i as) := by
  obtain ⟨t, p, r⟩ := h
  refine ⟨_, p, fun G env st σ H D k s l a t => ?_⟩
  obtain ⟨n, st2, ei, f, a⟩ := a
  obtain ⟨u, eu, ru⟩ := l.slot i _ ei
  cases ru with
  | ref ep =>
    obtain ⟨G2, p2, s2⟩ := frz_ok f s ep
    exact r G2 env st2 σ H D k s2 (l.mono p2.le) a (t.on p2)
end AM
set_option Elab.async false
set_option linter.all false
set_option maxRecDepth 100000
set_option maxHeartbeats 4000000
namespace AM
open PySem PySem.Spec PyProof.Rows L2 Evl
/-! ### l.count(x) -/
def rCountD (K : PySem.W.Frag) : V → List V → Hp → VK → Prop := fun x xs H Q => ∃ (a : Addr) (y : V) (d : PyData) (ds : List PyData), x = V.ref a ∧ xs = [y] ∧ Dp K H (V.ref a) (.list ds) ∧ Dp K H y d ∧
  SeqAt.shaped (.list ds) = true ∧ SeqAt.shaped d = true ∧ Q (.int ((ds.countP fun z => PyData.eqv z d : Nat) : Int)) H
theorem mt_countD {X : Cx} (hu : X.A.units + 65 < cLine) : MtR X "list.count" (rCountD X.K) := by
  intro pins s σ H x xs v us Q I rx rxs h
  obtain ⟨a, y, d, ds, rfl, rfl, hl, hy, sl, sd, q⟩ := h
  cases rx
  cases rxs with
  | cons ry rt =>
    rename_i uy ut
    cases rt
    obtain ⟨bs, r1⟩ := Dp.reads I d y uy hy ry
    have hxs : PyData.canLayAll0 ds = true := SeqAt.canLay_of_shaped sl
    have hroom : X.A.units + 1 + min (PyData.depthAll ds) d.depth < cLine := room_in_shaped sd hu
    cases hl with
    | lst hs ha =>
      obtain ⟨its, rv, ⟨⟨cls, dd, data, sls⟩, n, ho, hc, hdn, hdt⟩, hlen⟩ := I.list hs
      simp only at hc hdt
      subst hc hdt
      obtain ⟨as, h4⟩ := Dp.readsAll I ds _ its ha rv
      have hmap : its.map (SeqAt.readOf s.heap) = ds := SeqAt.readsAll_map ds its as hxs h4
      refine call_meets PySem.F.slot_list_count ⟨_, ho, rfl⟩ PySem.F.entry_list_count (PySem.F.args_list_count_2 _ _)
        (SeqAt.list_countAt a its.toArray n dd sls uy (fun u => PyData.eqv (SeqAt.readOf s.heap u) d)) ⟨ho, SeqAt.items_eqAt (vs := its.toArray) (show ReadsAll s.heap its.toArray.toList ds as from h4) r1 hxs (SeqAt.canLay_of_shaped sd) hroom, ?_⟩
      rw [show its.toArray.toList = its from rfl, show (its.countP fun u => PyData.eqv (SeqAt.readOf s.heap u) d) = ds.countP fun z => PyData.eqv z d from by rw [← hmap, List.countP_map]; rfl]
      exact ⟨.int _, H, I.tok _, ⟨_, rfl⟩, q⟩
def aCnt (o a : AE) : AE := fun env st q er => o env st (fun x s1 => (∃ l, vw s1 x = .lst l) ∧ a env s1 (fun y s2 => ∃ l, vw s2 x = .lst l ∧ (D.lst l).shp ∧ (vw s2 y).shp ∧ q (.int ((l.countP fun z => D.eqv z (vw s2 y) : Nat) : Int)) s2) er) er
section
variable {X : Cx} {W : WX} {k : Nat} {o e : Expr} {ae ao : AE} {pos apos : Pos}
theorem refE_cnt {K : PySem.W.Frag} {to te : TE} (ho : RefE K W to ao) (he : RefE K W te ae) : RefE K W (tBM K "list" (rCountD K) to (tCons te tNil)) (aCnt ao ae) := fun G env st σ H Q q er s l h tE tX => by
  refine ho G env st σ H _ _ er s l h (fun v d st1 G1 H1 p1 s1 r1 h1 => ?_) tX
  obtain ⟨⟨l0, hl0⟩, h1⟩ := h1
  have rv := r1.vw s1
  rw [hl0] at rv
  cases rv with
  | lst hp rs =>
    rename_i pp vs
    refine ⟨Or.inl ⟨rfl, _, Or.inl (Or.inl hp)⟩, he G1 env st1 σ H1 _ _ er s1 (l.mono p1.le) h1 (fun w d2 st2 G2 H2 p2 s2 r2 h2 => ?_) (tX.on p1)⟩
    obtain ⟨l2, hl2, hsl, hsy, h2⟩ := h2
    have rv2 := (r1.mono p2.le).vw s2
    have ry := r2.vw s2
    rw [hl2] at rv2
    have dl := rv2.dp s2.ex hsl.1
    have dy := ry.dp s2.ex hsy.1
    rw [D.py] at dl
    have pl : ∀ x ∈ l2, x.plain = true := plains_mem (by have := hsl.1; rw [D.plain] at this; exact this)
    have sl := D.shaped hsl
    rw [D.py] at sl
    have e : ((D.pys l2).countP fun z => PyData.eqv z (vw st2 d2).py) = l2.countP fun z => D.eqv z (vw st2 d2) := by
      rw [pys_map, List.countP_map]
      exact List.countP_congr fun z hz => by
        show PyData.eqv z.py (vw st2 d2).py = true ↔ _
        rw [D.py_eqv (pl z hz) hsy.1]
    refine ⟨pp, w, _, _, rfl, rfl, dl, dy, sl, D.shaped hsy, ?_⟩
    rw [e]
    exact tE _ _ st2 G2 H2 (p1.trans p2) s2 (.int _) h2
theorem ax_cnt (C : CxE X W k) (ho : AX X W o ao) (he : AX X W e ae) (hbase : attributeBase o "count" X.env (eval o X.env) = eval o X.env := by rfl)
    (hfew : ((backTo pos (starEach [e] X.env)).all (fun x => !x.1) && (backToKw pos (keywordEach [] X.env)).all (fun x => x.1.isSome) && decide (([e] : List Expr).length + ([] : List Keyword).length + (if ([] : List Keyword).isEmpty then 0 else 1) < 30)) = true := by rfl)
    (hline : (apos.endLine == pos.line) = true := by rfl) (hs : starEach [e] X.env = (false, eval e X.env) :: starEach [] X.env := by rfl) : AX X W (.Call (.Attribute o "count" apos) [e] [] pos) (aCnt ao ae) := by
  obtain ⟨to, po, ro⟩ := ho
  obtain ⟨te, pe, re⟩ := he
  exact ⟨_, pe_bm PySem.F.plainAttrs_list PySem.F.slot_list_count PySem.F.type_list_count (mt_countD (by have := u64 C.room; omega)) po (pa_cons pe pa_nil hs) hbase hfew hline hs rfl, refE_cnt ro re⟩
end
end AM
set_option Elab.async false
set_option linter.all false
set_option maxRecDepth 100000
set_option maxHeartbeats 4000000
namespace AM
open PySem PySem.Spec PyProof.Rows L2 Evl
/-! ### len(x) of an own class -/
def tLenO (C : Addr) (sp : Sp) (E : L2.St → XK) (ta : TA) : TE := fun σ H Q => ta σ H fun vs H1 => ∃ p dx fs, vs = [.ref p] ∧ H1 p = some (.ins C dx fs) ∧ sp [.ref p] H1 (fun v H3 => ∃ n : Nat, v = .int (n : Int) ∧ n < 2 ^ 62 ∧ Q (.int (n : Int)) H3) (E σ)
theorem boot_len : bootBuiltins "len" = some (.builtin "len") := by rfl
section
variable {X : Cx} {CX : CXT} {k : Nat} {f C : Addr} {fd : FuncData} {ps : List Str} {sp : Sp} {E : L2.St → XK} {e : Expr} {ta : TA} {p pos : Pos}
theorem pe_lenO (F : FnOk X.prog X.w X.K X.mg X.base CX k f fd ps sp) (hr : Room (k + 1) X.A) (hs : PySem.W.findIn X.K (.ref C) "__len__" = some (some (.ref f))) (hfn : PySem.W.isFn X.K (.ref f) = true) (hb : Binds X.K fd ps []) (hx : ∀ σ, PassesAt CX X σ (E σ)) (hg : Gl X "len") (hm : X.mg "len" = none) (ha : PA X [e] ta)
    (he : starEach [e] X.env = (false, eval e X.env) :: starEach [] X.env := by rfl) (hpl : (backTo pos (starEach [] X.env)).any (·.1) = false := by rfl) : PE X (.Call (.Name "len" p) [e] [] pos) (tLenO C sp E ta) := by
  refine ⟨fun pins s σ H Q I h => ?_⟩
  refine wpAny_Call_Name_kw (ld_blt I hg hm boot_len ?_ (by decide) (by decide))
  refine PyProof.Rows.callWith_builtin1 (thn (ha.run pos pins s σ H _ I h) fun us s1 ⟨vs, H1, I1, r1, q1⟩ => ?_) he hpl
  obtain ⟨a, dx, fs, rfl, hp, q⟩ := q1
  obtain ⟨u, rfl, ru⟩ := vals1 r1
  obtain rfl : u = Value.ref a := ru
  obtain ⟨mA, J, _⟩ := ins_get I1.hok hp
  obtain ⟨od, J, _⟩ := J.look
  obtain ⟨m, hF⟩ := I1.fr
  refine Calls.call_function_entry PySem.kind_len PySem.plain_len PySem.entry_len (PySem.args_len1 _) ?_
  unfold Builtin.«len»
  refine wpAny_bind (m := oneArg "len" _) (wpAny_pure ?_)
  have run := run_fnAt F hr.in1 rfl hb (hx σ) I1 (vs := [V.ref a]) (us := [Value.ref a]) (.cons (show RelV (.ref a) (.ref a) from rfl) .nil) q
  refine wpAny_bind (m := callSpecial? (.ref a) (PySem.Str.ofString "__len__")) (PySem.W.special_fn (I1.ok.mod.kin.keeps hF.keep) J hs (beq_iff_eq.mp hfn) (wpAny_mono run (fun w s2 z => ?_) fun _ _ z => z))
  obtain ⟨v, H3, I3, r3, n, rfl, hn, q3⟩ := z
  obtain ⟨t, rfl⟩ := r3
  refine wpAny_bind (wpAny_holding (wpAny_pure ?_))
  refine wpAny_bind (wpAny_letGo ?_)
  show wpAny _ _ (if ((n : Nat) : Int) < 0 then _ else _) _ _ _
  rw [if_neg (by omega)]
  show wpAny _ _ (if ((n : Nat) : Int) ≥ 2 ^ 63 then _ else _) _ _ _
  rw [if_neg (by omega)]
  exact wpAny_bind (wpAny_mkInt (wpAny_pure ⟨_, rfl, .int n, H3, I3.tok _, ⟨_, rfl⟩, q3⟩))
end
def aOwnLen (c : Str) (mf : AF) (a : AE) : AE := fun env st q er => a env st (fun x s1 => isCls c (vw s1 x) ∧ mf [x] s1 (fun r s3 => ∃ n : Nat, r = .d (.int (n : Int)) ∧ n < 2 ^ 62 ∧ q (.int (n : Int)) s3) er) er
section
variable {K : PySem.W.Frag} {W : WX} {c : Str} {mf : AF} {te : TE} {aa : AE}
theorem refE_ownLen (ha : RefE K W te aa) : RefE K W (tLenO (He.ga K c) (SpA K mf) (fun σ c d H => W c d σ H) (tCons te tNil)) (aOwnLen c mf aa) := fun G env st σ H Q q er s l h tE tX => by
  refine ha G env st σ H _ _ er s l h (fun v d st1 G1 H1 p1 s1 r1 h1 => ?_) tX
  obtain ⟨h2, h4⟩ := h1
  obtain ⟨a, dx, fs, rfl, hp⟩ := isCls_at (r1.vw s1) h2
  refine ⟨a, dx, fs, rfl, hp, G1, st1, _, _, er, s1, .cons r1 .nil, h4, fun v r st3 G3 H3 p3 s3 r3 h5 => ?_, fun e c dx st3 G3 H3 p3 s3 ea h3 => tX e c dx st3 G3 H3 (p1.trans p3) s3 ea h3⟩
  obtain ⟨n, rfl, hn, h5⟩ := h5
  cases r3
  exact ⟨n, rfl, hn, tE _ _ st3 G3 H3 (p1.trans p3) s3 (.int _) h5⟩
end
section
variable {X : Cx} {W : WX} {k j : Nat} {f : Addr} {fd : FuncData} {ps : List Str} {mf : AF} {c : Str} {e : Expr} {ae : AE} {p pos : Pos}
theorem ax_ownLen (C : CxE X W k) (F : FnOk X.prog X.w X.K X.mg X.base (L2N.CX X.prog X.w) j f fd ps (SpA X.K mf)) (hb : BindsD X.K fd ps []) (hs : PySem.W.findIn X.K (.ref (He.ga X.K c)) "__len__" = some (some (.ref f))) (hfn : PySem.W.isFn X.K (.ref f) = true) (hm : X.mg "len" = none) (ha : AX X W e ae) (hj : j + 1 ≤ k) (hg : Gl X "len" := by rfl)
    (he : starEach [e] X.env = (false, eval e X.env) :: starEach [] X.env := by rfl) (hpl : (backTo pos (starEach [] X.env)).any (·.1) = false := by rfl) : AX X W (.Call (.Name "len" p) [e] [] pos) (aOwnLen c mf ae) := by
  obtain ⟨te, pe, re⟩ := ha
  obtain ⟨ds, hv, hb⟩ := hb
  cases hv
  exact ⟨_, pe_lenO (E := fun σ c d H => W c d σ H) F (C.room.mono hj) hs hfn hb (fun σ => L2N.passAt C.takes σ) hg hm (pa_cons pe pa_nil he) he hpl, refE_ownLen re⟩
end
end AM
set_option Elab.async false
set_option linter.all false
set_option maxRecDepth 100000
set_option maxHeartbeats 2000000
namespace AM
open PySem PySem.Spec PySem.Calls PyProof.Rows L2 Evl
/-! ### list(range(a, b)) -/
def fLRng2 (a b : AE) : AFr := fun env st q er => a env st (fun x s1 => b env s1 (fun y s2 => ∃ m n : Int, x = .int m ∧ y = .int n ∧ 0 ≤ m ∧ m ≤ 100000 ∧ 0 ≤ n ∧ n ≤ 100000 ∧ q ((List.range (n - m).toNat).map fun (i : Nat) => D.int (m + (i : Int))) s2) er) er
theorem reps_rg2 {K : PySem.W.Frag} {G : Gh} {m n : Int} : Reps K G ((List.range (n - m).toNat).map fun (i : Nat) => D.int (m + (i : Int))) (rgV m n) := by
  have e1 : ((List.range (n - m).toNat).map fun (i : Nat) => D.int (m + (i : Int))) = ((List.range (n - m).toNat).map fun (i : Nat) => m + (i : Int)).map D.int := by rw [List.map_map]; rfl
  have e2 : rgV m n = ((List.range (n - m).toNat).map fun (i : Nat) => m + (i : Int)).map V.int := by
    unfold rgV
    rw [List.map_map]
    rfl
  rw [e1, e2]
  exact Reps.ints _
section
variable {X : Cx} {W : WX} {k : Nat} {a b : Expr} {ae be : AE} {p p2 pos pos2 : Pos}
theorem axf_lrng2 (C : CxE X W k) (hm : X.mg "list" = none) (hmr : X.mg "range" = none) (h : AX X W a ae) (h' : AX X W b be) (hg : Gl X "list" := by rfl) (hgr : Gl X "range" := by rfl) (na : starEach [a, b] X.env = (false, eval a X.env) :: starEach [b] X.env := by rfl) (nb : starEach [b] X.env = (false, eval b X.env) :: starEach [] X.env := by rfl)
    (hp : (backTo pos2 (starEach [b] X.env)).any (·.1) = false := by rfl)
    (na2 : starEach [.Call (.Name "range" p2) [a, b] [] pos2] X.env = (false, eval (.Call (.Name "range" p2) [a, b] [] pos2) X.env) :: starEach [] X.env := by rfl) : AXF X W (.Call (.Name "list" p) [.Call (.Name "range" p2) [a, b] [] pos2] [] pos) (fLRng2 ae be) := by
  obtain ⟨t, pe, r⟩ := h
  obtain ⟨t', pe', r'⟩ := h'
  refine ⟨_, pe_listRg C.calm hg hm (prg_2 hgr hmr pe pe' na nb hp) na2, fun G env st σ H Q q er s l h tE tX => r G env st σ H _ _ er s l h (fun v d st1 G1 H1 p1 s1 r1 h1 => ?_) tX⟩
  refine r' G1 env st1 σ H1 _ _ er s1 (l.mono p1.le) h1 (fun w d2 st2 G2 H2 p2 s2 r2 h2 => ?_) (tX.on p1)
  obtain ⟨m, n, rfl, rfl, h0, h1, h2, h3, h4⟩ := h2
  cases r1
  cases r2
  refine ⟨m, n, rfl, rfl, RgOk.of_le (by omega) (by omega) (by omega) (by omega), fun a hp => ?_⟩
  obtain ⟨s3, p3, np, gp⟩ := s2.room (o := .lst (rgV m n)) hp
  exact tE _ _ st2 _ _ ((p1.trans p2).trans p3) s3 (ResOk.on (p1.trans p2) ⟨a, _, rfl, upd_same, gp, np, hp, reps_rg2⟩) h4
end
/-! ### x, *y = a list -/
def gStar (K : PySem.W.Frag) (i j : Nat) : TG := fun v σ H Q => ∃ a x xs, v = .ref a ∧ SqL K H a (x :: xs) ∧ ∀ p, H p = none → Q ((σ.set i (some x)).set j (some (.ref p))) (upd H p (.lst xs))
theorem pg_star {X : Cx} {k : Nat} {pos : Pos} {es es' : List Expr} {t : TGs} (hc : X.calm = true) (h : PGs X es' t)
    (hm : (assignEach es X.env).map (·.2) = (assignEach es' X.env).map (·.2) := by rfl) (hn : (assignEach es X.env).length = 2 := by rfl) (hst : (assignEach es X.env).findIdx? (·.1) = some 1 := by rfl) :
    PG X (.Tuple es k pos) (fun v σ H Q => ∃ a x xs, v = .ref a ∧ SqL X.K H a (x :: xs) ∧ ∀ p, H p = none → t [x, .ref p] σ (upd H p (.lst xs)) Q) := by
  refine ⟨fun pins s σ H v u Q I r hw => ?_⟩
  obtain ⟨a, x, xs, e1, hq, hw⟩ := hw
  subst e1
  cases r
  obtain ⟨its, rv, pl, hz⟩ := I.list hq
  cases rv with
  | @cons _ vx _ itr rx rr =>
    have hl : s.heap.IsList a (vx :: itr).toArray := pl.isList
    have hh : X.A.handled = none := I.ok.hd hc
    have hzz : itr.length + 1 ≤ sizeLine := by have := rr.length; rw [List.length_cons] at hz; omega
    rw [assign_Tuple]
    refine wpAny_bind (wpAny_standAt ?_)
    unfold unpack
    rw [hn, hst]
    refine wpAny_bind (wpAny_holding ?_)
    have hlt : a ≠ s.heap.objs.size := by obtain ⟨o, ho, _⟩ := hl; exact Nat.ne_of_lt (Heap.lt_size ho)
    unfold unpackItems
    refine wpAny_bind ?_
    unfold notIterableAtAll
    refine wpAny_bind (wpAny_specialOf hl.typeIs slot_list_iter.lookup ?_)
    refine wpAny_pure ?_
    simp only [Bool.false_eq_true, if_false]
    refine wpAny_bind (wpAny_holding (wpAny_pyIter_list hl ?_))
    refine wpAny_bind (wpAny_holding (PySem.W.kun_draw hlt 1 0 _ _ ⟨_, Heap.get?_push_size _ rfl, rfl, rfl⟩ (hl.push _) (by simp) fun h₁ hit₁ hs₁ => ?_))
    have hl₁ : h₁.IsList a (vx :: itr).toArray := (hl.push _).extBut hs₁.extBut hlt
    rw [Nat.zero_add] at hit₁
    have hit₁' := hit₁
    obtain ⟨oi, hoi, _⟩ := hit₁'
    have hl₁' := hl₁
    obtain ⟨ol, hol, _⟩ := hl₁'
    simp only [List.drop_zero, List.take_succ_cons, List.take_zero, List.length_cons, List.length_nil]
    rw [if_neg (by omega)]
    refine wpAny_bind (wpAny_holding (PySem.W.kun_collect (s := { s with heap := h₁ }) (T := "list_iterator") (.inr (.inr (.inl rfl))) (Walks.list (A := X.A.in1) hh s.heap.objs.size a hlt (vx :: itr).toArray) (fun j u st => st.1.typeIs) (k := 1) (by simp) ⟨hit₁, hl₁⟩ (Heap.lt_size hoi) (Heap.lt_size hol) (fun h₂ tk hk => ?_) (by simp; omega)))
    simp only [List.drop_succ_cons, List.drop_zero]
    rw [if_neg (by omega)]
    have he : ∀ b o, s.heap.get? b = some o → h₂.get? b = some o := fun b o e => by
      have hb := Nat.ne_of_lt (Heap.lt_size e)
      exact hk b o hb (hs₁.extBut b o hb (Heap.get?_push_of_some _ e))
    have I1 : Inv X pins σ H { s with heap := h₂, toks := tk } := I.kept he
    refine wpAny_bind (wpAny_newList ?_ (by simp; omega))
    refine wpAny_pure ?_
    have hf : H h₂.objs.size = none := I1.hok.fresh (Nat.le_refl _)
    have I2 : Inv X pins σ (upd H h₂.objs.size (.lst xs)) { s with heap := h₂.push { cls := .type "list", data := .seq itr.toArray }, toks := tk } :=
      I1.laid (t' := tk) (fun c o e => Heap.get?_push_of_some _ e) (Nat.le_refl _) (show ObjOk X.prog X.w _ _ _ (.lst xs) from ⟨by rw [rr.length]; omega, itr, 0, rr, Heap.get?_push_size _ rfl⟩)
    rw [hm]
    have := h.run pins _ σ _ [x, .ref h₂.objs.size] [vx, .ref h₂.objs.size] Q I2 (.cons rx (.cons rfl .nil)) (hw _ hf)
    simpa using this
def sUnp1 (i j : Nat) (a : AE) : AS := fun env st k => a env st (fun d s1 => ∃ x t, vw s1 d = .lst (x :: t) ∧ k.nx ((env.set i (.d x)).set j (.d (.lst t))) s1) (fun e s1 => k.er e env s1)
section
variable {X : Cx} {W : WX} {k : Nat}
theorem axs_unp1 {i j kk : Nat} {x y : Str} {e : Expr} {ae : AE} {p1 p2 p3 p4 pos : Pos} (C : CxE X W k) (h : AX X W e ae) (hi : X.N[i]? = some x := by rfl) (hj : X.N[j]? = some y := by rfl)
    (hx : Loc X.env.scope x := by first | exact Or.inl rfl | exact Or.inr rfl) (hy : Loc X.env.scope y := by first | exact Or.inl rfl | exact Or.inr rfl)
    (hfx : X.fn x = true ∨ X.env.scope.names.lookup x = some .local := by first | exact .inl rfl | exact .inr rfl) (hfy : X.fn y = true ∨ X.env.scope.names.lookup y = some .local := by first | exact .inl rfl | exact .inr rfl)
    (hm : (assignEach [.Name x p1, .Starred (.Name y p2) p3] X.env).map (·.2) = (assignEach [.Name x p1, .Name y p2] X.env).map (·.2) := by rfl)
    (hn : (assignEach [.Name x p1, .Starred (.Name y p2) p3] X.env).length = 2 := by rfl) (hst : (assignEach [.Name x p1, .Starred (.Name y p2) p3] X.env).findIdx? (·.1) = some 1 := by rfl)
    (hs : swapsWithSole [.Tuple [.Name x p1, .Starred (.Name y p2) p3] kk p4] e pos.line X.env = pure false := by rfl) (hw : swappedStores [.Tuple [.Name x p1, .Starred (.Name y p2) p3] kk p4] e X.env = pure none := by rfl) :
    AXS X W (.Assign [.Tuple [.Name x p1, .Starred (.Name y p2) p3] kk p4] e pos) (sUnp1 i j ae) := by
  obtain ⟨t, pe, r⟩ := h
  refine ⟨_, ps_asg pe (pg_star C.calm (pgs_cons (pg_name C.nd hi hx hfx) (pgs_cons (pg_name C.nd hj hy hfy) pgs_nil)) hm hn hst) hs hw, fun G env st σ H D k s l h t => ?_⟩
  refine r G env st σ H _ _ _ s l h (fun v d st1 G1 H1 p1 s1 r1 h1 => ?_) (t.x l)
  obtain ⟨a, b, hv, h1⟩ := h1
  have rv := r1.vw s1
  rw [hv] at rv
  cases rv with
  | lst hp rs =>
    cases rs with
    | cons ra rb =>
      rename_i pp va vb
      refine ⟨pp, va, vb, rfl, SqL.of hp, fun p hp' => ?_⟩
      obtain ⟨s2, p2⟩ := s1.new (o := .lst vb) hp'
      exact ⟨_, _, rfl, _, _, rfl, rfl, t.nx _ _ _ _ _ (p1.trans p2) s2 (((l.mono (p1.trans p2).le).set i (ra.mono p2.le)).set j (.lst upd_same (rb.mono p2.le))) h1⟩
end
end AM
set_option Elab.async false
set_option linter.all false
set_option maxRecDepth 100000
set_option maxHeartbeats 4000000
namespace AM
open PySem PySem.Spec PyProof.Rows L2 Evl
/-! ### min of a list or of a tuple -/
section
variable {prog : Program} {w : World} {A : Around} {E : Value → Shared → Prop} {s : Shared} {l : Addr} {xs : Array (Int × Tok)}
theorem min_intTup {Q : Value → Shared → Prop} (hh : A.handled = none) (hl : s.heap.IsTuple l (intItems xs)) (hne : 0 < xs.size)
    (h : ∀ v h' tk, (intItems xs)[argBest (fun i j => decide (numAt xs i < numAt xs j)) (xs.size - 1)]? = some v → (∀ b o, s.heap.get? b = some o → h'.get? b = some o) → Q v { s with heap := h', toks := tk }) :
    wpAny (model prog w) A (call (.builtin "min") [.ref l]) Q E s := by
  have hl0 : l < s.heap.objs.size := by obtain ⟨o, ho, _⟩ := id hl; exact Heap.lt_size ho
  refine call_min_walk (wpAny_pyIter_tuple hl ?_)
  refine ⟨s.heap.objs.size, [_, l], [_], _, _, _, _, rfl, Walks.tuple (A := A.in1) hh _ l (Nat.ne_of_lt hl0) (intItems xs),
    ⟨⟨_, Heap.get?_push_size _ rfl, rfl, rfl⟩, hl.push _⟩, fun c hc => ?_, by simpa [intItems] using hne, CmpOf.ints_lt (numAt xs) (fun _ _ => intItems_at), fun v h' tk hP hk => ?_⟩
  · show c < (s.heap.push _).objs.size
    rw [Heap.size_push]
    rcases List.mem_cons.mp hc with rfl | hc
    · exact Nat.lt_succ_self _
    · rcases List.mem_cons.mp hc with rfl | hc
      · exact Nat.lt_succ_of_lt hl0
      · cases hc
  · refine h v h' tk (by simpa [intItems] using hP) fun b o e => ?_
    refine hk b o (fun hm => ?_) (Heap.get?_push_of_some _ e)
    rcases List.mem_cons.mp hm with e1 | hm
    · exact absurd (e1 ▸ Heap.lt_size e) (Nat.lt_irrefl _)
    · cases hm
theorem minT_raw {its : List Value} {ns : List Int} {Q : Value → Shared → Prop} (hh : A.handled = none) (hl : s.heap.IsTuple l its.toArray) (hi : IntsAre its ns) (hne : 0 < ns.length)
    (h : ∀ h' tk M t', (∀ b o, s.heap.get? b = some o → h'.get? b = some o) → M ∈ ns → (∀ a, a ∈ ns → M ≤ a) → Q (.int M t') { s with heap := h', toks := tk }) : wpAny (model prog w) A (call (.builtin "min") [.ref l]) Q E s := by
  obtain ⟨xs, e⟩ := hi.allInts.items
  have hn : numsOf (intItems xs).toList = ns := by rw [← e]; exact hi.numsOf
  rw [nums_intItems] at hn
  subst hn
  rw [e] at hl
  have hsz : 0 < xs.size := by simpa using hne
  refine min_intTup hh hl hsz fun v h' tk hv hk => ?_
  obtain ⟨t, rfl⟩ := intItems_at hv
  obtain ⟨h1, h2⟩ := argBest_lt (numAt xs) (xs.size - 1)
  refine h h' tk _ t hk ?_ fun a ha => ?_
  · rw [numAt_eq]; exact PySem.getD_mem (by rw [List.length_map, Array.length_toList]; omega)
  · obtain ⟨j, hj, rfl⟩ := mem_getD ha
    rw [List.length_map, Array.length_toList] at hj
    rw [← numAt_eq]; exact h2 j (by omega)
end
section
variable {X : Cx} {W : WX} {k : Nat}
def rMinT (K : PySem.W.Frag) : List V → Hp → VK → Prop := fun vs H Q => rMin K vs H Q ∨ ∃ (a : Addr) (ns : List Int), vs = [V.ref a] ∧ SqT K H a (ns.map V.int) ∧ 0 < ns.length ∧ ∀ m, m ∈ ns → (∀ y, y ∈ ns → m ≤ y) → Q (.int m) H
theorem cr_minT (hc : X.calm = true) : CallR X (.builtin "min") (rMinT X.K) := by
  intro pins s σ H vs us Q I r h
  rcases h with h | ⟨a, ns, rfl, hs, hne, q⟩
  · exact cr_min hc pins s σ H vs us Q I r h
  · obtain ⟨its, rv, hl, _⟩ := I.tuple hs
    have hl' : s.heap.IsTuple a its.toArray := hl
    have hi : IntsAre its ns := rv.ints
    rw [Vals.ref1 r]
    exact minT_raw (I.ok.hd hc) hl' hi hne fun h' tk m t' hk h1 h2 => ⟨.int _, H, I.kept hk, ⟨_, rfl⟩, q m h1 h2⟩
def bMinA : ON := fun xs q => match xs with
  | [.tup l] => ∃ ns : List Int, l = ns.map D.int ∧ 0 < ns.length ∧ ∀ m, m ∈ ns → (∀ y, y ∈ ns → m ≤ y) → q (.int m)
  | _ => bMin1 xs q
theorem cb_minA (C : CxE X W k) : CB X (.builtin "min") bMinA := ⟨_, cr_minT C.calm, fun G st H xs ds Q q s r h t => by
  unfold bMinA at h
  split at h
  · obtain ⟨bs, eb, hp, h⟩ := h
    subst eb
    cases r with
    | cons r1 r2 =>
      cases r2
      cases r1 with
      | tup h1 r1 _ =>
        have := ints_ok r1
        subst this
        exact .inr ⟨_, bs, rfl, SqT.of h1, hp, fun m hm hy => t.here s (.int _) (h m hm hy)⟩
  · obtain ⟨bs, eb, hp, h⟩ := h
    subst eb
    cases r with
    | cons r1 r2 =>
      cases r2
      cases r1 with
      | lst h1 r1 =>
        have := ints_ok r1
        subst this
        exact .inl ⟨_, bs, rfl, SqL.of h1, hp, fun m hm hy => t.here s (.int _) (h m hm hy)⟩⟩
@[simp ↓] theorem ev_bMinA_l {l : List D} {q : D → Prop} : bMinA [.lst l] q = bMin1 [.lst l] q := propext Iff.rfl
@[simp ↓] theorem ev_bMinA_t {l : List D} {q : D → Prop} : bMinA [.tup l] q = ∃ ns : List Int, l = ns.map D.int ∧ 0 < ns.length ∧ ∀ m, m ∈ ns → (∀ y, y ∈ ns → m ≤ y) → q (.int m) := propext Iff.rfl
end
/-! ### a, b = a list or a tuple -/
section
variable {X : Cx} {pos : Pos}
def gSeqT (K : PySem.W.Frag) (n : Nat) (t : TGs) : TG := fun v σ H Q => ∃ a xs, v = .ref a ∧ (SqT K H a xs ∨ SqL K H a xs) ∧ xs.length = n ∧ t xs σ H Q
theorem pg_seq {es : List Expr} {k : Nat} {t : TGs} {n : Nat} (hc : X.calm = true) (h : PGs X es t)
    (hn : (assignEach es X.env).length = n := by rfl) (hst : (assignEach es X.env).findIdx? (·.1) = none := by rfl) : PG X (.Tuple es k pos) (gSeqT X.K n t) := by
  refine ⟨fun pins s σ H v u Q I r hw => ?_⟩
  obtain ⟨a, xs, e1, hq, hl, hw⟩ := hw
  rcases hq with hq | hq
  · exact (pg_tup (pos := pos) (k := k) hc h hn hst).run pins s σ H v u Q I r ⟨a, xs, e1, hq, hl, hw⟩
  subst e1
  cases r
  obtain ⟨its, rv, pl, hz⟩ := I.list hq
  have hls : s.heap.IsList a its.toArray := pl.isList
  have hh : X.A.handled = none := I.ok.hd hc
  have hsz : (assignEach es X.env).length = its.toArray.size := by simp [hn, ← hl, rv.length]
  rw [assign_Tuple]
  refine wpAny_bind (wpAny_standAt ?_)
  unfold unpack
  rw [hsz, hst]
  refine wpAny_bind (wpAny_holding (PySem.W.kun_itemsOf hh hls fun h' hx => ?_))
  have I1 : Inv X pins σ H { s with heap := h' } := I.kept (t' := s.toks) fun b o e => hx b o (Nat.ne_of_lt (Heap.lt_size e)) e
  exact h.run pins _ σ H xs _ Q I1 (by simpa using rv) hw
def agSeq (n : Nat) (g : AGs) : AG := fun d env st q => match d with
  | .tup ds => ds.length = n ∧ g ds env st q
  | .lst ds => ds.length = n ∧ g ds env st q
  | _ => False
theorem refG_seq {K : PySem.W.Frag} {gs : TGs} {ags : AGs} {n : Nat} (h : RefGs K gs ags) : RefG K (gSeqT K n gs) (agSeq n ags) := fun G env st σ H d v Q q s l r h1 t => by
  cases r with
  | tup hs rs => exact ⟨_, _, rfl, .inl (SqT.of (s.ex _ _ hs)), by rw [← rs.length]; exact h1.1, h G env st σ H _ _ Q q s l rs h1.2 t⟩
  | lst hs rs => exact ⟨_, _, rfl, .inr (SqL.of (s.ex _ _ hs)), by rw [← rs.length]; exact h1.1, h G env st σ H _ _ Q q s l rs h1.2 t⟩
  | _ => exact h1.elim
theorem axg_seq {es : List Expr} {ags : AGs} {k n : Nat} (hc : X.calm = true) (h : AXGs X es ags) (hn : (assignEach es X.env).length = n := by rfl) (hst : (assignEach es X.env).findIdx? (·.1) = none := by rfl) : AXG X (.Tuple es k pos) (agSeq n ags) := by
  obtain ⟨g, p, r⟩ := h
  exact ⟨_, pg_seq hc p hn hst, refG_seq r⟩
@[simp ↓] theorem ev_agSeq_t {n : Nat} {g : AGs} {ds : List D} {env : List A} {st : S} {z : List A → Prop} : agSeq n g (.tup ds) env st z = (ds.length = n ∧ g ds env st z) := propext Iff.rfl
@[simp ↓] theorem ev_agSeq_l {n : Nat} {g : AGs} {ds : List D} {env : List A} {st : S} {z : List A → Prop} : agSeq n g (.lst ds) env st z = (ds.length = n ∧ g ds env st z) := propext Iff.rfl
end
end AM
set_option Elab.async false
set_option linter.all false
set_option maxRecDepth 100000
set_option maxHeartbeats 4000000
namespace AM
open PySem L2
/-! ### the readings, as they run (each applied in full, from the outside) -/
section
variable {env : List A} {st : S} {q : D → S → Prop} {qt : Bool → S → Prop} {ql : List D → S → Prop} {er : QX} {k : AK} {a b c : AE} {as : AEs} {s u : AS} {t v : AT} {g : AG} {gs : AGs} {f f2 : O2} {i j : Nat} {d : D} {x y : D} {xs : List D} {it it1 : AI} {qi : List D → Gd → S → Prop} {af bf : AFr} {z : List A → Prop} {o : O1} {fn : ON} {vs vs1 : List Nat} {gd : Gd} {g1 : AG} {t1 : AT} {m : AF} {dd : List D} {ix : List Nat}
end
def bq (x : D) (p : Bool → Prop) : Prop := ∃ c, x = .bl c ∧ p c
def tsQ (q : Bool → S → Prop) (x : D) (s : S) : Prop := ∃ b, x = .bl b ∧ q b s
def trQ (q : Bool → S → Prop) (x : D) (s : S) : Prop := ∃ b, truthD (vw s x) = some b ∧ q b s
def rsQ (q : D → S → Prop) (r : Rs) (s : S) : Prop := match r with
  | .d d => q d s
  | .own l => q (.lst l) s
  | .ownD l => q (.dic l) s
def rsG (q : List (D × D) → S → Prop) (r : Rs) (s : S) : Prop := match r with
  | .ownD l => q l s
  | _ => False
def rsF (q : List D → S → Prop) (r : Rs) (s : S) : Prop := match r with
  | .own l => q l s
  | _ => False
def parQ (i j : Nat) (env : List A) (k : AK) (ds : List D) (s1 : S) : Prop := match ds with
  | [x, y] => k.nx ((env.set i (.d x)).set j (.d y)) s1
  | _ => False
def rngQ (q : List D → Gd → S → Prop) (d : D) (s1 : S) : Prop := match d with
  | .int j => (-(2 ^ 62) ≤ j ∧ j < 2 ^ 62) ∧ q ((List.range j.toNat).map fun (i : Nat) => D.int (i : Int)) [] s1
  | _ => False
def rngQ2 (q : List D → Gd → S → Prop) (d d2 : D) (s2 : S) : Prop := match d, d2 with
  | .int i, .int j => (-(2 ^ 62) ≤ i ∧ i < 2 ^ 62 ∧ -(2 ^ 62) ≤ j ∧ j < 2 ^ 62) ∧ q ((List.range (j - i).toNat).map fun (n : Nat) => D.int (i + (n : Int))) [] s2
  | _, _ => False
def setQ (env : List A) (k : AK) (d x j : D) (s3 : S) : Prop := match x, j with
  | .ref n, .int i => ∃ l j, s3[n]? = some (.lst l) ∧ ixN l.length i = some j ∧ k.nx env (s3.set n (.lst (l.set j d)))
  | _, _ => False
section
variable {env : List A} {st : S} {q : D → S → Prop} {qt : Bool → S → Prop} {ql : List D → S → Prop} {er : QX} {k : AK} {a b c : AE} {as : AEs} {s u : AS} {t v : AT} {g : AG} {gs : AGs} {f f2 : O2} {i j : Nat} {d : D} {x y : D} {xs : List D} {it it1 : AI} {qi : List D → Gd → S → Prop} {af bf : AFr} {z : List A → Prop} {o : O1} {fn : ON} {vs vs1 : List Nat} {gd : Gd} {g1 : AG} {t1 : AT} {m : AF} {dd : List D} {ix : List Nat}
@[simp] theorem bq_bl {h : Bool} {p : Bool → Prop} : bq (.bl h) p = p h := propext ⟨fun ⟨_, e, w⟩ => by cases e; exact w, fun w => ⟨_, rfl, w⟩⟩
@[simp] theorem tsQ_bl {h : Bool} : tsQ qt (.bl h) st = qt h st := propext ⟨fun ⟨_, e, w⟩ => by cases e; exact w, fun w => ⟨_, rfl, w⟩⟩
theorem trQ_of {h : Bool} (e : truthD (vw st x) = some h) : trQ qt x st = qt h st := propext ⟨fun ⟨_, e2, w⟩ => by rw [e] at e2; cases e2; exact w, fun w => ⟨_, e, w⟩⟩
@[simp] theorem trQ_bl {h : Bool} : trQ qt (.bl h) st = qt h st := trQ_of rfl
@[simp] theorem trQ_int {h : Int} : trQ qt (.int h) st = qt (h != 0) st := trQ_of rfl
@[simp] theorem trQ_non : trQ qt .non st = qt false st := trQ_of rfl
@[simp] theorem trQ_lst {l : List D} : trQ qt (.lst l) st = qt (!l.isEmpty) st := trQ_of rfl
@[simp] theorem trQ_tup {l : List D} : trQ qt (.tup l) st = qt (!l.isEmpty) st := trQ_of rfl
theorem trQ_ref {n : Nat} {l : List D} (e : st[n]? = some (.lst l)) : trQ qt (.ref n) st = qt (!l.isEmpty) st := trQ_of (by unfold vw; simp only [e]; rfl)
@[simp] theorem rsQ_d : rsQ q (.d x) st = q x st := propext Iff.rfl
@[simp] theorem rsQ_own : rsQ q (.own xs) st = q (.lst xs) st := propext Iff.rfl
@[simp] theorem rsF_own : rsF ql (.own xs) st = ql xs st := propext Iff.rfl
@[simp] theorem rsQ_ownD {xs : List (D × D)} : rsQ q (.ownD xs) st = q (.dic xs) st := propext Iff.rfl
@[simp] theorem rsG_ownD {xs : List (D × D)} {qd : List (D × D) → S → Prop} : rsG qd (.ownD xs) st = qd xs st := propext Iff.rfl
@[simp ↓] theorem ev_fdCall {qd : List (D × D) → S → Prop} : fdCall m as dd env st qd er = as env st (fun ds s1 => m (ds ++ dd) s1 (rsG qd) er) er := propext Iff.rfl
@[simp] theorem parQ_2 : parQ i j env k [x, y] st = k.nx ((env.set i (.d x)).set j (.d y)) st := propext Iff.rfl
@[simp] theorem rngQ_int {n : Int} : rngQ qi (.int n) st = ((-(2 ^ 62) ≤ n ∧ n < 2 ^ 62) ∧ qi ((List.range n.toNat).map fun (i : Nat) => D.int (i : Int)) [] st) := propext Iff.rfl
@[simp] theorem rngQ2_int {n h : Int} : rngQ2 qi (.int n) (.int h) st = ((-(2 ^ 62) ≤ n ∧ n < 2 ^ 62 ∧ -(2 ^ 62) ≤ h ∧ h < 2 ^ 62) ∧ qi ((List.range (h - n).toNat).map fun (i : Nat) => D.int (n + (i : Int))) [] st) := propext Iff.rfl
@[simp] theorem setQ_int {n : Nat} {h : Int} : setQ env k d (.ref n) (.int h) st = ∃ l j, st[n]? = some (.lst l) ∧ ixN l.length h = some j ∧ k.nx env (st.set n (.lst (l.set j d))) := propext Iff.rfl
@[simp ↓] theorem ev_aC  : aC d env st q er = q d st := propext Iff.rfl
@[simp ↓] theorem ev_aVar  : env[i]? = some (.d x) → aVar i env st q er = q x st := by intro h; unfold aVar; rw [h]
@[simp ↓] theorem ev_aOp  : aOp f a b env st q er = a env st (fun x s1 => b env s1 (fun y s2 => f (vw s2 x) (vw s2 y) fun z => q z s2) er) er := propext Iff.rfl
@[simp ↓] theorem ev_aChain  : aChain f f2 a b c env st q er = a env st (fun x s1 => b env s1 (fun y s2 => f (vw s2 x) (vw s2 y) fun z => bq z fun k => if k = true then c env s2 (fun w s3 => f2 (vw s3 y) (vw s3 w) fun z => q z s3) er else q (.bl false) s2) er) er := propext Iff.rfl
@[simp ↓] theorem ev_aUn  : aUn o a env st q er = a env st (fun x s1 => o (vw s1 x) fun z => q z s1) er := propext Iff.rfl
@[simp ↓] theorem ev_aIf  : aIf t a b env st q er = t env st (fun c s1 => if c = true then a env s1 q er else b env s1 q er) er := propext Iff.rfl
@[simp ↓] theorem ev_aTest  : aTest a env st qt er = a env st (tsQ qt) er := propext Iff.rfl
@[simp ↓] theorem ev_aTruth  : aTruth a env st qt er = a env st (trQ qt) er := propext Iff.rfl
@[simp ↓] theorem ev_aAnd  : aAnd t v env st qt er = t env st (fun c s1 => if c = true then v env s1 qt er else qt false s1) er := propext Iff.rfl
@[simp ↓] theorem ev_aOr  : aOr t v env st qt er = t env st (fun c s1 => if c = true then qt true s1 else v env s1 qt er) er := propext Iff.rfl
@[simp ↓] theorem ev_aNot  : aNot t env st qt er = t env st (fun c s1 => qt (!c) s1) er := propext Iff.rfl
@[simp ↓] theorem ev_aYes  : aYes env st qt er = qt true st := propext Iff.rfl
@[simp ↓] theorem ev_aAndV  : aAndV a b env st q er = a env st (fun x s1 => bq x fun c => if c = true then b env s1 q er else q (.bl false) s1) er := propext Iff.rfl
@[simp ↓] theorem ev_aOrV  : aOrV a b env st q er = a env st (fun x s1 => bq x fun c => if c = true then q (.bl true) s1 else b env s1 q er) er := propext Iff.rfl
@[simp ↓] theorem ev_aNotV  : aNotV a env st q er = a env st (fun x s1 => bq x fun c => q (.bl (!c)) s1) er := propext Iff.rfl
@[simp ↓] theorem ev_aNil  : aNil env st ql er = ql [] st := propext Iff.rfl
@[simp ↓] theorem ev_aCons  : aCons a as env st ql er = a env st (fun x s1 => as env s1 (fun xs s2 => ql (x :: xs) s2) er) er := propext Iff.rfl
@[simp ↓] theorem ev_aLst  : aLst as env st q er = as env st (fun xs s1 => xs.length ≤ 100000 ∧ q (.lst xs) s1) er := propext Iff.rfl
@[simp ↓] theorem ev_aTup  : aTup as env st q er = as env st (fun xs s1 => xs.length ≤ 100000 ∧ q (.tup xs) s1) er := propext Iff.rfl
@[simp ↓] theorem ev_aB  : aB fn as env st q er = as env st (fun xs s1 => fn (xs.map (vw s1)) fun z => q z s1) er := propext Iff.rfl
@[simp ↓] theorem ev_aFr  : aFr af env st q er = af env st (fun l s1 => q (.lst l) s1) er := propext Iff.rfl
@[simp ↓] theorem ev_aCall  : aCall m as dd env st q er = as env st (fun ds s1 => m (ds ++ dd) s1 (rsQ q) er) er := propext Iff.rfl
@[simp ↓] theorem ev_fCall  : fCall m as dd env st ql er = as env st (fun ds s1 => m (ds ++ dd) s1 (rsF ql) er) er := propext Iff.rfl
@[simp ↓] theorem ev_aCallK  : aCallK i m ix as env st q er = as env st (fun ds s1 => ds.length = i ∧ m (pick ix ds) s1 (rsQ q) er) er := propext Iff.rfl
@[simp ↓] theorem ev_fLc  : fLc it g t a vs env st ql er = it env st (fun ds gd s1 => aLcL gd g t a (wA vs env) ql ds [] s1) er := propext Iff.rfl
@[simp ↓] theorem ev_fLc2  : fLc2 it g t it1 g1 t1 a vs vs1 env st ql er = it env st (fun ds gd s1 => aLc2L gd g t it1 g1 t1 a vs1 (wA vs env) ql ds [] s1) er := propext Iff.rfl
@[simp ↓] theorem ev_fLst  : fLst as env st ql er = as env st (fun xs s1 => xs.length ≤ 100000 ∧ ql xs s1) er := propext Iff.rfl
@[simp ↓] theorem ev_fList  : fList a env st ql er = a env st (fun d s1 => ∃ l, itemsD (vw s1 d) = some l ∧ ql l s1) er := propext Iff.rfl
@[simp ↓] theorem ev_fIf  : fIf t af bf env st ql er = t env st (fun c s1 => if c = true then af env s1 ql er else bf env s1 ql er) er := propext Iff.rfl
@[simp ↓] theorem ev_agName  : agName i d env st z = z (env.set i (.d d)) := propext Iff.rfl
@[simp ↓] theorem ev_agNil  : agNil xs env st z = (xs = [] ∧ z env) := propext Iff.rfl
@[simp ↓] theorem ev_agCons  : agCons g gs (d :: xs) env st z = g d env st fun env2 => gs xs env2 st z := propext Iff.rfl
@[simp ↓] theorem ev_agTup  : agTup i gs (.tup xs) env st z = (xs.length = i ∧ gs xs env st z) := propext Iff.rfl
@[simp ↓] theorem ev_sNext  : sNext env st k = k.nx env st := propext Iff.rfl
@[simp ↓] theorem ev_sSeq  : sSeq s u env st k = s env st { k with nx := fun env2 st2 => u env2 st2 k } := propext Iff.rfl
@[simp ↓] theorem ev_sBreak  : sBreak env st k = k.bk env st := propext Iff.rfl
@[simp ↓] theorem ev_sCont  : sCont env st k = k.ct env st := propext Iff.rfl
@[simp ↓] theorem ev_sDrop  : sDrop a env st k = a env st (fun _ s1 => k.nx env s1) (fun e s1 => k.er e env s1) := propext Iff.rfl
@[simp ↓] theorem ev_sRet  : sRet a env st k = a env st (fun d s1 => k.rt (.d d) s1) (fun e s1 => k.er e env s1) := propext Iff.rfl
@[simp ↓] theorem ev_sRetN  : sRetN env st k = k.rt (.d .non) st := propext Iff.rfl
@[simp ↓] theorem ev_sRetF  : sRetF af env st k = af env st (fun l s1 => k.rt (.own l) s1) (fun e s1 => k.er e env s1) := propext Iff.rfl
@[simp ↓] theorem ev_sIf  : sIf t s u env st k = t env st (fun c s1 => if c = true then s env s1 k else u env s1 k) (fun e s1 => k.er e env s1) := propext Iff.rfl
@[simp ↓] theorem ev_sAsg  : sAsg a g env st k = a env st (fun d s1 => g d env s1 fun env2 => k.nx env2 s1) (fun e s1 => k.er e env s1) := propext Iff.rfl
@[simp ↓] theorem ev_sCell  : sCell af i env st k = af env st (fun l s1 => k.nx (env.set i (.d (.ref s1.length))) (s1 ++ [.lst l])) (fun e s1 => k.er e env s1) := propext Iff.rfl
@[simp ↓] theorem ev_sPar  : sPar i j as env st k = as env st (parQ i j env k) (fun e s1 => k.er e env s1) := propext Iff.rfl
@[simp ↓] theorem ev_sAug  : sAug i f a env st k = ∃ x, env[i]? = some (.d x) ∧ a env st (fun y s1 => f (vw s1 x) (vw s1 y) fun z => k.nx (env.set i (.d z)) s1) (fun e s1 => k.er e env s1) := propext Iff.rfl
@[simp ↓] theorem ev_sFor  : sFor it g s env st k = it env st (fun ds gd s1 => sForL gd g s ds env s1 k) (fun e s1 => k.er e env s1) := propext Iff.rfl
@[simp ↓] theorem ev_aIter  : aIter a env st qi er = a env st (fun d s1 => ∃ l, itemsD (vw s1 d) = some l ∧ qi l (gdOf s1 d) s1) er := propext Iff.rfl
@[simp ↓] theorem ev_aRng1  : aRng1 a env st qi er = a env st (rngQ qi) er := propext Iff.rfl
@[simp ↓] theorem ev_aRng2  : aRng2 a b env st qi er = a env st (fun d s1 => b env s1 (rngQ2 qi d) er) er := propext Iff.rfl
@[simp ↓] theorem ev_aApp  : aApp a b env st q er = a env st (fun x s1 => ∃ n l, x = .ref n ∧ s1[n]? = some (.lst l) ∧ b env s1 (fun y s2 => ∃ l, s2[n]? = some (.lst l) ∧ l.length < 100000 ∧ q .non (s2.set n (.lst (l ++ [y])))) er) er := propext Iff.rfl
@[simp ↓] theorem ev_sSetIx  : sSetIx b c a env st k = a env st (fun d s1 => b env s1 (fun x s2 => c env s2 (setQ env k d x) (fun e s => k.er e env s)) (fun e s => k.er e env s)) (fun e s => k.er e env s) := propext Iff.rfl
@[simp ↓] theorem ev_sFrz  : sFrz i s env st k = ∃ n l, env[i]? = some (.d (.ref n)) ∧ st[n]? = some (.lst l) ∧ s (env.set i (.d (.lst l))) (st.set n .dead) k := propext Iff.rfl
@[simp ↓] theorem ev_sForget  : sForget i s env st k = s (env.set i .no) st k := propext Iff.rfl
@[simp ↓] theorem ev_sRaise0 {c : Str} : sRaise0 c env st k = k.er ⟨c, none⟩ env st := propext Iff.rfl
@[simp ↓] theorem ev_sRaise1 {c h : Str} : sRaise1 c h a env st k = a env st (fun d s1 => k.er ⟨c, some (h, d)⟩ env s1) (fun e s1 => k.er e env s1) := propext Iff.rfl
@[simp ↓] theorem ev_oI {i j : Int} {q : D → Prop} {gg : Int → Int → D} : oI gg (.int i) (.int j) q = q (gg i j) := propext Iff.rfl
@[simp ↓] theorem ev_oIC {i j : Int} {q : D → Prop} {cc : Int → Int → Prop} {gg : Int → Int → D} : oIC cc gg (.int i) (.int j) q = (cc i j ∧ q (gg i j)) := propext Iff.rfl
@[simp ↓] theorem ev_oNeg {i : Int} {q : D → Prop}  : oNeg (.int i) q = q (.int (-i)) := propext Iff.rfl
@[simp ↓] theorem ev_oAddI {i j : Int} {q : D → Prop}  : oAdd (.int i) (.int j) q = q (.int (i + j)) := propext Iff.rfl
@[simp ↓] theorem ev_oAddL {l r : List D} {q : D → Prop}  : oAdd (.lst l) (.lst r) q = (l.length + r.length ≤ 100000 ∧ q (.lst (l ++ r))) := propext Iff.rfl
@[simp ↓] theorem ev_oAddT {l r : List D} {q : D → Prop}  : oAdd (.tup l) (.tup r) q = (l.length + r.length ≤ 100000 ∧ q (.tup (l ++ r))) := propext Iff.rfl
@[simp ↓] theorem ev_oIxL {l : List D} {i : Int} {q : D → Prop}  : oIx (.lst l) (.int i) q = ∃ d, atI l i = some d ∧ q d := propext Iff.rfl
@[simp ↓] theorem ev_oIxT {l : List D} {i : Int} {q : D → Prop}  : oIx (.tup l) (.int i) q = ∃ d, atI l i = some d ∧ q d := propext Iff.rfl
@[simp ↓] theorem ev_bInt {i : Int} {q : D → Prop}  : bInt [.int i] q = q (.int i) := propext Iff.rfl
@[simp ↓] theorem ev_bIntB {i : Bool} {q : D → Prop}  : bInt [.bl i] q = q (.int (if i then 1 else 0)) := propext Iff.rfl
@[simp ↓] theorem ev_bAbs {i : Int} {q : D → Prop}  : bAbs [.int i] q = q (.int (if i < 0 then -i else i)) := propext Iff.rfl
@[simp ↓] theorem ev_bMax2 {i j : Int} {q : D → Prop}  : bMax2 [.int i, .int j] q = q (.int (if j > i then j else i)) := propext Iff.rfl
@[simp ↓] theorem ev_bMin2 {i j : Int} {q : D → Prop}  : bMin2 [.int i, .int j] q = q (.int (if j < i then j else i)) := propext Iff.rfl
@[simp ↓] theorem ev_bLen {q : D → Prop}  : bLen [x] q = ∃ n, lenD x = some n ∧ q (.int n) := propext Iff.rfl
@[simp ↓] theorem ev_bList {q : D → Prop}  : bList [x] q = ∃ l, itemsD x = some l ∧ q (.lst l) := propext Iff.rfl
@[simp ↓] theorem ev_bTuple {q : D → Prop}  : bTuple [x] q = ∃ l, itemsD x = some l ∧ q (.tup l) := propext Iff.rfl
@[simp ↓] theorem ev_oEqI {i j : Int} {q : D → Prop} : oEq (.int i) (.int j) q = q (.bl (i == j)) := by
  unfold oEq D.shp
  simp [D.plain, D.dep, D.eqv]
@[simp ↓] theorem ev_oNeI {i j : Int} {q : D → Prop} : oNe (.int i) (.int j) q = q (.bl (!(i == j))) := by
  unfold oNe D.shp
  simp [D.plain, D.dep, D.eqv]
@[simp ↓] theorem isi_non_int  {q : D → Prop} : bIsi [.non, .ty "int"] q = q (.bl false) := propext ⟨fun ⟨_, _, e1, e2, w⟩ => by cases e1; rw [show kitB "NoneType" "int" = some false from by decide +kernel] at e2; cases e2; exact w, fun w => ⟨_, _, rfl, by decide +kernel, w⟩⟩
@[simp ↓] theorem isi_non_bool  {q : D → Prop} : bIsi [.non, .ty "bool"] q = q (.bl false) := propext ⟨fun ⟨_, _, e1, e2, w⟩ => by cases e1; rw [show kitB "NoneType" "bool" = some false from by decide +kernel] at e2; cases e2; exact w, fun w => ⟨_, _, rfl, by decide +kernel, w⟩⟩
@[simp ↓] theorem isi_non_list  {q : D → Prop} : bIsi [.non, .ty "list"] q = q (.bl false) := propext ⟨fun ⟨_, _, e1, e2, w⟩ => by cases e1; rw [show kitB "NoneType" "list" = some false from by decide +kernel] at e2; cases e2; exact w, fun w => ⟨_, _, rfl, by decide +kernel, w⟩⟩
@[simp ↓] theorem isi_non_tuple  {q : D → Prop} : bIsi [.non, .ty "tuple"] q = q (.bl false) := propext ⟨fun ⟨_, _, e1, e2, w⟩ => by cases e1; rw [show kitB "NoneType" "tuple" = some false from by decide +kernel] at e2; cases e2; exact w, fun w => ⟨_, _, rfl, by decide +kernel, w⟩⟩
@[simp ↓] theorem isi_non_dict  {q : D → Prop} : bIsi [.non, .ty "dict"] q = q (.bl false) := propext ⟨fun ⟨_, _, e1, e2, w⟩ => by cases e1; rw [show kitB "NoneType" "dict" = some false from by decide +kernel] at e2; cases e2; exact w, fun w => ⟨_, _, rfl, by decide +kernel, w⟩⟩
@[simp ↓] theorem isi_non_str  {q : D → Prop} : bIsi [.non, .ty "str"] q = q (.bl false) := propext ⟨fun ⟨_, _, e1, e2, w⟩ => by cases e1; rw [show kitB "NoneType" "str" = some false from by decide +kernel] at e2; cases e2; exact w, fun w => ⟨_, _, rfl, by decide +kernel, w⟩⟩
@[simp ↓] theorem isi_non_lt  {q : D → Prop} : bIsi [.non, .tup [.ty "list", .ty "tuple"]] q = q (.bl false) := propext ⟨fun ⟨_, cs, _, e1, e2, e3, w⟩ => by
  cases e1
  match cs, e2 with
  | [_, _], e2 =>
    cases e2
    rw [show kitS "NoneType" ["list", "tuple"] = some false from by decide +kernel] at e3; cases e3; exact w, fun w => ⟨_, ["list", "tuple"], _, rfl, rfl, by decide +kernel, w⟩⟩
@[simp ↓] theorem isi_bl_int {h : Bool} {q : D → Prop} : bIsi [.bl h, .ty "int"] q = q (.bl true) := propext ⟨fun ⟨_, _, e1, e2, w⟩ => by cases e1; rw [show kitB "bool" "int" = some true from by decide +kernel] at e2; cases e2; exact w, fun w => ⟨_, _, rfl, by decide +kernel, w⟩⟩
@[simp ↓] theorem isi_bl_bool {h : Bool} {q : D → Prop} : bIsi [.bl h, .ty "bool"] q = q (.bl true) := propext ⟨fun ⟨_, _, e1, e2, w⟩ => by cases e1; rw [show kitB "bool" "bool" = some true from by decide +kernel] at e2; cases e2; exact w, fun w => ⟨_, _, rfl, by decide +kernel, w⟩⟩
@[simp ↓] theorem isi_bl_list {h : Bool} {q : D → Prop} : bIsi [.bl h, .ty "list"] q = q (.bl false) := propext ⟨fun ⟨_, _, e1, e2, w⟩ => by cases e1; rw [show kitB "bool" "list" = some false from by decide +kernel] at e2; cases e2; exact w, fun w => ⟨_, _, rfl, by decide +kernel, w⟩⟩
@[simp ↓] theorem isi_bl_tuple {h : Bool} {q : D → Prop} : bIsi [.bl h, .ty "tuple"] q = q (.bl false) := propext ⟨fun ⟨_, _, e1, e2, w⟩ => by cases e1; rw [show kitB "bool" "tuple" = some false from by decide +kernel] at e2; cases e2; exact w, fun w => ⟨_, _, rfl, by decide +kernel, w⟩⟩
@[simp ↓] theorem isi_bl_dict {h : Bool} {q : D → Prop} : bIsi [.bl h, .ty "dict"] q = q (.bl false) := propext ⟨fun ⟨_, _, e1, e2, w⟩ => by cases e1; rw [show kitB "bool" "dict" = some false from by decide +kernel] at e2; cases e2; exact w, fun w => ⟨_, _, rfl, by decide +kernel, w⟩⟩
@[simp ↓] theorem isi_bl_str {h : Bool} {q : D → Prop} : bIsi [.bl h, .ty "str"] q = q (.bl false) := propext ⟨fun ⟨_, _, e1, e2, w⟩ => by cases e1; rw [show kitB "bool" "str" = some false from by decide +kernel] at e2; cases e2; exact w, fun w => ⟨_, _, rfl, by decide +kernel, w⟩⟩
@[simp ↓] theorem isi_bl_lt {h : Bool} {q : D → Prop} : bIsi [.bl h, .tup [.ty "list", .ty "tuple"]] q = q (.bl false) := propext ⟨fun ⟨_, cs, _, e1, e2, e3, w⟩ => by
  cases e1
  match cs, e2 with
  | [_, _], e2 =>
    cases e2
    rw [show kitS "bool" ["list", "tuple"] = some false from by decide +kernel] at e3; cases e3; exact w, fun w => ⟨_, ["list", "tuple"], _, rfl, rfl, by decide +kernel, w⟩⟩
@[simp ↓] theorem isi_int_int {h : Int} {q : D → Prop} : bIsi [.int h, .ty "int"] q = q (.bl true) := propext ⟨fun ⟨_, _, e1, e2, w⟩ => by cases e1; rw [show kitB "int" "int" = some true from by decide +kernel] at e2; cases e2; exact w, fun w => ⟨_, _, rfl, by decide +kernel, w⟩⟩
@[simp ↓] theorem isi_int_bool {h : Int} {q : D → Prop} : bIsi [.int h, .ty "bool"] q = q (.bl false) := propext ⟨fun ⟨_, _, e1, e2, w⟩ => by cases e1; rw [show kitB "int" "bool" = some false from by decide +kernel] at e2; cases e2; exact w, fun w => ⟨_, _, rfl, by decide +kernel, w⟩⟩
@[simp ↓] theorem isi_int_list {h : Int} {q : D → Prop} : bIsi [.int h, .ty "list"] q = q (.bl false) := propext ⟨fun ⟨_, _, e1, e2, w⟩ => by cases e1; rw [show kitB "int" "list" = some false from by decide +kernel] at e2; cases e2; exact w, fun w => ⟨_, _, rfl, by decide +kernel, w⟩⟩
@[simp ↓] theorem isi_int_tuple {h : Int} {q : D → Prop} : bIsi [.int h, .ty "tuple"] q = q (.bl false) := propext ⟨fun ⟨_, _, e1, e2, w⟩ => by cases e1; rw [show kitB "int" "tuple" = some false from by decide +kernel] at e2; cases e2; exact w, fun w => ⟨_, _, rfl, by decide +kernel, w⟩⟩
@[simp ↓] theorem isi_int_dict {h : Int} {q : D → Prop} : bIsi [.int h, .ty "dict"] q = q (.bl false) := propext ⟨fun ⟨_, _, e1, e2, w⟩ => by cases e1; rw [show kitB "int" "dict" = some false from by decide +kernel] at e2; cases e2; exact w, fun w => ⟨_, _, rfl, by decide +kernel, w⟩⟩
@[simp ↓] theorem isi_int_str {h : Int} {q : D → Prop} : bIsi [.int h, .ty "str"] q = q (.bl false) := propext ⟨fun ⟨_, _, e1, e2, w⟩ => by cases e1; rw [show kitB "int" "str" = some false from by decide +kernel] at e2; cases e2; exact w, fun w => ⟨_, _, rfl, by decide +kernel, w⟩⟩
@[simp ↓] theorem isi_int_lt {h : Int} {q : D → Prop} : bIsi [.int h, .tup [.ty "list", .ty "tuple"]] q = q (.bl false) := propext ⟨fun ⟨_, cs, _, e1, e2, e3, w⟩ => by
  cases e1
  match cs, e2 with
  | [_, _], e2 =>
    cases e2
    rw [show kitS "int" ["list", "tuple"] = some false from by decide +kernel] at e3; cases e3; exact w, fun w => ⟨_, ["list", "tuple"], _, rfl, rfl, by decide +kernel, w⟩⟩
@[simp ↓] theorem isi_str_int {h : Str} {q : D → Prop} : bIsi [.str h, .ty "int"] q = q (.bl false) := propext ⟨fun ⟨_, _, e1, e2, w⟩ => by cases e1; rw [show kitB "str" "int" = some false from by decide +kernel] at e2; cases e2; exact w, fun w => ⟨_, _, rfl, by decide +kernel, w⟩⟩
@[simp ↓] theorem isi_str_bool {h : Str} {q : D → Prop} : bIsi [.str h, .ty "bool"] q = q (.bl false) := propext ⟨fun ⟨_, _, e1, e2, w⟩ => by cases e1; rw [show kitB "str" "bool" = some false from by decide +kernel] at e2; cases e2; exact w, fun w => ⟨_, _, rfl, by decide +kernel, w⟩⟩
@[simp ↓] theorem isi_str_list {h : Str} {q : D → Prop} : bIsi [.str h, .ty "list"] q = q (.bl false) := propext ⟨fun ⟨_, _, e1, e2, w⟩ => by cases e1; rw [show kitB "str" "list" = some false from by decide +kernel] at e2; cases e2; exact w, fun w => ⟨_, _, rfl, by decide +kernel, w⟩⟩
@[simp ↓] theorem isi_str_tuple {h : Str} {q : D → Prop} : bIsi [.str h, .ty "tuple"] q = q (.bl false) := propext ⟨fun ⟨_, _, e1, e2, w⟩ => by cases e1; rw [show kitB "str" "tuple" = some false from by decide +kernel] at e2; cases e2; exact w, fun w => ⟨_, _, rfl, by decide +kernel, w⟩⟩
@[simp ↓] theorem isi_str_dict {h : Str} {q : D → Prop} : bIsi [.str h, .ty "dict"] q = q (.bl false) := propext ⟨fun ⟨_, _, e1, e2, w⟩ => by cases e1; rw [show kitB "str" "dict" = some false from by decide +kernel] at e2; cases e2; exact w, fun w => ⟨_, _, rfl, by decide +kernel, w⟩⟩
@[simp ↓] theorem isi_str_str {h : Str} {q : D → Prop} : bIsi [.str h, .ty "str"] q = q (.bl true) := propext ⟨fun ⟨_, _, e1, e2, w⟩ => by cases e1; rw [show kitB "str" "str" = some true from by decide +kernel] at e2; cases e2; exact w, fun w => ⟨_, _, rfl, by decide +kernel, w⟩⟩
@[simp ↓] theorem isi_str_lt {h : Str} {q : D → Prop} : bIsi [.str h, .tup [.ty "list", .ty "tuple"]] q = q (.bl false) := propext ⟨fun ⟨_, cs, _, e1, e2, e3, w⟩ => by
  cases e1
  match cs, e2 with
  | [_, _], e2 =>
    cases e2
    rw [show kitS "str" ["list", "tuple"] = some false from by decide +kernel] at e3; cases e3; exact w, fun w => ⟨_, ["list", "tuple"], _, rfl, rfl, by decide +kernel, w⟩⟩
@[simp ↓] theorem isi_lst_int {h : List D} {q : D → Prop} : bIsi [.lst h, .ty "int"] q = q (.bl false) := propext ⟨fun ⟨_, _, e1, e2, w⟩ => by cases e1; rw [show kitB "list" "int" = some false from by decide +kernel] at e2; cases e2; exact w, fun w => ⟨_, _, rfl, by decide +kernel, w⟩⟩
@[simp ↓] theorem isi_lst_bool {h : List D} {q : D → Prop} : bIsi [.lst h, .ty "bool"] q = q (.bl false) := propext ⟨fun ⟨_, _, e1, e2, w⟩ => by cases e1; rw [show kitB "list" "bool" = some false from by decide +kernel] at e2; cases e2; exact w, fun w => ⟨_, _, rfl, by decide +kernel, w⟩⟩
@[simp ↓] theorem isi_lst_list {h : List D} {q : D → Prop} : bIsi [.lst h, .ty "list"] q = q (.bl true) := propext ⟨fun ⟨_, _, e1, e2, w⟩ => by cases e1; rw [show kitB "list" "list" = some true from by decide +kernel] at e2; cases e2; exact w, fun w => ⟨_, _, rfl, by decide +kernel, w⟩⟩
@[simp ↓] theorem isi_lst_tuple {h : List D} {q : D → Prop} : bIsi [.lst h, .ty "tuple"] q = q (.bl false) := propext ⟨fun ⟨_, _, e1, e2, w⟩ => by cases e1; rw [show kitB "list" "tuple" = some false from by decide +kernel] at e2; cases e2; exact w, fun w => ⟨_, _, rfl, by decide +kernel, w⟩⟩
@[simp ↓] theorem isi_lst_dict {h : List D} {q : D → Prop} : bIsi [.lst h, .ty "dict"] q = q (.bl false) := propext ⟨fun ⟨_, _, e1, e2, w⟩ => by cases e1; rw [show kitB "list" "dict" = some false from by decide +kernel] at e2; cases e2; exact w, fun w => ⟨_, _, rfl, by decide +kernel, w⟩⟩
@[simp ↓] theorem isi_lst_str {h : List D} {q : D → Prop} : bIsi [.lst h, .ty "str"] q = q (.bl false) := propext ⟨fun ⟨_, _, e1, e2, w⟩ => by cases e1; rw [show kitB "list" "str" = some false from by decide +kernel] at e2; cases e2; exact w, fun w => ⟨_, _, rfl, by decide +kernel, w⟩⟩
@[simp ↓] theorem isi_lst_lt {h : List D} {q : D → Prop} : bIsi [.lst h, .tup [.ty "list", .ty "tuple"]] q = q (.bl true) := propext ⟨fun ⟨_, cs, _, e1, e2, e3, w⟩ => by
  cases e1
  match cs, e2 with
  | [_, _], e2 =>
    cases e2
    rw [show kitS "list" ["list", "tuple"] = some true from by decide +kernel] at e3; cases e3; exact w, fun w => ⟨_, ["list", "tuple"], _, rfl, rfl, by decide +kernel, w⟩⟩
@[simp ↓] theorem isi_tup_int {h : List D} {q : D → Prop} : bIsi [.tup h, .ty "int"] q = q (.bl false) := propext ⟨fun ⟨_, _, e1, e2, w⟩ => by cases e1; rw [show kitB "tuple" "int" = some false from by decide +kernel] at e2; cases e2; exact w, fun w => ⟨_, _, rfl, by decide +kernel, w⟩⟩
@[simp ↓] theorem isi_tup_bool {h : List D} {q : D → Prop} : bIsi [.tup h, .ty "bool"] q = q (.bl false) := propext ⟨fun ⟨_, _, e1, e2, w⟩ => by cases e1; rw [show kitB "tuple" "bool" = some false from by decide +kernel] at e2; cases e2; exact w, fun w => ⟨_, _, rfl, by decide +kernel, w⟩⟩
@[simp ↓] theorem isi_tup_list {h : List D} {q : D → Prop} : bIsi [.tup h, .ty "list"] q = q (.bl false) := propext ⟨fun ⟨_, _, e1, e2, w⟩ => by cases e1; rw [show kitB "tuple" "list" = some false from by decide +kernel] at e2; cases e2; exact w, fun w => ⟨_, _, rfl, by decide +kernel, w⟩⟩
@[simp ↓] theorem isi_tup_tuple {h : List D} {q : D → Prop} : bIsi [.tup h, .ty "tuple"] q = q (.bl true) := propext ⟨fun ⟨_, _, e1, e2, w⟩ => by cases e1; rw [show kitB "tuple" "tuple" = some true from by decide +kernel] at e2; cases e2; exact w, fun w => ⟨_, _, rfl, by decide +kernel, w⟩⟩
@[simp ↓] theorem isi_tup_dict {h : List D} {q : D → Prop} : bIsi [.tup h, .ty "dict"] q = q (.bl false) := propext ⟨fun ⟨_, _, e1, e2, w⟩ => by cases e1; rw [show kitB "tuple" "dict" = some false from by decide +kernel] at e2; cases e2; exact w, fun w => ⟨_, _, rfl, by decide +kernel, w⟩⟩
@[simp ↓] theorem isi_tup_str {h : List D} {q : D → Prop} : bIsi [.tup h, .ty "str"] q = q (.bl false) := propext ⟨fun ⟨_, _, e1, e2, w⟩ => by cases e1; rw [show kitB "tuple" "str" = some false from by decide +kernel] at e2; cases e2; exact w, fun w => ⟨_, _, rfl, by decide +kernel, w⟩⟩
@[simp ↓] theorem isi_tup_lt {h : List D} {q : D → Prop} : bIsi [.tup h, .tup [.ty "list", .ty "tuple"]] q = q (.bl true) := propext ⟨fun ⟨_, cs, _, e1, e2, e3, w⟩ => by
  cases e1
  match cs, e2 with
  | [_, _], e2 =>
    cases e2
    rw [show kitS "tuple" ["list", "tuple"] = some true from by decide +kernel] at e3; cases e3; exact w, fun w => ⟨_, ["list", "tuple"], _, rfl, rfl, by decide +kernel, w⟩⟩
@[simp ↓] theorem isi_dic_int {h : List (D × D)} {q : D → Prop} : bIsi [.dic h, .ty "int"] q = q (.bl false) := propext ⟨fun ⟨_, _, e1, e2, w⟩ => by cases e1; rw [show kitB "dict" "int" = some false from by decide +kernel] at e2; cases e2; exact w, fun w => ⟨_, _, rfl, by decide +kernel, w⟩⟩
@[simp ↓] theorem isi_dic_bool {h : List (D × D)} {q : D → Prop} : bIsi [.dic h, .ty "bool"] q = q (.bl false) := propext ⟨fun ⟨_, _, e1, e2, w⟩ => by cases e1; rw [show kitB "dict" "bool" = some false from by decide +kernel] at e2; cases e2; exact w, fun w => ⟨_, _, rfl, by decide +kernel, w⟩⟩
@[simp ↓] theorem isi_dic_list {h : List (D × D)} {q : D → Prop} : bIsi [.dic h, .ty "list"] q = q (.bl false) := propext ⟨fun ⟨_, _, e1, e2, w⟩ => by cases e1; rw [show kitB "dict" "list" = some false from by decide +kernel] at e2; cases e2; exact w, fun w => ⟨_, _, rfl, by decide +kernel, w⟩⟩
@[simp ↓] theorem isi_dic_tuple {h : List (D × D)} {q : D → Prop} : bIsi [.dic h, .ty "tuple"] q = q (.bl false) := propext ⟨fun ⟨_, _, e1, e2, w⟩ => by cases e1; rw [show kitB "dict" "tuple" = some false from by decide +kernel] at e2; cases e2; exact w, fun w => ⟨_, _, rfl, by decide +kernel, w⟩⟩
@[simp ↓] theorem isi_dic_dict {h : List (D × D)} {q : D → Prop} : bIsi [.dic h, .ty "dict"] q = q (.bl true) := propext ⟨fun ⟨_, _, e1, e2, w⟩ => by cases e1; rw [show kitB "dict" "dict" = some true from by decide +kernel] at e2; cases e2; exact w, fun w => ⟨_, _, rfl, by decide +kernel, w⟩⟩
@[simp ↓] theorem isi_dic_str {h : List (D × D)} {q : D → Prop} : bIsi [.dic h, .ty "str"] q = q (.bl false) := propext ⟨fun ⟨_, _, e1, e2, w⟩ => by cases e1; rw [show kitB "dict" "str" = some false from by decide +kernel] at e2; cases e2; exact w, fun w => ⟨_, _, rfl, by decide +kernel, w⟩⟩
@[simp ↓] theorem isi_dic_lt {h : List (D × D)} {q : D → Prop} : bIsi [.dic h, .tup [.ty "list", .ty "tuple"]] q = q (.bl false) := propext ⟨fun ⟨_, cs, _, e1, e2, e3, w⟩ => by
  cases e1
  match cs, e2 with
  | [_, _], e2 =>
    cases e2
    rw [show kitS "dict" ["list", "tuple"] = some false from by decide +kernel] at e3; cases e3; exact w, fun w => ⟨_, ["list", "tuple"], _, rfl, rfl, by decide +kernel, w⟩⟩
@[simp] theorem vw_non  : vw st (.non) = .non := rfl
@[simp] theorem gdOf_non  : gdOf st (.non) = [] := rfl
@[simp] theorem vw_bl {b : Bool} : vw st (.bl b) = .bl b := rfl
@[simp] theorem gdOf_bl {b : Bool} : gdOf st (.bl b) = [] := rfl
@[simp] theorem vw_int {i : Int} : vw st (.int i) = .int i := rfl
@[simp] theorem gdOf_int {i : Int} : gdOf st (.int i) = [] := rfl
@[simp] theorem vw_str {h : Str} : vw st (.str h) = .str h := rfl
@[simp] theorem gdOf_str {h : Str} : gdOf st (.str h) = [] := rfl
@[simp] theorem vw_lst {l : List D} : vw st (.lst l) = .lst l := rfl
@[simp] theorem gdOf_lst {l : List D} : gdOf st (.lst l) = [] := rfl
@[simp] theorem vw_tup {l : List D} : vw st (.tup l) = .tup l := rfl
@[simp] theorem gdOf_tup {l : List D} : gdOf st (.tup l) = [] := rfl
@[simp] theorem vw_dic {l : List (D × D)} : vw st (.dic l) = .dic l := rfl
@[simp] theorem gdOf_dic {l : List (D × D)} : gdOf st (.dic l) = [] := rfl
@[simp] theorem vw_obj {h : Str} {l : List (Str × D)} : vw st (.obj h l) = .obj h l := rfl
@[simp] theorem gdOf_obj {h : Str} {l : List (Str × D)} : gdOf st (.obj h l) = [] := rfl
@[simp] theorem vw_fn {h : Str} : vw st (.fn h) = .fn h := rfl
@[simp] theorem gdOf_fn {h : Str} : gdOf st (.fn h) = [] := rfl
@[simp] theorem vw_ty {h : String} : vw st (.ty h) = .ty h := rfl
@[simp] theorem gdOf_ty {h : String} : gdOf st (.ty h) = [] := rfl
@[simp] theorem vw_scr {l : List Int} : vw st (.scr l) = .scr l := rfl
@[simp] theorem gdOf_scr {l : List Int} : gdOf st (.scr l) = [] := rfl
theorem vw_ref {n : Nat} {l : List D} (h : st[n]? = some (.lst l)) : vw st (.ref n) = .lst l := by unfold vw; simp only [h]
theorem vw_refO {n : Nat} {c : Str} {l : List (Str × D)} (h : st[n]? = some (.obj c l)) : vw st (.ref n) = .obj c l := by unfold vw; simp only [h]
theorem vw_refD {n : Nat} {l : List (D × D)} (h : st[n]? = some (.dic l)) : vw st (.ref n) = .dic l := by unfold vw; simp only [h]
theorem gdOf_ref {n : Nat} {c : C} (h : st[n]? = some c) : gdOf st (.ref n) = [(n, c)] := by unfold gdOf; simp only [h]
@[simp] theorem gdOk_nil : gdOk [] st = True := by unfold gdOk; simp
@[simp] theorem gdOk_one {n : Nat} {c : C} : gdOk [(n, c)] st = (st[n]? = some c) := by unfold gdOk; simp
@[simp] theorem itemsD_lst {l : List D} : itemsD (.lst l) = some l := rfl
@[simp] theorem itemsD_tup {l : List D} : itemsD (.tup l) = some l := rfl
@[simp] theorem lenD_lst {l : List D} : lenD (.lst l) = some l.length := rfl
@[simp] theorem lenD_tup {l : List D} : lenD (.tup l) = some l.length := rfl
@[simp] theorem truthD_int {h : Int} : truthD (.int h) = some (h != 0) := rfl
@[simp] theorem truthD_bl {h : Bool} : truthD (.bl h) = some h := rfl
@[simp] theorem truthD_non : truthD .non = some false := rfl
@[simp] theorem truthD_lst {l : List D} : truthD (.lst l) = some (!l.isEmpty) := rfl
@[simp] theorem truthD_tup {l : List D} : truthD (.tup l) = some (!l.isEmpty) := rfl
@[simp] theorem wA_nil : wA [] env = env := rfl
@[simp] theorem wA_cons : wA (i :: vs) env = (wA vs env).set i .no := rfl
theorem for_nil : sForL gd g s [] env st k = (gdOk gd st ∧ k.nx env st) := propext Iff.rfl
theorem for_cons : sForL gd g s (x :: xs) env st k = (gdOk gd st ∧ g x env st fun e1 => s e1 st { k with nx := fun e2 s2 => sForL gd g s xs e2 s2 k, ct := fun e2 s2 => sForL gd g s xs e2 s2 k, bk := k.nx }) := propext Iff.rfl
theorem lc_nil : aLcL gd g t a env ql [] xs st = (gdOk gd st ∧ ql xs st) := propext Iff.rfl
theorem lc_cons {acc : List D} : aLcL gd g t a env ql (x :: xs) acc st = (gdOk gd st ∧ g x env st fun e1 => t e1 st (fun b s2 => if b = true then a e1 s2 (fun y s3 => acc.length < 100000 ∧ aLcL gd g t a env ql xs (acc ++ [y]) s3) (fun _ _ => False) else aLcL gd g t a env ql xs acc s2) (fun _ _ => False)) := propext Iff.rfl
theorem wh_succ {n : Nat} : sWhN t s (n + 1) env st k = t env st (fun c s1 => if c = true then s env s1 { k with nx := fun e2 s2 => sWhN t s n e2 s2 k, ct := fun e2 s2 => sWhN t s n e2 s2 k, bk := k.nx } else k.nx env s1) (fun e s1 => k.er e env s1) := propext Iff.rfl
/-- a comprehension whose items come without a change of the store -/
theorem lc_eq {G : D → D} {p : D → Bool} (hg : gdOk gd st) : ∀ (ds acc : List D), (∀ x ∈ ds, ∀ (P1 : D → S → Prop) (P2 : S → Prop), (g x env st fun e1 => t e1 st (fun b s2 => if b = true then a e1 s2 P1 (fun _ _ => False) else P2 s2) (fun _ _ => False)) = if p x = true then P1 (G x) st else P2 st) → acc.length + ds.length ≤ 100000 → aLcL gd g t a env ql ds acc st = ql (acc ++ (ds.filter p).map G) st
  | [], acc, _, _ => by rw [lc_nil]; simp [hg]
  | x :: xs, acc, h, hl => by
    rw [lc_cons, h x (by simp)]
    have hl' : acc.length < 100000 := by simp at hl; omega
    by_cases hp : p x = true
    · rw [if_pos hp, lc_eq hg xs _ (fun y hy => h y (by simp [hy])) (by simp at hl ⊢; omega)]
      simp [hg, hl', hp, List.filter_cons]
    · rw [if_neg hp, lc_eq hg xs _ (fun y hy => h y (by simp [hy])) (by simp at hl ⊢; omega)]
      simp [hg, hp, List.filter_cons]
theorem lc_map {G : D → D} (hg : gdOk gd st) (ds acc : List D) (h : ∀ x ∈ ds, ∀ (P1 : D → S → Prop) (P2 : S → Prop), (g x env st fun e1 => t e1 st (fun b s2 => if b = true then a e1 s2 P1 (fun _ _ => False) else P2 s2) (fun _ _ => False)) = P1 (G x) st) (hl : acc.length + ds.length ≤ 100000) : aLcL gd g t a env ql ds acc st = ql (acc ++ ds.map G) st := by
  rw [lc_eq (G := G) (p := fun _ => true) hg ds acc (fun x hx P1 P2 => by rw [h x hx, if_pos rfl]) hl, List.filter_eq_self.mpr (fun _ _ => rfl)]
/-- loops by what holds ahead of the items that are left -/
theorem for_ind {P : List D → List A → S → Prop} (h0 : ∀ env st, P [] env st → gdOk gd st ∧ k.nx env st) (h1 : ∀ x xs env st, P (x :: xs) env st → ∀ nx : List A → S → Prop, (∀ e s, P xs e s → nx e s) → gdOk gd st ∧ g x env st fun e1 => s e1 st { k with nx := nx, ct := nx, bk := k.nx }) : ∀ ds env st, P ds env st → sForL gd g s ds env st k
  | [], env, st, h => h0 env st h
  | x :: xs, env, st, h => h1 x xs env st h _ fun e s hp => for_ind h0 h1 xs e s hp
theorem wh_ind {P : Nat → List A → S → Prop} (h1 : ∀ n env st, P n env st → ∀ nx : List A → S → Prop, (∀ m e s, m < n → P m e s → nx e s) → t env st (fun c s1 => if c = true then s env s1 { k with nx := nx, ct := nx, bk := k.nx } else k.nx env s1) (fun e s1 => k.er e env s1))
    (mono : ∀ {n env st}, P n env st → ∀ {m}, n ≤ m → P m env st) : ∀ n env st, P n env st → sWhN t s (n + 1) env st k := by
  intro n
  induction n with
  | zero => exact fun env st h => h1 0 env st h _ fun m e s hm _ => absurd hm (by omega)
  | succ n ih => exact fun env st h => h1 (n + 1) env st h _ fun m e s hm hp => ih e s (mono hp (by omega))
end
end AM
set_option Elab.async false
set_option linter.all false
set_option maxRecDepth 100000
set_option maxHeartbeats 4000000
namespace AM
open L2
/-- _law_take -/
def aTake : AS := sSeq (sIf (aTest (aOp oEq (aPoolIx 0 1) (aC (.int 0)))) (sSeq (sAsg (aPoolIx 0 0) (agName 3))
  (sSeq (sPoolSet 0 0 (aOp oAdd (aVar 3) (aC (.int 1))))
  (sSeq (sAsg (aOp oIx (aOp oAdd (aPoolIx 0 2) (aLst (aCons (aC (.int 0)) (aNil)))) (aOp oMod (aB bInt (aCons (aVar 3) (aNil))) (aB bMax2 (aCons (aC (.int 1)) (aCons (aB bLen (aCons (aPoolIx 0 2) (aNil))) (aNil)))))) (agName 4))
  (sSeq (sAsg (aOp oMod (aOp oPow (aOp oAdd (aOp oAdd (aOp oMod (aB bInt (aCons (aVar 4) (aNil))) (aC (.int 2147483647))) (aOp oMul (aC (.int 7919)) (aVar 3))) (aC (.int 13))) (aC (.int 5))) (aC (.int 2147483647))) (agName 5))
  (sSeq (sAsg (aOp oMod (aOp oPow (aOp oAdd (aOp oAdd (aVar 5) (aOp oMul (aC (.int 104729)) (aVar 3))) (aC (.int 29))) (aC (.int 3))) (aC (.int 2147483629))) (agName 5))
  (sSeq (sIf (aTest (aOp oLt (aVar 4) (aOp oPow (aC (.int 10)) (aC (.int 18))))) (sRet (aOp oMod (aOp oFdiv (aVar 5) (aC (.int 11))) (aVar 1))) (sNext))
  (sPoolSet 0 1 (aVar 4)))))))) (sNext))
  (sSeq (sAsg (aOp oMod (aB bInt (aCons (aPoolIx 0 1) (aNil))) (aVar 1)) (agName 2))
  (sSeq (sPoolSet 0 1 (aOp oFdiv (aPoolIx 0 1) (aVar 1)))
  (sRet (aVar 2))))
theorem atI_lt {α : Type} {l : List α} {i : Int} (h0 : 0 ≤ i) (h1 : i < l.length) : ∃ d, atI l i = some d ∧ d ∈ l := by
  have e : ixN l.length i = some i.toNat := by unfold ixN; rw [if_pos h0, if_pos h1]
  have hl : i.toNat < l.length := by omega
  exact ⟨l[i.toNat], by unfold atI; rw [e]; show l[i.toNat]? = _; exact List.getElem?_eq_getElem hl, List.getElem_mem hl⟩
/-- a draw: a number below k; the pool's count may grow by one -/
def mTake : AF := fun args st q _ => ∃ n m ns k, args = [.ref n, .int k] ∧ st[n]? = some (.pool m ns) ∧ 0 < k ∧ k.natAbs.log2 < 9000 ∧ m < 10 ^ 12 ∧
  ∀ (x : Int) (m' : Nat), 0 ≤ x → x < k → m ≤ m' → m' ≤ m + 1 → q (.d (.int x)) (st.set n (.pool m' ns))
section
variable {env : List A} {st : S} {q : D → S → Prop} {er : QX} {n i : Nat} {m : Nat} {ns : List Int}
theorem pool0 (e : env[i]? = some (.d (.ref n))) (h : st[n]? = some (.pool m ns)) : aPoolIx i 0 env st q er = ∀ a : Int, 0 ≤ a → a ≤ m → q (.int a) st := propext ⟨fun ⟨n', m', ns', e', h', k⟩ => by
    rw [e] at e'; cases e'; rw [h] at h'; cases h'; exact k, fun k => ⟨n, m, ns, e, h, k⟩⟩
theorem pool1 (e : env[i]? = some (.d (.ref n))) (h : st[n]? = some (.pool m ns)) : aPoolIx i 1 env st q er = ∀ l : Int, 0 ≤ l → q (.int l) st := propext ⟨fun ⟨n', m', ns', e', h', k⟩ => by
    rw [e] at e'; cases e'; rw [h] at h'; cases h'; exact k, fun k => ⟨n, m, ns, e, h, k⟩⟩
theorem pool2 (e : env[i]? = some (.d (.ref n))) (h : st[n]? = some (.pool m ns)) : aPoolIx i 2 env st q er = (ns.length ≤ 63 → q (.lst (ns.map .int)) st) := propext ⟨fun ⟨n', m', ns', e', h', k⟩ => by
    rw [e] at e'; cases e'; rw [h] at h'; cases h'; exact k, fun k => ⟨n, m, ns, e, h, k⟩⟩
theorem poolS0 {a : AE} {k : AK} (e : env[i]? = some (.d (.ref n))) : sPoolSet i 0 a env st k = a env st (fun d s1 => ∃ m ns v, s1[n]? = some (.pool m ns) ∧ d = .int v ∧ 0 ≤ v ∧ k.nx env (s1.set n (.pool (max m v.toNat) ns))) (fun e s => k.er e env s) := by
  unfold sPoolSet
  congr 1
  funext d s1
  exact propext ⟨fun ⟨n', m', ns', v, e', h', k⟩ => by
    rw [e] at e'; cases e'; exact ⟨m', ns', v, h', k⟩, fun ⟨m, ns, v, h, k⟩ => ⟨n, m, ns, v, e, h, k⟩⟩
theorem poolS1 {a : AE} {k : AK} (e : env[i]? = some (.d (.ref n))) : sPoolSet i 1 a env st k = a env st (fun d s1 => ∃ m ns v, s1[n]? = some (.pool m ns) ∧ d = .int v ∧ 0 ≤ v ∧ k.nx env (s1.set n (.pool m ns))) (fun e s => k.er e env s) := by
  unfold sPoolSet
  congr 1
  funext d s1
  exact propext ⟨fun ⟨n', m', ns', v, e', h', k⟩ => by
    rw [e] at e'; cases e'; exact ⟨m', ns', v, h', k⟩, fun ⟨m, ns, v, h, k⟩ => ⟨n, m, ns, v, e, h, k⟩⟩
end
theorem take_ok : ∀ args st q er, mTake args st q er → fnP 2 6 aTake args st q er := by
  rintro args st q er ⟨n, m, ns, k, rfl, hn, hk, hl, hm, h⟩
  refine ⟨rfl, ?_⟩
  show aTake [.d (.ref n), .d (.int k), .no, .no, .no, .no] st _
  unfold aTake
  have hlt : n < st.length := (List.getElem?_eq_some_iff.mp hn).1
  have fm : ∀ x : Int, 0 ≤ x.fmod k ∧ x.fmod k < k := fun x => ⟨Int.fmod_nonneg_of_pos x hk, Int.fmod_lt_of_pos x hk⟩
  have k0 : k ≠ 0 := by omega
  have cfd : ∀ x, CFd x k := fun x => ⟨k0, hl⟩
  have fd0 : ∀ x : Int, 0 ≤ x → 0 ≤ x.fdiv k := fun x hx => Int.fdiv_nonneg hx (by omega)
  have lg : ∀ a : Int, 0 ≤ a → a ≤ m → a.natAbs.log2 < 100 := fun a h0 h1 => by
    by_cases hz : a.natAbs = 0
    · rw [hz]; decide
    · refine (Nat.log2_lt hz).mpr (Nat.lt_of_le_of_lt (m := 10 ^ 12) (by omega) (by decide))
  have p1 : ∀ {l : List A} {q : D → S → Prop} {er : QX}, aPoolIx 0 1 (A.d (.ref n) :: l) st q er = ∀ l : Int, 0 ≤ l → q (.int l) st := pool1 rfl hn
  have gs : ∀ c, (st.set n c)[n]? = some c := fun c => List.getElem?_set_self hlt
  have pS1 : ∀ {l : List A} {s : S} {a : AE} {k : AK}, sPoolSet 0 1 a (A.d (.ref n) :: l) s k = a (A.d (.ref n) :: l) s (fun d s1 => ∃ m ns v, s1[n]? = some (.pool m ns) ∧ d = .int v ∧ 0 ≤ v ∧ k.nx (A.d (.ref n) :: l) (s1.set n (.pool m ns))) (fun e s => k.er e (A.d (.ref n) :: l) s) := poolS1 rfl
  have pS0 : ∀ {l : List A} {s : S} {a : AE} {k : AK}, sPoolSet 0 0 a (A.d (.ref n) :: l) s k = a (A.d (.ref n) :: l) s (fun d s1 => ∃ m ns v, s1[n]? = some (.pool m ns) ∧ d = .int v ∧ 0 ≤ v ∧ k.nx (A.d (.ref n) :: l) (s1.set n (.pool (max m v.toNat) ns))) (fun e s => k.er e (A.d (.ref n) :: l) s) := poolS0 rfl
  simp only [ev_sSeq, ev_sIf, ev_aTest, ev_aOp, p1, ev_aC]
  intro l hl0
  simp only [vw_int, ev_oEqI, tsQ_bl, beq_iff_eq]
  have tail : ∀ (l3 : List A) (m' : Nat), m ≤ m' → m' ≤ m + 1 → sAsg (aOp oMod (aB bInt (aCons (aPoolIx 0 1) aNil)) (aVar 1)) (agName 2) (.d (.ref n) :: .d (.int k) :: .no :: l3) (st.set n (.pool m' ns)) { nx := fun env2 st2 => sSeq (sPoolSet 0 1 (aOp oFdiv (aPoolIx 0 1) (aVar 1))) (sRet (aVar 2)) env2 st2 ⟨fun _ s => q (.d .non) s, q, fun _ _ => False, fun _ _ => False, fun e _ s => er e s⟩, rt := q, bk := fun _ _ => False, ct := fun _ _ => False, er := fun e _ s => er e s } := fun l3 m' h1 h2 => by
    have p1' : ∀ {l : List A} {q : D → S → Prop} {er : QX}, aPoolIx 0 1 (A.d (.ref n) :: l) (st.set n (.pool m' ns)) q er = ∀ l : Int, 0 ≤ l → q (.int l) (st.set n (.pool m' ns)) := pool1 rfl (gs _)
    simp [p1', and_assoc, pS1, k0, gs, cfd, fd0]
    intro x hx y hy
    exact ⟨fd0 y hy, h _ _ (fm x).1 (fm x).2 h1 h2⟩
  split
  · have p0 : ∀ {l : List A} {q : D → S → Prop} {er : QX}, aPoolIx 0 0 (A.d (.ref n) :: l) st q er = ∀ a : Int, 0 ≤ a → a ≤ m → q (.int a) st := pool0 rfl hn
    simp only [ev_sAsg, p0, ev_agName]
    intro a ha0 ha1
    simp [pS0, hn, and_assoc]
    refine ⟨by omega, ?_⟩
    have mx : m ≤ max m (a + 1).toNat ∧ max m (a + 1).toNat ≤ m + 1 := by omega
    generalize max m (a + 1).toNat = m' at mx ⊢
    have p2 : ∀ {l : List A} {q : D → S → Prop} {er : QX}, aPoolIx 0 2 (A.d (.ref n) :: l) (st.set n (.pool m' ns)) q er = (ns.length ≤ 63 → q (.lst (ns.map .int)) (st.set n (.pool m' ns))) := pool2 rfl (gs _)
    simp [p2, and_assoc]
    intro h63
    refine ⟨by omega, ?_⟩
    have hmax : (0 : Int) < (if (1 : Int) < (ns.length : Int) then (ns.length : Int) else 1) := by split <;> omega
    refine fun _ => ⟨by split <;> omega, ?_⟩
    have b0 := Int.fmod_nonneg_of_pos a hmax
    have b1 := Int.fmod_lt_of_pos a hmax
    obtain ⟨d, hd, dm⟩ := atI_lt (l := ns.map D.int ++ [D.int 0]) b0 (by
      rw [List.length_append, List.length_map]
      show _ < ((ns.length + 1 : Nat) : Int)
      have : (if (1 : Int) < (ns.length : Int) then (ns.length : Int) else 1) ≤ (ns.length : Int) + 1 := by split <;> omega
      omega)
    obtain ⟨v, rfl⟩ : ∃ v, d = D.int v := by
      rcases List.mem_append.mp dm with h | h
      · obtain ⟨v, _, e⟩ := List.mem_map.mp h
        exact ⟨v, e.symm⟩
      · exact ⟨0, by simpa using h⟩
    refine ⟨_, hd, ?_⟩
    have hlg := lg a ha0 ha1
    have c1 : CMulW 7919 a := by show (7919 : Int).natAbs.log2 + a.natAbs.log2 < 1000000; have : (7919 : Int).natAbs.log2 = 12 := by decide
                                 omega
    have c2 : CMulW 104729 a := by show (104729 : Int).natAbs.log2 + a.natAbs.log2 < 1000000; have : (104729 : Int).natAbs.log2 = 16 := by decide
                                   omega
    have r1 : 0 ≤ v.fmod 2147483647 ∧ v.fmod 2147483647 < 2147483647 := ⟨Int.fmod_nonneg_of_pos v (by decide), Int.fmod_lt_of_pos v (by decide)⟩
    have p1 : CPow (v.fmod 2147483647 + 7919 * a + 13) 5 := ⟨by decide, by decide, by omega⟩
    have r2 := fun x : Int => (⟨Int.fmod_nonneg_of_pos x (by decide), Int.fmod_lt_of_pos x (by decide)⟩ : 0 ≤ x.fmod 2147483647 ∧ x.fmod 2147483647 < 2147483647)
    have p2 : ∀ x : Int, CPow (x.fmod 2147483647 + 104729 * a + 29) 3 := fun x => by have := r2 x; exact ⟨by decide, by decide, by omega⟩
    have p3 : CPow 10 18 := ⟨by decide, by decide, by decide⟩
    have c11 : ∀ x, CFd x 11 := fun x => ⟨by decide, by decide⟩
    simp [c1, c2, p1, p2, p3, c11, k0, cfd, pS1, gs, and_assoc]
    split
    · exact h _ _ (fm _).1 (fm _).2 mx.1 mx.2
    · refine ⟨by omega, ?_⟩
      have := tail [.d (.int a), .d (.int v), .d (.int ((((v.fmod 2147483647 + 7919 * a + 13) ^ 5).fmod 2147483647 + 104729 * a + 29) ^ 3 |>.fmod 2147483629))] m' mx.1 mx.2
      simpa [c1, c2, p1, p2, p3, c11, k0, cfd, pS1, gs, and_assoc] using this
  · have e : st.set n (.pool m ns) = st := by
      apply List.ext_getElem?
      intro j
      by_cases hj : n = j
      · subst hj; rw [List.getElem?_set_self hlt, hn]
      · rw [List.getElem?_set_ne hj]
    have := tail [.no, .no, .no] m (Nat.le_refl _) (by omega)
    rw [e] at this
    simp only [ev_sNext]
    exact this
end AM
set_option Elab.async false
set_option linter.all false
set_option maxRecDepth 100000
set_option maxHeartbeats 4000000
namespace AM
open PySem PySem.W L2
/-! ### an error class with its own __init__, read off the top -/
structure XD where
  cls : Str
  params : Arguments
  body : List Stmt
  scope : Scope
abbrev XW : Type := Option (Str × Arguments × FuncBody × Scope × Addr × List Str × Addr)
def xw (K : Frag) (x : Str) : XW := match K.lookup (He.ma K (He.ga K x) "__init__") with
  | some ⟨_, _, .func fd, _⟩ => some (fd.name, fd.params, fd.body, fd.scope, fd.globals, fd.closure.map (·.1), fd.builtins)
  | _ => none
def XD.val (d : XD) : XW := some ("__init__", d.params, .stmts d.body, d.scope, mainGlobals, ["__class__"], builtinsNs)
def oexB (K : Frag) (C : Addr) : Bool := (match K.lookup C with
  | some ⟨.type t, _, .cls cd, sl⟩ => (match cd.mro, sl.toList with
    | .ref C' :: bm, [_, _, _, _, some (.builtin n), _] => decide (t = "type") && (decide (C' = C) && (decide (n = "ValueError.__new__") && (!cd.hasDel && (cd.hasDict && HandSPX.refsVE bm))))
    | _, _ => false)
  | _ => false) && (decide (findIn K (.ref C) "__setattr__" = some (some (.builtin "object.__setattr__"))) && (decide (subIn K (.ref C) (.type "BaseException") = some true) && (decide (typeIn K (.ref C) = some (.type "type")) && keepIn K (.ref C))))
theorem oexB_ok {K : Frag} {C : Addr} (h : oexB K C = true) : OexC K C := by
  unfold oexB at h
  obtain ⟨h, h2⟩ := Bool.and_eq_true_iff.mp h
  obtain ⟨h2, h3⟩ := Bool.and_eq_true_iff.mp h2
  obtain ⟨h3, h4⟩ := Bool.and_eq_true_iff.mp h3
  obtain ⟨h4, h5⟩ := Bool.and_eq_true_iff.mp h4
  refine ⟨?_, of_decide_eq_true h2, of_decide_eq_true h3, of_decide_eq_true h4, h5⟩
  split at h
  · rename_i t dd cd sl ho
    split at h
    · rename_i C' bm k0 k1 k2 k3 n k5 hm hs
      simp only [Bool.and_eq_true, decide_eq_true_eq, Bool.not_eq_true'] at h
      obtain ⟨rfl, rfl, rfl, hdel, hdc, ht⟩ := h
      obtain ⟨nm, bs, mro, ns, qn, hd, sn, sub, ab, col, del⟩ := cd
      dsimp only at hm hdel hdc
      subst hm hdel hdc
      have hsl : sl = #[k0, k1, k2, k3, some (.builtin "ValueError.__new__"), k5] := by
        obtain ⟨l⟩ := sl
        simp only at hs
        rw [hs]
      subst hsl
      exact ⟨nm, qn, ns, bs, bm, sn, sub, ab, col, dd, k0, k1, k2, k3, k5, ho, ht⟩
    · cases h
  · cases h
/-- the def's own part -/
def xfnB (K : Frag) (file : Str) (C f : Addr) : Bool := match K.lookup f with
  | some ⟨_, _, .func fd, _⟩ => (match fd.defaults with
    | .none => true
    | _ => false) && (codeIn K fd.code fd.qualname && ((match fd.closure with
      | [(_, cc)] => (match K.lookup cc with
        | some ⟨_, _, .cell (some (.ref C')), _⟩ => decide (C' = C)
        | _ => false)
      | _ => false) && (match fd.code with
        | .ref cda => (match K.lookup cda with
          | some ⟨_, _, .fields vs, _⟩ => (match (vs[2]? : Option Value) with
            | some (Value.str z _) => decide (z = file)
            | _ => false)
          | _ => false)
        | _ => false)))
  | _ => false
def xcB (K : Frag) (file : Str) (x : Str) : Bool := oexB K (He.ga K x) && (xfnB K file (He.ga K x) (He.ma K (He.ga K x) "__init__") && (decide (ks_superIn K (He.ga K x) (He.ga K x) "__init__" = some (some (.builtin "ValueError.__init__"))) && (decide (subIn K (.ref (He.ga K x)) (.type "ValueError") = some true) && (decide (mroIn K (He.ga K x) (.ref (He.ga K x)) = some true) &&
  (decide (nsIn K cStatics "thirdparty.any" = some none) && (decide (findIn K (.ref (He.ga K x)) "__init__" = some (some (.ref (He.ma K (He.ga K x) "__init__")))) && decide (typeIn K (.ref (He.ma K (He.ga K x) "__init__")) = some (.type "function"))))))))
theorem xcB_ok {P : Program} {K : Frag} {mg : Str → Option Value} {d : XD} (h : xcB K P.main.file d.cls = true) (e : xw K d.cls = d.val) (mgs : mg "super" = none) (top : (P.main.scope.names.lookup ("super" : Str)).isSome = false) :
    XC P K mg (He.ga K d.cls) (He.ma K (He.ga K d.cls) "__init__") (fdAt K (He.ma K (He.ga K d.cls) "__init__")) d.params d.body d.scope := by
  unfold xcB at h
  obtain ⟨h1, h⟩ := Bool.and_eq_true_iff.mp h
  obtain ⟨h2, h⟩ := Bool.and_eq_true_iff.mp h
  obtain ⟨h3, h⟩ := Bool.and_eq_true_iff.mp h
  obtain ⟨h4, h⟩ := Bool.and_eq_true_iff.mp h
  obtain ⟨h5, h⟩ := Bool.and_eq_true_iff.mp h
  obtain ⟨h6, h⟩ := Bool.and_eq_true_iff.mp h
  obtain ⟨h7, h8⟩ := Bool.and_eq_true_iff.mp h
  refine ⟨oexB_ok h1, ?_, of_decide_eq_true h3, of_decide_eq_true h4, of_decide_eq_true h5, of_decide_eq_true h6, mgs, top, of_decide_eq_true h7, of_decide_eq_true h8⟩
  unfold xw at e
  unfold xfnB at h2
  generalize He.ma K (He.ga K d.cls) "__init__" = f at e h2 ⊢
  cases q : K.lookup f with
  | none => rw [q] at e; cases e
  | some o =>
    obtain ⟨oc, od, dt, osl⟩ := o
    rw [q] at e h2
    cases dt with
    | func fd =>
      have ef : fdAt K f = fd := by unfold fdAt; rw [q]
      obtain ⟨n1, n2, n3, n4, n5, n6, n7, n8, n9, n10, n11, n12, n13, n14, n15⟩ := fd
      have e2 : (some (n1, n3, n4, n5, n6, n7.map (·.1), n15) : XW) = (some ("__init__", d.params, .stmts d.body, d.scope, mainGlobals, ["__class__"], builtinsNs) : XW) := e
      simp only [Option.some.injEq, Prod.mk.injEq] at e2
      obtain ⟨g1, g3, g4, g5, g6, g7, g15⟩ := e2
      subst g1 g3 g4 g5 g6 g15
      obtain ⟨k1, h2⟩ := Bool.and_eq_true_iff.mp h2
      obtain ⟨k2, h2⟩ := Bool.and_eq_true_iff.mp h2
      obtain ⟨k3, k4⟩ := Bool.and_eq_true_iff.mp h2
      dsimp only at k1 k3 k4
      clear e h2 h1 h3 h4 h5 h6 h7 h8
      cases n8 with
      | none =>
        match n7, g7, k3, q, ef with
        | [(nm, cc)], g7, k3, q, ef =>
          have e7 : nm = ("__class__" : Str) := by simpa using g7
          subst e7
          dsimp only at k3
          cases hcc : K.lookup cc with
          | none => rw [hcc] at k3; cases k3
          | some oc1 =>
            obtain ⟨cl, cld, cdt, csl⟩ := oc1
            rw [hcc] at k3
            split at k3
            · rename_i C' hC'
              have e8 := of_decide_eq_true k3
              cases n13 with
              | ref cda =>
                dsimp only at k4
                cases hcd : K.lookup cda with
                | none => rw [hcd] at k4; cases k4
                | some oc2 =>
                  obtain ⟨ccl, cdd, cdt2, ccs⟩ := oc2
                  rw [hcd] at k4
                  cases cdt2 with
                  | fields vs =>
                    dsimp only at k4
                    cases hz : (vs[2]? : Option Value) with
                    | none => rw [hz] at k4; cases k4
                    | some z =>
                      rw [hz] at k4
                      cases z with
                      | str z tf =>
                        have e9 : z = P.main.file := of_decide_eq_true k4
                        subst e9
                        simp only [Option.some.injEq, Obj.mk.injEq] at hC'
                        obtain ⟨rfl, rfl, rfl, rfl⟩ := hC'
                        subst e8
                        exact ⟨n2, n9, n10, n11, n14, oc, n12, od, osl, cc, cda, _, _, _, ccl, cdd, vs, ccs, tf, ef, by rw [ef], k2, hcc, hcd, hz⟩
                      | _ => cases k4
                  | _ => cases k4
              | _ => cases k4
            · cases k3
      | _ => cases k1
    | _ => cases e
/-! ### the head's Hook with them -/
abbrev AlX : Type := He.AlD × Bool × List XW
def obsX (fa : List He.Fa) (fn : List He.DefD) (ex : List (Frag → Bool)) (xs : List XD) (K : Frag) : AlX := (He.obsD fa fn K, ex.all (fun c => c K), xs.map fun d => xw K d.cls)
def valX (fn : List He.DefD) (xs : List XD) : AlX := (He.valD fn, true, xs.map XD.val)
def SaysX (fa : List He.Fa) (fn : List He.DefD) (ex : List (Frag → Bool)) (xs : List XD) (K : Frag) : Prop := obsX fa fn ex xs K = valX fn xs
def obsXG (n : Nat) (fa : List He.Fa) (fn : List He.DefD) (ex : List (Frag → Bool)) (xs : List XD) (g : Addr → Option Obj) : AlX := obsX fa fn ex xs (He.frG g (cStatics :: He.asD g n))
def hookX (n : Nat) (fa : List He.Fa) (fn : List He.DefD) (ex : List (Frag → Bool)) (xs : List XD) : Hook where
  α := AlX
  obs := fun s => obsXG n fa fn ex xs s.heap.get?
  val := fun _ => valX fn xs
  says := fun _ h => ∃ K : Frag, K.In h ∧ SaysX fa fn ex xs K
  of := fun _ _ e => ⟨_, He.frG_in, e⟩
  keeps := fun _ _ _ ⟨K, hK, c⟩ k => ⟨K, Frag.In.keeps hK k, c⟩
theorem obsXG_eq {n : Nat} {fa : List He.Fa} {fn : List He.DefD} {ex : List (Frag → Bool)} {xs : List XD} {g : Addr → Option Obj} {s : Shared} (h : ∀ a, g a = s.heap.get? a) : obsXG n fa fn ex xs g = (hookX n fa fn ex xs).obs s := by
  have e : g = s.heap.get? := funext h
  rw [e] <;> rfl
section
variable {fa : List He.Fa} {fn : List He.DefD} {ex : List (Frag → Bool)} {xs : List XD} {K : Frag}
theorem SaysX.d (c : SaysX fa fn ex xs K) : He.SaysD fa fn K := congrArg (fun z : AlX => z.1) c
theorem SaysX.e (c : SaysX fa fn ex xs K) (i : Nat) {f : Frag → Bool} (h : ex[i]? = some f := by rfl) : f K = true := by
  have c1 : ex.all (fun c => c K) = true := congrArg (fun z : AlX => z.2.1) c
  exact List.all_eq_true.mp c1 f (List.mem_of_getElem? h)
theorem SaysX.x (c : SaysX fa fn ex xs K) (i : Nat) {d : XD} (h : xs[i]? = some d := by rfl) : xw K d.cls = d.val := by
  have e : xs.map (fun d => xw K d.cls) = xs.map XD.val := congrArg (fun z : AlX => z.2.2) c
  have e2 : (xs.map fun d => xw K d.cls)[i]? = (xs.map XD.val)[i]? := by rw [e]
  rw [List.getElem?_map, List.getElem?_map, h] at e2
  exact Option.some.inj e2
end
/-- a law lets nothing out -/
theorem law_CX0 {P : Program} {w : World} {K : Frag} {mg : Str → Option Value} {base : Heap} {k : Nat} {f : Addr} {fd : FuncData} {ps : List Str} (F : FnOk P w K mg base (L2N.CX P w) k f fd ps (spLaw K)) : FnOk P w K mg base L2.CX0 k f fd ps (spLaw K) :=
  ⟨F.len, fun A outer s H args us vs Q E a b c d h => PySem.codeAny_mono (F.run A outer s H args us vs Q (fun _ _ _ => False) a b c d h) fun r s' hq => by
    cases r with
    | error e =>
      obtain ⟨_, _, _, _, _, _, _, _, _, _, _, _, z⟩ := hq
      exact z.elim
    | ok fl => cases fl <;> exact hq⟩
end AM
set_option Elab.async false
set_option linter.all false
set_option maxRecDepth 100000
set_option maxHeartbeats 4000000
namespace AM
open PySem L2
/-! ### the readings of AMobj and behind, as they run -/
def fldQ (cs : List Str) (f : Str) (q : D → S → Prop) (d : D) (s : S) : Prop := ∃ v, fldAt cs f (vw s d) = some v ∧ q v s
def zipQ (q : List D → Gd → S → Prop) (x y : D) (s : S) : Prop := ∃ l m, itemsD (vw s x) = some l ∧ itemsD (vw s y) = some m ∧ q (zipD l m) (gdOf s x ++ gdOf s y) s
def itQ (q : List D → S → Prop) (x : D) (s : S) : Prop := ∃ l, itemsD (vw s x) = some l ∧ q l s
def ownInQ (neg : Bool) (q : D → S → Prop) (r : Rs) (s : S) : Prop := ∃ k, r = .d (.bl k) ∧ q (.bl (k != neg)) s
def newQ (cn : Str) (k : Nat) (q : D → S → Prop) (r : Rs) (s2 : S) : Prop := r = .d .non ∧ ∃ fs, s2[k]? = some (.obj cn fs) ∧ ltF k fs ∧ ltS k (s2.take k) ∧ q (.obj cn fs) (s2.take k)
def newX (k : Nat) (er : QX) : QX := fun e s2 => e.lt k ∧ ltS k (s2.take k) ∧ er e (s2.take k)
def oAtQ (q : Option Int → S → Prop) (d : D) (s : S) : Prop := ∃ i, d = .int i ∧ q (some i) s
section
variable {env : List A} {st : S} {q : D → S → Prop} {qt : Bool → S → Prop} {ql : List D → S → Prop} {er : QX} {k : AK} {a b c : AE} {as : AEs} {s u : AS} {t v : AT} {g : AG} {gs : AGs} {f f2 : O2} {i j : Nat} {d : D} {x y w : D} {xs : List D} {it it1 : AI} {qi : List D → Gd → S → Prop} {af bf : AFr} {z : List A → Prop} {o : O1} {fn : ON} {vs vs1 : List Nat} {gd : Gd} {g1 : AG} {t1 : AT} {m : AF} {dd : List D} {ix : List Nat} {cs : List Str} {cn fd mn : Str} {P : D → Prop} {neg : Bool} {lo hi : AO} {fdc : AFd} {qd : List (D × D) → S → Prop} {qo : Option Int → S → Prop} {xd : List (D × D)}
theorem fldQ_of (e : fldAt cs fd (vw st d) = some x) : fldQ cs fd q d st = q x st := propext ⟨fun ⟨_, e2, w⟩ => by rw [e] at e2; cases e2; exact w, fun w => ⟨_, e, w⟩⟩
theorem itQ_of (e : itemsD (vw st d) = some xs) : itQ ql d st = ql xs st := propext ⟨fun ⟨_, e2, w⟩ => by rw [e] at e2; cases e2; exact w, fun w => ⟨_, e, w⟩⟩
theorem zipQ_of {ys : List D} (e : itemsD (vw st x) = some xs) (e2 : itemsD (vw st y) = some ys) : zipQ qi x y st = qi (zipD xs ys) (gdOf st x ++ gdOf st y) st := propext ⟨fun ⟨_, _, e3, e4, w⟩ => by rw [e] at e3; cases e3; rw [e2] at e4; cases e4; exact w, fun w => ⟨_, _, e, e2, w⟩⟩
@[simp] theorem zipQ_ll {l r : List D} : zipQ qi (.lst l) (.lst r) st = qi (zipD l r) [] st := zipQ_of rfl rfl
@[simp] theorem zipQ_lt {l r : List D} : zipQ qi (.lst l) (.tup r) st = qi (zipD l r) [] st := zipQ_of rfl rfl
@[simp] theorem zipQ_tl {l r : List D} : zipQ qi (.tup l) (.lst r) st = qi (zipD l r) [] st := zipQ_of rfl rfl
@[simp] theorem zipQ_tt {l r : List D} : zipQ qi (.tup l) (.tup r) st = qi (zipD l r) [] st := zipQ_of rfl rfl
@[simp] theorem itQ_lst {l : List D} : itQ ql (.lst l) st = ql l st := itQ_of rfl
@[simp] theorem itQ_tup {l : List D} : itQ ql (.tup l) st = ql l st := itQ_of rfl
@[simp] theorem ownInQ_bl {h : Bool} : ownInQ neg q (.d (.bl h)) st = q (.bl (h != neg)) st := propext ⟨fun ⟨_, e, w⟩ => by cases e; exact w, fun w => ⟨_, rfl, w⟩⟩
@[simp] theorem oAtQ_int {h : Int} : oAtQ qo (.int h) st = qo (some h) st := propext ⟨fun ⟨_, e, w⟩ => by cases e; exact w, fun w => ⟨_, rfl, w⟩⟩
@[simp ↓] theorem ev_aFld : aFld cs fd a env st q er = a env st (fldQ cs fd q) er := propext Iff.rfl
@[simp ↓] theorem ev_aMeth : aMeth cn mn m a as dd env st q er = a env st (fun d s1 => isObj cn mn (vw s1 d) ∧ as env s1 (fun ds s2 => m (d :: (ds ++ dd)) s2 (rsQ q) er) er) er := propext Iff.rfl
@[simp ↓] theorem ev_fMeth : fMeth cn mn m a as dd env st ql er = a env st (fun d s1 => isObj cn mn (vw s1 d) ∧ as env s1 (fun ds s2 => m (d :: (ds ++ dd)) s2 (rsF ql) er) er) er := propext Iff.rfl
@[simp ↓] theorem ev_aNew : aNew cn m as dd env st q er = as env st (fun ds s1 => ltL s1.length ds → ltS s1.length s1 → m (.ref s1.length :: (ds ++ dd)) (s1 ++ [.obj cn []]) (newQ cn s1.length q) (newX s1.length er)) er := propext Iff.rfl
@[simp ↓] theorem ev_aNewM : aNewM cn m as dd env st q er = as env st (fun ds s1 => m (.ref s1.length :: (ds ++ dd)) (s1 ++ [.obj cn []]) (fun r s2 => r = .d .non ∧ q (.ref s1.length) s2) er) er := propext Iff.rfl
@[simp ↓] theorem ev_sFldSet : sFldSet cn fd a b env st k = b env st (fun d s1 => a env s1 (fun x s2 => ∃ n fs, x = .ref n ∧ s2[n]? = some (.obj cn fs) ∧ fs.length < 1000 ∧ k.nx env (s2.set n (.obj cn (putD fd d fs)))) (fun e s => k.er e env s)) (fun e s => k.er e env s) := propext Iff.rfl
@[simp ↓] theorem ev_aOwn2 : aOwn2 cn m P a b env st q er = a env st (fun x s1 => b env s1 (fun y s2 => isCls cn (vw s2 x) ∧ P (vw s2 y) ∧ m [x, y] s2 (rsQ q) er) er) er := propext Iff.rfl
@[simp ↓] theorem ev_aOwn1 : aOwn1 cn m a env st q er = a env st (fun x s1 => isCls cn (vw s1 x) ∧ m [x] s1 (rsQ q) er) er := propext Iff.rfl
@[simp ↓] theorem ev_aOwnIn : aOwnIn cn neg m a b env st q er = a env st (fun x s1 => b env s1 (fun y s2 => isCls cn (vw s2 y) ∧ m [y, x] s2 (ownInQ neg q) er) er) er := propext Iff.rfl
@[simp ↓] theorem ev_aZip : aZip a b env st qi er = a env st (fun x s1 => b env s1 (zipQ qi x) er) er := propext Iff.rfl
@[simp ↓] theorem ev_aEnum : aEnum a env st qi er = a env st (fun x s1 => ∃ l, itemsD (vw s1 x) = some l ∧ qi (enumD l) (gdOf s1 x) s1) er := propext Iff.rfl
@[simp ↓] theorem ev_aStar : aStar a as env st ql er = a env st (itQ fun l s1 => as env s1 (fun xs s2 => ql (l ++ xs) s2) er) er := propext Iff.rfl
@[simp ↓] theorem ev_oNo : oNo env st qo er = qo none st := propext Iff.rfl
@[simp ↓] theorem ev_oAt : oAt a env st qo er = a env st (oAtQ qo) er := propext Iff.rfl
@[simp ↓] theorem ev_aSl : aSl a lo hi env st q er = a env st (fun x s1 => lo env s1 (fun l s2 => hi env s2 (fun h s3 => slD (vw s3 x) l h fun d => q d s3) er) er) er := propext Iff.rfl
@[simp ↓] theorem ev_aFd : aFd fdc env st q er = fdc env st (fun l s1 => q (.dic l) s1) er := propext Iff.rfl
@[simp ↓] theorem ev_fDc : fDc it g t a b vs env st qd er = it env st (fun ds gd s1 => aDcL gd g t a b (wA vs env) qd ds [] s1) er := propext Iff.rfl
@[simp ↓] theorem ev_fDNew : fDNew env st qd er = qd [] st := propext Iff.rfl
@[simp] theorem ev_oIxA_lst {l : List D} {q : D → Prop} {h : Int} : oIxA (.lst l) (.int h) q = ∃ d, atI l h = some d ∧ q d := propext Iff.rfl
@[simp] theorem ev_oIxA_tup {l : List D} {q : D → Prop} {h : Int} : oIxA (.tup l) (.int h) q = ∃ d, atI l h = some d ∧ q d := propext Iff.rfl
@[simp] theorem ev_oIxA_dic {q : D → Prop} : oIxA (.dic xd) x q = ∃ d, DLook xd x d ∧ q d := propext Iff.rfl
theorem oIxA_at {l : List D} {q : D → Prop} {h : Int} (e : atI l h = some d) (hq : q d) : oIxA (.lst l) (.int h) q := ⟨_, e, hq⟩
@[simp] theorem isCls_obj {fs : List (Str × D)} : isCls cn (.obj cn fs) = True := propext ⟨fun _ => trivial, fun _ => rfl⟩
@[simp] theorem isInt_int {h : Int} : isInt (.int h) = True := propext Iff.rfl
@[simp] theorem anyD_t : anyD x = True := propext Iff.rfl
@[simp] theorem ev_oIs {q : D → Prop} : oIs x .non q = ∃ b, nonD x = some b ∧ q (.bl b) := propext ⟨fun h => h.2, fun h => ⟨rfl, h⟩⟩
@[simp] theorem ev_oIsNot {q : D → Prop} : oIsNot x .non q = ∃ b, nonD x = some b ∧ q (.bl (!b)) := propext ⟨fun h => h.2, fun h => ⟨rfl, h⟩⟩
theorem dc_nil : aDcL gd g t a b env qd [] xd st = (gdOk gd st ∧ qd xd st) := propext Iff.rfl
theorem dc_cons {acc : List (D × D)} : aDcL gd g t a b env qd (x :: xs) acc st = (gdOk gd st ∧ g x env st fun e1 => t e1 st (fun c s2 => if c = true then a e1 s2 (fun kk s3 => b e1 s3 (fun y s4 => isKeyT kk ∧ acc.length < 100000 ∧ ∃ acc', DPutD acc kk y acc' ∧ aDcL gd g t a b env qd xs acc' s4) (fun _ _ => False)) (fun _ _ => False) else aDcL gd g t a b env qd xs acc s2) (fun _ _ => False)) := propext Iff.rfl
theorem lc2_nil : aLc2L gd g t it1 g1 t1 a vs1 env ql [] xs st = (gdOk gd st ∧ ql xs st) := propext Iff.rfl
theorem lc2_cons {acc : List D} : aLc2L gd g t it1 g1 t1 a vs1 env ql (x :: xs) acc st = (gdOk gd st ∧ g x env st fun e1 => t e1 st (fun b s2 => if b = true then it1 e1 s2 (fun ds1 gd1 s3 => aLcL gd1 g1 t1 a (wA vs1 e1) (fun acc' s4 => aLc2L gd g t it1 g1 t1 a vs1 env ql xs acc' s4) ds1 acc s3) (fun _ _ => False) else aLc2L gd g t it1 g1 t1 a vs1 env ql xs acc s2) (fun _ _ => False)) := propext Iff.rfl
/-- a comprehension whose items come without a change of the store -/
theorem lc_imp {G : D → D} {p : D → Bool} (hg : gdOk gd st) : ∀ (ds acc : List D), (∀ x ∈ ds, ∀ (P1 : D → S → Prop) (P2 : S → Prop), (if p x = true then P1 (G x) st else P2 st) → g x env st fun e1 => t e1 st (fun b s2 => if b = true then a e1 s2 P1 (fun _ _ => False) else P2 s2) (fun _ _ => False)) → acc.length + ds.length ≤ 100000 → ql (acc ++ (ds.filter p).map G) st → aLcL gd g t a env ql ds acc st
  | [], acc, _, _, hq => by rw [lc_nil]; simpa [hg] using hq
  | x :: xs, acc, h, hl, hq => by
    rw [lc_cons]
    refine ⟨hg, h x (by simp) _ _ ?_⟩
    have hl' : acc.length < 100000 := by simp at hl; omega
    by_cases hp : p x = true
    · rw [if_pos hp]
      exact ⟨hl', lc_imp hg xs _ (fun y hy => h y (by simp [hy])) (by simp at hl ⊢; omega) (by simpa [List.filter_cons, hp] using hq)⟩
    · rw [if_neg hp]
      exact lc_imp hg xs _ (fun y hy => h y (by simp [hy])) (by simp at hl ⊢; omega) (by simpa [List.filter_cons, hp] using hq)
theorem lc_all {G : D → D} (hg : gdOk gd st) {ds acc : List D} (h : ∀ x ∈ ds, ∀ (P1 : D → S → Prop) (P2 : S → Prop), P1 (G x) st → g x env st fun e1 => t e1 st (fun b s2 => if b = true then a e1 s2 P1 (fun _ _ => False) else P2 s2) (fun _ _ => False)) (hl : acc.length + ds.length ≤ 100000) (hq : ql (acc ++ ds.map G) st) : aLcL gd g t a env ql ds acc st :=
  lc_imp (G := G) (p := fun _ => true) hg ds acc (fun x hx P1 P2 hh => h x hx P1 P2 (by simpa using hh)) hl (by rw [List.filter_eq_self.mpr (fun _ _ => rfl)]; exact hq)
/-- the items are tellings of a list -/
theorem lc_of {α : Type} {T : α → D} {G : α → D} (hg : gdOk gd st) : ∀ (l : List α) {acc : List D}, (∀ x ∈ l, ∀ (P1 : D → S → Prop) (P2 : S → Prop), P1 (G x) st → g (T x) env st fun e1 => t e1 st (fun b s2 => if b = true then a e1 s2 P1 (fun _ _ => False) else P2 s2) (fun _ _ => False)) → acc.length + l.length ≤ 100000 → ql (acc ++ l.map G) st → aLcL gd g t a env ql (l.map T) acc st
  | [], acc, _, _, hq => by rw [List.map_nil, lc_nil]; simpa [hg] using hq
  | x :: xs, acc, h, hl, hq => by
    rw [List.map_cons, lc_cons]
    refine ⟨hg, h x (by simp) _ _ ⟨by simp at hl; omega, lc_of hg xs (fun y hy => h y (by simp [hy])) (by simp at hl ⊢; omega) (by simpa using hq)⟩⟩
theorem lc_ofP {α : Type} {T : α → D} {G : α → D} {p : α → Bool} (hg : gdOk gd st) : ∀ (l : List α) {acc : List D}, (∀ x ∈ l, ∀ (P1 : D → S → Prop) (P2 : S → Prop), (if p x = true then P1 (G x) st else P2 st) → g (T x) env st fun e1 => t e1 st (fun b s2 => if b = true then a e1 s2 P1 (fun _ _ => False) else P2 s2) (fun _ _ => False)) → acc.length + l.length ≤ 100000 → ql (acc ++ (l.filter p).map G) st → aLcL gd g t a env ql (l.map T) acc st
  | [], acc, _, _, hq => by rw [List.map_nil, lc_nil]; simpa [hg] using hq
  | x :: xs, acc, h, hl, hq => by
    rw [List.map_cons, lc_cons]
    refine ⟨hg, h x (by simp) _ _ ?_⟩
    by_cases hp : p x = true
    · rw [if_pos hp]
      exact ⟨by simp at hl; omega, lc_ofP hg xs (fun y hy => h y (by simp [hy])) (by simp at hl ⊢; omega) (by simpa [List.filter_cons, hp] using hq)⟩
    · rw [if_neg hp]
      exact lc_ofP hg xs (fun y hy => h y (by simp [hy])) (by simp at hl ⊢; omega) (by simpa [List.filter_cons, hp] using hq)
/-- with a change of the store: by what holds ahead of the items that are left -/
theorem lc_ind {P : List D → List D → S → Prop} (h0 : ∀ acc st, P [] acc st → gdOk gd st ∧ ql acc st) (h1 : ∀ x xs acc st, P (x :: xs) acc st → ∀ (P1 : D → S → Prop) (P2 : S → Prop), (∀ y s, P xs (acc ++ [y]) s → P1 y s) → (∀ s, P xs acc s → P2 s) → gdOk gd st ∧ acc.length < 100000 ∧ g x env st fun e1 => t e1 st (fun b s2 => if b = true then a e1 s2 P1 (fun _ _ => False) else P2 s2) (fun _ _ => False)) : ∀ ds acc st, P ds acc st → aLcL gd g t a env ql ds acc st
  | [], acc, st, h => by rw [lc_nil]; exact h0 acc st h
  | x :: xs, acc, st, h => by
    rw [lc_cons]
    have hl : acc.length < 100000 := (h1 x xs acc st h (fun _ _ => True) (fun _ => True) (fun _ _ _ => trivial) (fun _ _ => trivial)).2.1
    obtain ⟨h2, _, h3⟩ := h1 x xs acc st h (fun y s3 => acc.length < 100000 ∧ aLcL gd g t a env ql xs (acc ++ [y]) s3) (fun s2 => aLcL gd g t a env ql xs acc s2) (fun y s hp => ⟨hl, lc_ind h0 h1 xs _ s hp⟩) (fun s hp => lc_ind h0 h1 xs _ s hp)
    exact ⟨h2, h3⟩
/-- two rows of for -/
theorem lc2_of {α : Type} {T : α → D} {F : α → List D} (hg : gdOk gd st) : ∀ (l : List α) {acc : List D}, (∀ x ∈ l, ∀ (acc : List D) (q2 : List D → S → Prop) (P2 : S → Prop), acc.length + (F x).length ≤ 100000 → q2 (acc ++ F x) st → g (T x) env st fun e1 => t e1 st (fun b s2 => if b = true then it1 e1 s2 (fun ds1 gd1 s3 => aLcL gd1 g1 t1 a (wA vs1 e1) q2 ds1 acc s3) (fun _ _ => False) else P2 s2) (fun _ _ => False)) → acc.length + (l.flatMap F).length ≤ 100000 → ql (acc ++ l.flatMap F) st → aLc2L gd g t it1 g1 t1 a vs1 env ql (l.map T) acc st
  | [], acc, _, _, hq => by rw [List.map_nil, lc2_nil]; simpa [hg] using hq
  | x :: xs, acc, h, hl, hq => by
    rw [List.map_cons, lc2_cons]
    simp only [List.flatMap_cons, List.length_append] at hl
    exact ⟨hg, h x (by simp) acc _ _ (by omega) (lc2_of hg xs (fun y hy => h y (by simp [hy])) (by rw [List.length_append]; omega) (by simpa using hq))⟩
theorem dput_new : ∀ {acc : List (D × D)}, (∀ p ∈ acc, p.1 ≠ x) → DPutD acc x y (acc ++ [(x, y)])
  | [], _ => .nil
  | (k', w) :: r, h => .there (h (k', w) (by simp)) (dput_new fun p hp => h p (by simp [hp]))
theorem dc_of {α : Type} {T KK V : α → D} (hg : gdOk gd st) : ∀ (l : List α) {acc : List (D × D)}, (∀ x ∈ l, ∀ (P1 : D → D → S → Prop) (P2 : S → Prop), P1 (KK x) (V x) st → g (T x) env st fun e1 => t e1 st (fun c s2 => if c = true then a e1 s2 (fun kk s3 => b e1 s3 (fun y s4 => P1 kk y s4) (fun _ _ => False)) (fun _ _ => False) else P2 s2) (fun _ _ => False)) → (∀ x ∈ l, isKeyT (KK x)) → (∀ x ∈ l, ∀ p ∈ acc, p.1 ≠ KK x) → (l.map KK).Nodup → acc.length + l.length ≤ 100000 → qd (acc ++ l.map fun x => (KK x, V x)) st → aDcL gd g t a b env qd (l.map T) acc st
  | [], acc, _, _, _, _, _, hq => by rw [List.map_nil, dc_nil]; simpa [hg] using hq
  | x :: xs, acc, h, hk, hn, hd, hl, hq => by
    rw [List.map_cons, dc_cons]
    rw [List.map_cons, List.nodup_cons] at hd
    refine ⟨hg, h x (by simp) _ _ ⟨hk x (by simp), by simp at hl; omega, _, dput_new (hn x (by simp)), ?_⟩⟩
    refine dc_of hg xs (fun y hy => h y (by simp [hy])) (fun y hy => hk y (by simp [hy])) (fun y hy p hp => ?_) hd.2 (by simp at hl ⊢; omega) (by simpa using hq)
    rcases List.mem_append.mp hp with hp | hp
    · exact hn y (by simp [hy]) p hp
    · have : p = (KK x, V x) := by simpa using hp
      subst this
      exact fun e => hd.1 (show KK x ∈ _ from (show KK x = KK y from e) ▸ List.mem_map_of_mem hy)
theorem dlook_zip {α : Type} {KK V : α → D} : ∀ (l : List α) {x : α}, (l.map KK).Nodup → x ∈ l → DLook (l.map fun x => (KK x, V x)) (KK x) (V x)
  | [], _, _, h => by cases h
  | y :: ys, x, hd, h => by
    rw [List.map_cons, List.nodup_cons] at hd
    rw [List.map_cons]
    rcases List.mem_cons.mp h with rfl | h
    · exact .here
    · exact .there (fun e => hd.1 (show KK y ∈ _ from (show KK y = KK x from e) ▸ List.mem_map_of_mem h)) (dlook_zip ys hd.2 h)
theorem dlook_one {l : List (D × D)} {k v v' : D} (a : DLook l k v) (b : DLook l k v') : v = v' := by
  induction a with
  | here => cases b with
    | here => rfl
    | there h _ => exact (h rfl).elim
  | there h _ ih => cases b with
    | here => exact (h rfl).elim
    | there _ b => exact ih b
end
end AM
set_option Elab.async false
set_option linter.all false
set_option maxRecDepth 100000
set_option maxHeartbeats 4000000
namespace AM
open PySem L2
section
variable {env : List A} {st : S} {k : AK} {s : AS} {cs : List AClause} {xm : Str → Option Bool} {o : Option Nat} {su : Addr → Value → Option Addr → AS} {e : Er} {i : Nat} {c : Str} {a : Addr} {v : Value} {dx : Option Addr} {f : Str} {x : D} {q : D → S → Prop} {er : QX}
@[simp ↓] theorem ev_sTryMix : sTryMix s cs env st k = s env st { k with er := erMix cs k } := propext Iff.rfl
theorem erMix_nil : erMix [] k e env st = k.er e env st := propext Iff.rfl
theorem erMix_yes (h : xm e.cls = some true) : erMix ((xm, o, su) :: cs) k e env st = ∀ a c dx, su a c dx (eAt env (.exc a c dx e) o) st (kAt k o) := propext ⟨fun ⟨b, h1, h2, _⟩ => by rw [h] at h1; cases h1; exact h2 rfl, fun h2 => ⟨true, h, fun _ => h2, fun z => by cases z⟩⟩
theorem erMix_no (h : xm e.cls = some false) : erMix ((xm, o, su) :: cs) k e env st = erMix cs k e env st := propext ⟨fun ⟨b, h1, _, h2⟩ => by rw [h] at h1; cases h1; exact h2 rfl, fun h2 => ⟨false, h, fun z => (by cases z), fun _ => h2⟩⟩
@[simp] theorem kAt_none : kAt k none = { k with er := fun _ _ _ => False } := rfl
@[simp] theorem kAt_some : kAt k (some i) = { nx := fun env' s => k.nx (env'.set i .no) s, rt := k.rt, bk := fun env' s => k.bk (env'.set i .no) s, ct := fun env' s => k.ct (env'.set i .no) s, er := fun _ _ _ => False } := rfl
@[simp] theorem eAt_none {y : A} : eAt env y none = env := rfl
@[simp] theorem eAt_some {y : A} : eAt env y (some i) = env.set i y := rfl
theorem ev_aXf (h : env[i]? = some (.exc a v dx ⟨c, some (f, x)⟩)) : aXf a v dx c i f env st q er = q x st := by
  unfold aXf
  rw [h]
  exact propext ⟨fun ⟨_, _, _, _, x', e, w⟩ => by cases e; exact w, fun w => ⟨rfl, rfl, rfl, rfl, _, rfl, w⟩⟩
end
end AM
set_option Elab.async false
set_option linter.all false
set_option maxRecDepth 100000
set_option maxHeartbeats 4000000
namespace AM
open PySem L2
def dzQ (q : List (D × D) → S → Prop) (x y : D) (s : S) : Prop := ∃ l m, vw s x = .lst l ∧ vw s y = .lst m ∧ l.length = m.length ∧ (∀ k ∈ l, isKeyT k) ∧ l.Nodup ∧ q (l.zip m) s
def lzQ (q : List D → S → Prop) (x y : D) (s : S) : Prop := ∃ l m, vw s x = .lst l ∧ vw s y = .lst m ∧ l.length = m.length ∧ q (zipD l m) s
section
variable {env : List A} {st : S} {q : D → S → Prop} {ql : List D → S → Prop} {er : QX} {k : AK} {a b c : AE} {qd : List (D × D) → S → Prop}
@[simp ↓] theorem ev_fDZip : fDZip a b env st qd er = a env st (fun x s1 => b env s1 (dzQ qd x) er) er := propext Iff.rfl
@[simp ↓] theorem ev_fLZip : fLZip a b env st ql er = a env st (fun x s1 => b env s1 (lzQ ql x) er) er := propext Iff.rfl
@[simp] theorem lzQ_ll {l r : List D} : lzQ ql (.lst l) (.lst r) st = (l.length = r.length ∧ ql (zipD l r) st) := propext ⟨fun ⟨_, _, e1, e2, h1, h2⟩ => by cases e1; cases e2; exact ⟨h1, h2⟩, fun ⟨h1, h2⟩ => ⟨_, _, rfl, rfl, h1, h2⟩⟩
@[simp] theorem dzQ_ll {l r : List D} : dzQ qd (.lst l) (.lst r) st = (l.length = r.length ∧ (∀ k ∈ l, isKeyT k) ∧ l.Nodup ∧ qd (l.zip r) st) := propext ⟨fun ⟨_, _, e1, e2, h1, h2, h3, h4⟩ => by cases e1; cases e2; exact ⟨h1, h2, h3, h4⟩, fun ⟨h1, h2, h3, h4⟩ => ⟨_, _, rfl, rfl, h1, h2, h3, h4⟩⟩
@[simp ↓] theorem ev_sAugIx : sAugIx a b c env st k = a env st (fun x s1 => b env s1 (fun j s2 => ∃ n i l v, x = .ref n ∧ j = .int i ∧ s2[n]? = some (.lst l) ∧ atI l i = some (.int v) ∧ c env s2 (fun y s3 => ∃ w l' j', y = .int w ∧ s3[n]? = some (.lst l') ∧ ixN l'.length i = some j' ∧ k.nx env (s3.set n (.lst (l'.set j' (.int (v + w)))))) (fun e s => k.er e env s)) (fun e s => k.er e env s)) (fun e s => k.er e env s) := propext Iff.rfl
@[simp ↓] theorem ev_sAugDx : sAugDx a b c env st k = a env st (fun x s1 => b env s1 (fun j s2 => ∃ n l v, x = .ref n ∧ isKeyT (vw s2 j) ∧ s2[n]? = some (.dic l) ∧ DLook l (vw s2 j) (.int v) ∧ c env s2 (fun y s3 => ∃ w l' l2, y = .int w ∧ s3[n]? = some (.dic l') ∧ keysT l' ∧ l'.length < 100000 ∧ vw s3 j = vw s2 j ∧ DPutD l' (vw s3 j) (.int (v + w)) l2 ∧ k.nx env (s3.set n (.dic l2))) (fun e s => k.er e env s)) (fun e s => k.er e env s)) (fun e s => k.er e env s) := propext Iff.rfl
end
end AM
set_option Elab.async false
set_option linter.all false
set_option maxRecDepth 100000
set_option maxHeartbeats 4000000
namespace AM
open PySem L2
def revQ (q : D → S → Prop) (x : D) (s : S) : Prop := ∃ l, vw s x = .lst l ∧ q (.lst l.reverse) s
def dpQ (q : List (D × D) → S → Prop) (x : D) (s : S) : Prop := ∃ ps : List (D × D), vw s x = .lst (ps.map fun p => D.tup [p.1, p.2]) ∧ (∀ p ∈ ps, isKeyT p.1) ∧ (ps.map (·.1)).Nodup ∧ q ps s
def idxQ (q : D → S → Prop) (x y : D) (s : S) : Prop := ∃ l j z, vw s x = .lst l ∧ (D.lst l).shp ∧ (vw s y).shp ∧ l[j]? = some z ∧ D.eqv z (vw s y) = true ∧ (∀ (m : Nat) (z' : D), m < j → l[m]? = some z' → D.eqv z' (vw s y) = false) ∧ q (.int (j : Nat)) s
section
variable {env : List A} {st : S} {q : D → S → Prop} {er : QX} {k : AK} {a b c : AE} {qd : List (D × D) → S → Prop}
@[simp ↓] theorem ev_aRev : aRev a env st q er = a env st (revQ q) er := propext Iff.rfl
@[simp] theorem revQ_l {l : List D} : revQ q (.lst l) st = q (.lst l.reverse) st := propext ⟨fun ⟨_, e1, h⟩ => by cases e1; exact h, fun h => ⟨_, rfl, h⟩⟩
@[simp ↓] theorem ev_oRep {l : List D} {i : Int} {q : D → Prop} : oRep (.lst l) (.int i) q = (0 ≤ i ∧ i ≤ 100000 ∧ l.length * i.toNat ≤ 100000 ∧ q (.lst (List.replicate i.toNat l).flatten)) := propext ⟨fun ⟨_, _, e1, e2, h⟩ => by cases e1; cases e2; exact h, fun h => ⟨_, _, rfl, rfl, h⟩⟩
@[simp ↓] theorem ev_fDPairs : fDPairs a env st qd er = a env st (dpQ qd) er := propext Iff.rfl
@[simp ↓] theorem ev_aIdx : aIdx a b env st q er = a env st (fun x s1 => (∃ l, vw s1 x = .lst l) ∧ b env s1 (idxQ q x) er) er := propext Iff.rfl
theorem dpQ_of {ps : List (D × D)} (h1 : ∀ p ∈ ps, isKeyT p.1) (h2 : (ps.map (·.1)).Nodup) (h : qd ps st) : dpQ qd (.lst (ps.map fun p => D.tup [p.1, p.2])) st := ⟨ps, rfl, h1, h2, h⟩
end
end AM
set_option Elab.async false
set_option linter.all false
set_option maxRecDepth 100000
set_option maxHeartbeats 4000000
namespace AM
open PySem L2
section
variable {env : List A} {st : S} {k : AK} {a : AE}
@[simp ↓] theorem ev_sExt {i : Nat} : sExt i a env st k = ∃ n, env[i]? = some (.d (.ref n)) ∧ a env st (fun y s1 => ∃ l l2, s1[n]? = some (.lst l) ∧ vw s1 y = .lst l2 ∧ l.length + l2.length ≤ 100000 ∧ k.nx (env.set i (.d (.ref n))) (s1.set n (.lst (l ++ l2)))) (fun e s1 => k.er e env s1) := propext Iff.rfl
end
section
variable {env : List A} {st : S} {q : D → S → Prop} {qt : Bool → S → Prop} {ql : List D → S → Prop} {er : QX} {k : AK} {a b c : AE} {as : AEs} {s u : AS} {t v : AT} {g : AG} {gs : AGs} {f f2 : O2} {i j : Nat} {d : D} {x y w : D} {xs : List D} {it it1 : AI} {qi : List D → Gd → S → Prop} {af bf : AFr} {z : List A → Prop} {o : O1} {fn : ON} {vs vs1 : List Nat} {gd : Gd} {g1 : AG} {t1 : AT} {m : AF} {dd : List D} {ix : List Nat} {cs : List Str} {cn fd mn : Str} {P : D → Prop} {neg : Bool} {lo hi : AO} {fdc : AFd} {qd : List (D × D) → S → Prop} {qo : Option Int → S → Prop} {xd : List (D × D)}
theorem lc_ofQ {α : Type} {T : α → D} {G : α → D} {p : α → Bool} (hg : gdOk gd st) : ∀ (l : List α) {acc : List D}, (∀ x ∈ l, ∀ (P1 : D → S → Prop) (P2 : S → Prop), (if p x = true then P1 (G x) st else P2 st) → g (T x) env st fun e1 => t e1 st (fun b s2 => if b = true then a e1 s2 P1 (fun _ _ => False) else P2 s2) (fun _ _ => False)) → acc.length + (l.filter p).length ≤ 100000 → ql (acc ++ (l.filter p).map G) st → aLcL gd g t a env ql (l.map T) acc st
  | [], acc, _, _, hq => by rw [List.map_nil, lc_nil]; simpa [hg] using hq
  | x :: xs, acc, h, hl, hq => by
    rw [List.map_cons, lc_cons]
    refine ⟨hg, h x (by simp) _ _ ?_⟩
    by_cases hp : p x = true
    · rw [if_pos hp]
      rw [List.filter_cons_of_pos hp, List.length_cons] at hl
      exact ⟨by omega, lc_ofQ hg xs (fun y hy => h y (by simp [hy])) (by rw [List.length_append, List.length_singleton]; omega) (by simpa [List.filter_cons, hp] using hq)⟩
    · rw [if_neg hp]
      rw [List.filter_cons_of_neg hp] at hl
      exact lc_ofQ hg xs (fun y hy => h y (by simp [hy])) hl (by simpa [List.filter_cons, hp] using hq)
end
end AM
set_option Elab.async false
set_option linter.all false
set_option maxRecDepth 100000
set_option maxHeartbeats 2000000
namespace AM
open PySem L2 Evl
section
variable {c f : Str} {a : AE} {env : List A} {st : S} {qi : List D → Gd → S → Prop} {er : QX}
@[simp ↓] theorem ev_aIterO : aIterO c f a env st qi er = a env st (fun d s1 => ∃ l, itemsO c f d = some l ∧ qi l [] s1) er := propext Iff.rfl
theorem itemsO_obj {c f : Str} {fs : List (Str × D)} {l : List D} (h : fs.lookup f = some (.lst l)) : itemsO c f (.obj c fs) = some l := by
  show (if c = c then (match fs.lookup f with
    | some (.lst l) => some l
    | _ => none) else none) = some l
  rw [if_pos rfl, h]
end
end AM
set_option Elab.async false
set_option linter.all false
set_option maxRecDepth 100000
set_option maxHeartbeats 2000000
namespace AM
open PySem L2 Evl
section
variable {env : List A} {st : S} {q : D → S → Prop} {er : QX} {k : AK} {a b c : AE} {af : AFr} {fd : AFd} {qd : List (D × D) → S → Prop} {i : Nat}
@[simp ↓] theorem ev_sRetD : sRetD fd env st k = fd env st (fun l s1 => k.rt (.ownD l) s1) (fun e s1 => k.er e env s1) := propext Iff.rfl
@[simp ↓] theorem ev_aCellL : aCellL af env st q er = af env st (fun l s1 => q (.ref s1.length) (s1 ++ [.lst l])) er := propext Iff.rfl
@[simp ↓] theorem ev_aCellD : aCellD fd env st q er = fd env st (fun l s1 => q (.ref s1.length) (s1 ++ [.dic l])) er := propext Iff.rfl
@[simp ↓] theorem ev_aClrD : aClrD a env st q er = a env st (fun x s1 => ∃ n l, x = .ref n ∧ s1[n]? = some (.dic l) ∧ q .non (s1.set n (.dic []))) er := propext Iff.rfl
@[simp ↓] theorem ev_aClrL : aClrL a env st q er = a env st (fun x s1 => ∃ n l, x = .ref n ∧ s1[n]? = some (.lst l) ∧ q .non (s1.set n (.lst []))) er := propext Iff.rfl
@[simp ↓] theorem ev_aPopL : aPopL a env st q er = a env st (fun x s1 => ∃ n l y, x = .ref n ∧ s1[n]? = some (.lst l) ∧ l[l.length - 1]? = some y ∧ q y (s1.set n (.lst l.dropLast))) er := propext Iff.rfl
@[simp ↓] theorem ev_aPopI : aPopI a b env st q er = a env st (fun x s1 => ∃ n l0, x = .ref n ∧ s1[n]? = some (.lst l0) ∧ b env s1 (fun j s2 => ∃ (i : Nat) (l : List D) (y : D), j = .int (i : Int) ∧ i < 2 ^ 63 ∧ s2[n]? = some (.lst l) ∧ l[i]? = some y ∧ q y (s2.set n (.lst (l.eraseIdx i)))) er) er := propext Iff.rfl
@[simp ↓] theorem ev_aGetD : aGetD a b c env st q er = a env st (fun x s1 => (∃ l0, vw s1 x = .dic l0) ∧ b env s1 (fun y s2 => c env s2 (fun z s3 => ∃ l r, vw s3 x = .dic l ∧ isKeyT (vw s3 y) ∧ DGetD l (vw s3 y) r ∧ q (r.getD z) s3) er) er) er := propext Iff.rfl
@[simp ↓] theorem ev_sSetDx : sSetDx a b c env st k = c env st (fun d s1 => a env s1 (fun x s2 => b env s2 (fun j s3 => ∃ n l l2, x = .ref n ∧ s3[n]? = some (.dic l) ∧ isKeyT (vw s3 j) ∧ l.length < 100000 ∧ DPutD l (vw s3 j) d l2 ∧ k.nx env (s3.set n (.dic l2))) (fun e s => k.er e env s)) (fun e s => k.er e env s)) (fun e s => k.er e env s) := propext Iff.rfl
@[simp ↓] theorem ev_sCellD : sCellD fd i env st k = fd env st (fun l s1 => k.nx (env.set i (.d (.ref s1.length))) (s1 ++ [.dic l])) (fun e s1 => k.er e env s1) := propext Iff.rfl
end
/-- a dict is as it is -/
theorem hits_self {α : Type} {KK V : α → D} {m : List (D × D)} : ∀ {L : List α}, (∀ t ∈ L, DLook m (KK t) (V t)) → (∀ t ∈ L, (V t).shp ∧ D.eqv (V t) (V t) = true) → DHits m (L.map fun t => (KK t, V t)) true
  | [], _, _ => .nil
  | t :: L, h, hs => by
    have h1 := hs t (by simp)
    have := DHits.hit (h t (by simp)) h1.1 h1.1 (hits_self (L := L) (fun x hx => h x (by simp [hx])) fun x hx => hs x (by simp [hx]))
    rw [h1.2, Bool.true_and] at this
    exact this
theorem neD_self {α : Type} {KK V : α → D} {L : List α} (hn : (L.map KK).Nodup) (hs : ∀ t ∈ L, (V t).shp ∧ D.eqv (V t) (V t) = true) {q : D → Prop} (h : q (.bl false)) : oNeD (.dic (L.map fun t => (KK t, V t))) (.dic (L.map fun t => (KK t, V t))) q :=
  ⟨_, _, true, rfl, rfl, fun _ => hits_self (fun t ht => dlook_zip L hn ht) hs, by simpa using h⟩
theorem eqD_self {α : Type} {KK V : α → D} {L : List α} (hn : (L.map KK).Nodup) (hs : ∀ t ∈ L, (V t).shp ∧ D.eqv (V t) (V t) = true) {q : D → Prop} (h : q (.bl true)) : oEqD (.dic (L.map fun t => (KK t, V t))) (.dic (L.map fun t => (KK t, V t))) q :=
  ⟨_, _, true, rfl, rfl, fun _ => hits_self (fun t ht => dlook_zip L hn ht) hs, by simpa using h⟩
end AM
set_option Elab.async false
set_option linter.all false
set_option maxRecDepth 100000
set_option maxHeartbeats 2000000
namespace AM
open PySem L2 Evl
section
variable {env : List A} {st : S} {q : D → S → Prop} {er : QX} {k : AK} {a b c : AE} {af : AFr} {i : Nat}
/-- what x[:] = e asks behind its operands -/
def setWQ (env : List A) (k : AK) (d x : D) (s2 : S) : Prop := match x, d with
  | .ref n, .lst ys => ∃ l, s2[n]? = some (.lst l) ∧ l.length + ys.length < 100000 ∧ k.nx env (s2.set n (.lst ys))
  | _, _ => False
@[simp ↓] theorem ev_sSetW : sSetW b a env st k = a env st (fun d s1 => b env s1 (setWQ env k d) (fun e s => k.er e env s)) (fun e s => k.er e env s) := propext Iff.rfl
@[simp ↓] theorem setWQ_ref {n : Nat} {ys : List D} {s2 : S} : setWQ env k (.lst ys) (.ref n) s2 = ∃ l, s2[n]? = some (.lst l) ∧ l.length + ys.length < 100000 ∧ k.nx env (s2.set n (.lst ys)) := propext Iff.rfl
@[simp ↓] theorem ev_oRepT {l : List D} {n : Int} {q : D → Prop} : oRepT (.tup l) (.int n) q = (l ≠ [] ∧ 1 ≤ n ∧ n ≤ 1000 ∧ l.length ≤ 1000 ∧ q (.tup (List.replicate n.toNat l).flatten)) :=
  propext ⟨fun ⟨l', n', e1, e2, h⟩ => by cases e1; cases e2; exact h, fun h => ⟨l, n, rfl, rfl, h⟩⟩
@[simp] theorem isLst_lst {l : List D} : isLst (.lst l) = True := propext Iff.rfl
@[simp] theorem isNon_non : isNon .non = True := propext Iff.rfl
end
end AM
set_option Elab.async false
set_option linter.all false
set_option maxRecDepth 100000
set_option maxHeartbeats 2000000
namespace AM
open PySem L2 Evl
section
variable {env : List A} {st : S} {k : AK} {s : AS} {i : Nat}
@[simp ↓] theorem ev_sFrzIn : sFrzIn i s env st k = ∃ n st2, env[i]? = some (.d (.ref n)) ∧ FrzS n st st2 ∧ s env st2 k := propext Iff.rfl
end
end AM
set_option Elab.async false
set_option linter.all false
set_option maxRecDepth 100000
set_option maxHeartbeats 2000000
namespace AM
open PySem L2 Evl
section
variable {env : List A} {st : S} {q : D → S → Prop} {er : QX} {a b : AE} {c : Str} {m : AF}
def lenQ (q : D → S → Prop) (r : Rs) (s : S) : Prop := ∃ n : Nat, r = .d (.int (n : Int)) ∧ n < 2 ^ 62 ∧ q (.int (n : Int)) s
@[simp] theorem lenQ_int {n : Nat} : lenQ q (.d (.int (n : Int))) st = (n < 2 ^ 62 ∧ q (.int (n : Int)) st) := propext ⟨fun ⟨k, e, h1, h2⟩ => by
  have : (n : Int) = k := by injection e with e; injection e
  have : n = k := by omega
  subst this; exact ⟨h1, h2⟩, fun h => ⟨n, rfl, h⟩⟩
def cntQ (q : D → S → Prop) (x y : D) (s2 : S) : Prop := ∃ l, vw s2 x = .lst l ∧ (D.lst l).shp ∧ (vw s2 y).shp ∧ q (.int ((l.countP fun z => D.eqv z (vw s2 y) : Nat) : Int)) s2
@[simp ↓] theorem ev_aOwnLen : aOwnLen c m a env st q er = a env st (fun x s1 => isCls c (vw s1 x) ∧ m [x] s1 (lenQ q) er) er := propext Iff.rfl
@[simp ↓] theorem ev_aCnt : aCnt a b env st q er = a env st (fun x s1 => (∃ l, vw s1 x = .lst l) ∧ b env s1 (cntQ q x) er) er := propext Iff.rfl
end
end AM
set_option Elab.async false
set_option linter.all false
set_option maxRecDepth 100000
set_option maxHeartbeats 2000000
namespace AM
open PySem L2 Evl
section
variable {env : List A} {st : S} {ql : List D → S → Prop} {er : QX} {a b : AE} {k : AK} {i j : Nat}
def rng2Q (ql : List D → S → Prop) (x y : D) (s2 : S) : Prop := ∃ m n : Int, x = .int m ∧ y = .int n ∧ 0 ≤ m ∧ m ≤ 100000 ∧ 0 ≤ n ∧ n ≤ 100000 ∧ ql ((List.range (n - m).toNat).map fun (i : Nat) => D.int (m + (i : Int))) s2
@[simp] theorem rng2Q_int {m n : Int} : rng2Q ql (.int m) (.int n) st = (0 ≤ m ∧ m ≤ 100000 ∧ 0 ≤ n ∧ n ≤ 100000 ∧ ql ((List.range (n - m).toNat).map fun (i : Nat) => D.int (m + (i : Int))) st) := propext ⟨fun ⟨_, _, e1, e2, h⟩ => by cases e1; cases e2; exact h, fun h => ⟨_, _, rfl, rfl, h⟩⟩
@[simp ↓] theorem ev_fLRng2 : fLRng2 a b env st ql er = a env st (fun x s1 => b env s1 (rng2Q ql x) er) er := propext Iff.rfl
def unpQ (k : AK) (i j : Nat) (env : List A) (d : D) (s1 : S) : Prop := ∃ x t, vw s1 d = .lst (x :: t) ∧ k.nx ((env.set i (.d x)).set j (.d (.lst t))) s1
@[simp] theorem unpQ_cons {x : D} {t : List D} : unpQ k i j env (.lst (x :: t)) st = k.nx ((env.set i (.d x)).set j (.d (.lst t))) st := propext ⟨fun ⟨_, _, e, h⟩ => by cases e; exact h, fun h => ⟨_, _, rfl, h⟩⟩
@[simp ↓] theorem ev_sUnp1 : sUnp1 i j a env st k = a env st (unpQ k i j env) (fun e s1 => k.er e env s1) := propext Iff.rfl
end
end AM
set_option Elab.async false
set_option linter.all false
set_option maxRecDepth 100000
set_option maxHeartbeats 0
namespace LW
open PySem L2 AM
def xm_BadRows (c : Str) : Option Bool := if c = "BadRows" then some true else if c = "BadRatio" then some false else none
def a__law_pool : AS := AM.aPoolNew
def m__law_pool : AF := fnP 1 1 a__law_pool
def a__law_take : AS := AM.aTake
abbrev m__law_take : AF := mTake
def a__law_integers : AS := sRetF (fLc (aRng1 (aVar 1)) (agName 3) (aYes) (aOp oSub (aCall m__law_take (aCons (aVar 0) (aCons (aOp oAdd (aOp oMul (aC (.int 2)) (aVar 2)) (aC (.int 1))) (aNil))) []) (aVar 2)) [3])
def m__law_integers : AF := fnP 3 4 a__law_integers
def a__law_goal_rows : AS := sSeq (sAsg (aOp oIxA (aLst (aCons (aC (.int 2)) (aCons (aC (.int 9)) (aCons (aC (.int 1000)) (aNil))))) (aCall m__law_take (aCons (aVar 0) (aCons (aC (.int 3)) (aNil))) [])) (agName 3))
  (sSeq (sAsg (aOp oAdd (aC (.int 1)) (aCall m__law_take (aCons (aVar 0) (aCons (aVar 2) (aNil))) [])) (agName 4))
  (sSeq (sCell (fLst (aNil)) 5)
  (sSeq (sFor (aRng1 (aCall m__law_take (aCons (aVar 0) (aCons (aOp oAdd (aVar 1) (aC (.int 1))) (aNil))) [])) (agName 6) (sSeq (sAsg (aCall m__law_integers (aCons (aVar 0) (aCons (aVar 4) (aCons (aVar 3) (aNil)))) []) (agName 7))
  (sSeq (sAsg (aCall m__law_take (aCons (aVar 0) (aCons (aC (.int 8)) (aNil))) []) (agName 8))
  (sSeq (sIf (aAnd (aTest (aOp oEq (aVar 8) (aC (.int 0)))) (aTest (aOp oNe (aVar 5) (aLst (aNil))))) (sAsg (aFr (fLc (aIter (aOp oIxA (aVar 5) (aC (.int 0)))) (agName 9) (aYes) (aOp oSub (aC (.int 0)) (aVar 9)) [9])) (agName 7)) (sNext))
  (sSeq (sIf (aAnd (aTest (aOp oEq (aVar 8) (aC (.int 1)))) (aTest (aOp oGt (aB bLen (aCons (aVar 5) (aNil))) (aC (.int 1))))) (sAsg (aFr (fLc (aRng1 (aVar 4)) (agName 10) (aYes) (aOp oSub (aOp oIxA (aOp oIxA (aVar 5) (aC (.int 0))) (aVar 10)) (aOp oIxA (aOp oIxA (aVar 5) (aC (.int 1))) (aVar 10))) [10])) (agName 7)) (sNext))
  (sSeq (sIf (aTest (aOp oEq (aVar 8) (aC (.int 2)))) (sAsg (aFr (fLc (aIter (aVar 7)) (agName 9) (aYes) (aOp oSub (aC (.int 0)) (aB bAbs (aCons (aVar 9) (aNil)))) [9])) (agName 7)) (sNext))
  (sDrop (aApp (aVar 5) (aVar 7)))))))))
  (sFrz 5 (sRetF (fLst (aCons (aVar 5) (aCons (aCall m__law_integers (aCons (aVar 0) (aCons (aVar 4) (aCons (aVar 3) (aNil)))) []) (aNil)))))))))
def m__law_goal_rows : AF := fnC 3 11 a__law_goal_rows
def a_is_integer : AS := sRet (aAndV (aB bIsi (aCons (aVar 0) (aCons (aC (.ty "int")) (aNil)))) (aNotV (aB bIsi (aCons (aVar 0) (aCons (aC (.ty "bool")) (aNil))))))
def m_is_integer : AF := fnP 1 1 a_is_integer
def a_are_integers : AS := sRet (aAndV (aB bIsi (aCons (aVar 0) (aCons (aTup (aCons (aC (.ty "list")) (aCons (aC (.ty "tuple")) (aNil)))) (aNil)))) (aB bAll (aCons (aFr (fLc (aIter (aVar 0)) (agName 1) (aYes) (aCall m_is_integer (aCons (aVar 1) (aNil)) []) [1])) (aNil))))
def m_are_integers : AF := fnP 1 2 a_are_integers
def a_check_rows : AS := sSeq (sIf (aOr (aNot (aTruth (aCall m_are_integers (aCons (aVar 1) (aNil)) []))) (aOr (aTest (aOp oEq (aB bLen (aCons (aVar 1) (aNil))) (aC (.int 0)))) (aNot (aTruth (aB bIsi (aCons (aVar 0) (aCons (aTup (aCons (aC (.ty "list")) (aCons (aC (.ty "tuple")) (aNil)))) (aNil)))))))) (sRaise0 "BadRows") (sNext))
  (sFor (aIter (aVar 0)) (agName 2) (sIf (aOr (aNot (aTruth (aCall m_are_integers (aCons (aVar 2) (aNil)) []))) (aTest (aOp oNe (aB bLen (aCons (aVar 2) (aNil))) (aB bLen (aCons (aVar 1) (aNil)))))) (sRaise0 "BadRows") (sNext)))
def m_check_rows : AF := fnP 2 3 a_check_rows
def a_Sheet___init__ : AS := sSeq (sFldSet "Sheet" "wide" (aVar 0) (aVar 2))
  (sSeq (sFldSet "Sheet" "count" (aVar 0) (aOp oAdd (aVar 2) (aB bLen (aCons (aVar 1) (aNil)))))
  (sSeq (sFldSet "Sheet" "lines" (aVar 0) (aCellL (fLst (aNil))))
  (sSeq (sFor (aEnum (aVar 1)) (agTup 2 (agCons (agName 5) (agCons (agName 6) (agNil)))) (sSeq (sAsg (aFr (fLc (aRng1 (aB bLen (aCons (aVar 1) (aNil)))) (agName 7) (aYes) (aB bInt (aCons (aOp oEq (aVar 5) (aVar 7)) (aNil))) [7])) (agName 4))
  (sDrop (aApp (aFld ["Sheet"] "lines" (aVar 0)) (aLst (aStar (aFr (fLc (aIter (aVar 6)) (agName 9) (aYes) (aUn oNeg (aVar 9)) [9])) (aStar (aVar 4) (aCons (aC (.int 0)) (aCons (aC (.int 0)) (aNil))))))))))
  (sSeq (sAsg (aFr (fLc (aRng1 (aVar 2)) (agName 5) (aYes) (aC (.int 1)) [5])) (agName 3))
  (sSeq (sAsg (aFr (fLc (aIter (aVar 1)) (agName 6) (aYes) (aC (.int 0)) [6])) (agName 4))
  (sSeq (sDrop (aApp (aFld ["Sheet"] "lines" (aVar 0)) (aLst (aStar (aVar 3) (aStar (aVar 4) (aCons (aC (.int 1)) (aCons (aC (.int 1)) (aNil))))))))
  (sSeq (sFldSet "Sheet" "basis" (aVar 0) (aCellL (fLRng2 (aVar 2) (aOp oAdd (aOp oAdd (aVar 2) (aB bLen (aCons (aVar 1) (aNil)))) (aC (.int 1))))))
  (sSeq (sFldSet "Sheet" "base" (aVar 0) (aC (.int 1)))
  (sFldSet "Sheet" "costs" (aVar 0) (aLst (aStar (aFr (fLc (aIter (aVar 3)) (agName 8) (aYes) (aUn oNeg (aC (.int 1))) [8])) (aStar (aVar 4) (aCons (aC (.int 0)) (aCons (aUn oNeg (aC (.int 1))) (aNil)))))))))))))))
def m_Sheet___init__ : AF := fnP 3 10 a_Sheet___init__
def a_Sheet_leaving : AS := sSeq (sAsg (aC .non) (agName 2))
  (sSeq (sFor (aEnum (aFld ["Sheet"] "basis" (aVar 0))) (agTup 2 (agCons (agName 3) (agCons (agName 4) (agNil)))) (sSeq (sPar 5 6 (aCons (aOp oIxA (aOp oIxA (aFld ["Sheet"] "lines" (aVar 0)) (aVar 3)) (aVar 1)) (aCons (aOp oIxA (aOp oIxA (aFld ["Sheet"] "lines" (aVar 0)) (aVar 3)) (aUn oNeg (aC (.int 1)))) (aNil))))
  (sIf (aTest (aOp oGt (aVar 5) (aC (.int 0)))) (sSeq (sIf (aTest (aOp oIs (aVar 2) (aC .non))) (sSeq (sAsg (aVar 3) (agName 2))
  (sCont)) (sNext))
  (sSeq (sPar 7 8 (aCons (aOp oMul (aVar 6) (aOp oIxA (aOp oIxA (aFld ["Sheet"] "lines" (aVar 0)) (aVar 2)) (aVar 1))) (aCons (aOp oMul (aOp oIxA (aOp oIxA (aFld ["Sheet"] "lines" (aVar 0)) (aVar 2)) (aUn oNeg (aC (.int 1)))) (aVar 5)) (aNil))))
  (sIf (aOr (aTest (aOp oLt (aVar 7) (aVar 8))) (aAnd (aTest (aOp oEq (aVar 7) (aVar 8))) (aTest (aOp oLt (aVar 4) (aOp oIxA (aFld ["Sheet"] "basis" (aVar 0)) (aVar 2)))))) (sAsg (aVar 3) (agName 2)) (sNext)))) (sNext))))
  (sRet (aVar 2)))
def m_Sheet_leaving : AF := fnP 2 9 a_Sheet_leaving
def a_Sheet_reduced_line : AS := sSeq (sAsg (aTup (aCons (aOp oIxA (aVar 1) (aVar 3)) (aCons (aOp oIxA (aVar 2) (aVar 3)) (aNil)))) (agTup 2 (agCons (agName 4) (agCons (agName 5) (agNil)))))
  (sRetF (fLc (aZip (aVar 1) (aVar 2)) (agTup 2 (agCons (agName 6) (agCons (agName 7) (agNil)))) (aYes) (aOp oFdiv (aOp oSub (aOp oMul (aVar 6) (aVar 5)) (aOp oMul (aVar 4) (aVar 7))) (aFld ["Sheet"] "base" (aVar 0))) [6, 7]))
def m_Sheet_reduced_line : AF := fnP 4 8 a_Sheet_reduced_line
def a_Sheet_turn : AS := sSeq (sAsg (aOp oIxA (aFld ["Sheet"] "lines" (aVar 0)) (aVar 1)) (agName 3))
  (sSeq (sIf (aTest (aOp oLt (aOp oIxA (aVar 3) (aVar 2)) (aC (.int 0)))) (sAsg (aFr (fLc (aIter (aVar 3)) (agName 6) (aYes) (aUn oNeg (aVar 6)) [6])) (agName 3)) (sNext))
  (sSeq (sCell (fLc (aIter (aFld ["Sheet"] "lines" (aVar 0))) (agName 5) (aYes) (aMeth "Sheet" "reduced_line" m_Sheet_reduced_line (aVar 0) (aCons (aVar 5) (aCons (aVar 3) (aCons (aVar 2) (aNil)))) []) [5]) 4)
  (sSeq (sSetIx (aVar 4) (aVar 1) (aVar 3))
  (sSeq (sFldSet "Sheet" "costs" (aVar 0) (aMeth "Sheet" "reduced_line" m_Sheet_reduced_line (aVar 0) (aCons (aFld ["Sheet"] "costs" (aVar 0)) (aCons (aVar 3) (aCons (aVar 2) (aNil)))) []))
  (sSeq (sFldSet "Sheet" "lines" (aVar 0) (aVar 4))
  (sSeq (sSetIx (aFld ["Sheet"] "basis" (aVar 0)) (aVar 1) (aVar 2))
  (sFldSet "Sheet" "base" (aVar 0) (aOp oIxA (aVar 3) (aVar 2)))))))))
def m_Sheet_turn : AF := fnP 3 7 a_Sheet_turn
def a_Sheet_run : AS := sSeq (sAsg (aFr (fLc (aRng1 (aFld ["Sheet"] "count" (aVar 0))) (agName 2) (aTest (aOp oLt (aOp oIxA (aFld ["Sheet"] "costs" (aVar 0)) (aVar 2)) (aC (.int 0)))) (aVar 2) [2])) (agName 1))
  (sWhile (aTruth (aVar 1)) (sSeq (sDrop (aMeth "Sheet" "turn" m_Sheet_turn (aVar 0) (aCons (aMeth "Sheet" "leaving" m_Sheet_leaving (aVar 0) (aCons (aOp oIxA (aVar 1) (aC (.int 0))) (aNil)) []) (aCons (aOp oIxA (aVar 1) (aC (.int 0))) (aNil))) []))
  (sAsg (aFr (fLc (aRng1 (aFld ["Sheet"] "count" (aVar 0))) (agName 2) (aTest (aOp oLt (aOp oIxA (aFld ["Sheet"] "costs" (aVar 0)) (aVar 2)) (aC (.int 0)))) (aVar 2) [2])) (agName 1))))
def m_Sheet_run : AF := fnP 1 3 a_Sheet_run
def a_Sheet_amounts : AS := sRet (aSl (aFld ["Sheet"] "costs" (aVar 0)) (oAt (aFld ["Sheet"] "wide" (aVar 0))) (oAt (aFld ["Sheet"] "count" (aVar 0))))
def m_Sheet_amounts : AF := fnP 1 1 a_Sheet_amounts
def a_divisor : AS := sSeq (sAsg (aC (.int 0)) (agName 1))
  (sSeq (sFor (aIter (aVar 0)) (agName 2) (sSeq (sPar 3 4 (aCons (aB bAbs (aCons (aVar 2) (aNil))) (aCons (aVar 1) (aNil))))
  (sSeq (sWhile (aTruth (aVar 4)) (sPar 3 4 (aCons (aVar 4) (aCons (aOp oMod (aVar 3) (aVar 4)) (aNil)))))
  (sAsg (aVar 3) (agName 1)))))
  (sRet (aVar 1)))
def m_divisor : AF := fnP 1 5 a_divisor
def a_lowest : AS := sSeq (sAsg (aCall m_divisor (aCons (aVar 0) (aNil)) []) (agName 1))
  (sRetF (fIf (aTruth (aVar 1)) (fLc (aIter (aVar 0)) (agName 2) (aYes) (aOp oFdiv (aVar 2) (aVar 1)) [2]) (fList (aVar 0))))
def m_lowest : AF := fnP 1 3 a_lowest
def a_Sheet_settle : AS := sIf (aTest (aOp oIn (aFld ["Sheet"] "count" (aVar 0)) (aFld ["Sheet"] "basis" (aVar 0)))) (sSeq (sAsg (aIdx (aFld ["Sheet"] "basis" (aVar 0)) (aFld ["Sheet"] "count" (aVar 0))) (agName 1))
  (sDrop (aMeth "Sheet" "turn" m_Sheet_turn (aVar 0) (aCons (aVar 1) (aCons (aOp oIxA (aFr (fLc (aRng1 (aFld ["Sheet"] "count" (aVar 0))) (agName 2) (aTest (aOp oNe (aOp oIxA (aOp oIxA (aFld ["Sheet"] "lines" (aVar 0)) (aVar 1)) (aVar 2)) (aC (.int 0)))) (aVar 2) [2])) (aC (.int 0))) (aNil))) []))) (sNext)
def m_Sheet_settle : AF := fnP 1 3 a_Sheet_settle
def a_Sheet_charge : AS := sSeq (sAsg (aFr (fLc (aRng2 (aFld ["Sheet"] "wide" (aVar 0)) (aFld ["Sheet"] "count" (aVar 0))) (agName 6) (aYes) (aC (.int 0)) [6])) (agName 2))
  (sSeq (sAsg (aFr (fLc (aIter (aLst (aStar (aFr (fLc (aIter (aVar 1)) (agName 8) (aYes) (aUn oNeg (aVar 8)) [8])) (aStar (aVar 2) (aCons (aC (.int 0)) (aCons (aC (.int 0)) (aNil))))))) (agName 7) (aYes) (aOp oMul (aFld ["Sheet"] "base" (aVar 0)) (aVar 7)) [7])) (agName 3))
  (sSeq (sFor (aEnum (aFld ["Sheet"] "basis" (aVar 0))) (agTup 2 (agCons (agName 4) (agCons (agName 5) (agNil)))) (sIf (aTest (aOp oLt (aVar 5) (aFld ["Sheet"] "wide" (aVar 0)))) (sAsg (aFr (fLc (aZip (aVar 3) (aOp oIxA (aFld ["Sheet"] "lines" (aVar 0)) (aVar 4))) (agTup 2 (agCons (agName 8) (agCons (agName 9) (agNil)))) (aYes) (aOp oAdd (aVar 8) (aOp oMul (aOp oIxA (aVar 1) (aVar 5)) (aVar 9))) [8, 9])) (agName 3)) (sNext)))
  (sFldSet "Sheet" "costs" (aVar 0) (aVar 3))))
def m_Sheet_charge : AF := fnP 2 10 a_Sheet_charge
def a_Sheet_mix : AS := sSeq (sCell (fLc (aRng1 (aFld ["Sheet"] "wide" (aVar 0))) (agName 4) (aYes) (aC (.int 0)) [4]) 1)
  (sSeq (sFor (aEnum (aFld ["Sheet"] "basis" (aVar 0))) (agTup 2 (agCons (agName 2) (agCons (agName 3) (agNil)))) (sIf (aTest (aOp oLt (aVar 3) (aFld ["Sheet"] "wide" (aVar 0)))) (sSetIx (aVar 1) (aVar 3) (aOp oIxA (aOp oIxA (aFld ["Sheet"] "lines" (aVar 0)) (aVar 2)) (aUn oNeg (aC (.int 1))))) (sNext)))
  (sRetF (fCall m_lowest (aCons (aVar 1) (aNil)) [])))
def m_Sheet_mix : AF := fnC 1 5 a_Sheet_mix
def a_weighed : AS := sRet (aB bSum (aCons (aFr (fLc (aZip (aVar 0) (aVar 1)) (agTup 2 (agCons (agName 2) (agCons (agName 3) (agNil)))) (aYes) (aOp oMul (aVar 2) (aVar 3)) [2, 3])) (aNil)))
def m_weighed : AF := fnP 2 4 a_weighed
def a_ratio : AS := sSeq (sIf (aTest (aOp oEq (aVar 1) (aC (.int 0)))) (sRaise1 "BadRatio" "bottom" (aVar 1)) (sNext))
  (sSeq (sAsg (aCall m_divisor (aCons (aLst (aCons (aVar 0) (aCons (aVar 1) (aNil)))) (aNil)) []) (agName 2))
  (sSeq (sIf (aTest (aOp oLt (aVar 1) (aC (.int 0)))) (sAsg (aUn oNeg (aVar 2)) (agName 2)) (sNext))
  (sRet (aTup (aCons (aOp oFdiv (aVar 0) (aVar 2)) (aCons (aOp oFdiv (aVar 1) (aVar 2)) (aNil)))))))
def m_ratio : AF := fnP 2 3 a_ratio
def a_greatest : AS := sSeq (sDrop (aCall m_check_rows (aCons (aVar 0) (aCons (aVar 1) (aNil))) []))
  (sSeq (sAsg (aNewM "Sheet" m_Sheet___init__ (aCons (aVar 0) (aCons (aB bLen (aCons (aVar 1) (aNil))) (aNil))) []) (agName 2))
  (sSeq (sDrop (aMeth "Sheet" "run" m_Sheet_run (aVar 2) aNil []))
  (sSeq (sIf (aTest (aOp oLt (aOp oIxA (aFld ["Sheet"] "costs" (aVar 2)) (aUn oNeg (aC (.int 1)))) (aC (.int 0)))) (sRet (aTup (aCons (aC (.str "none")) (aCons (aCall m_lowest (aCons (aMeth "Sheet" "amounts" m_Sheet_amounts (aVar 2) aNil []) (aNil)) []) (aNil))))) (sNext))
  (sSeq (sDrop (aMeth "Sheet" "settle" m_Sheet_settle (aVar 2) aNil []))
  (sSeq (sDrop (aMeth "Sheet" "charge" m_Sheet_charge (aVar 2) (aCons (aVar 1) (aNil)) []))
  (sSeq (sDrop (aMeth "Sheet" "run" m_Sheet_run (aVar 2) aNil []))
  (sSeq (sUnp1 4 5 (aCall m_lowest (aCons (aLst (aCons (aFld ["Sheet"] "base" (aVar 2)) (aStar (aMeth "Sheet" "amounts" m_Sheet_amounts (aVar 2) aNil []) (aNil)))) (aNil)) []))
  (sSeq (sAsg (aMeth "Sheet" "mix" m_Sheet_mix (aVar 2) aNil []) (agName 3))
  (sRet (aTup (aCons (aC (.str "best")) (aCons (aVar 3) (aCons (aCall m_ratio (aCons (aCall m_weighed (aCons (aVar 1) (aCons (aVar 3) (aNil))) []) (aCons (aB bSum (aCons (aVar 3) (aNil))) (aNil))) []) (aCons (aVar 4) (aCons (aVar 5) (aNil))))))))))))))))
def m_greatest : AF := fnC 2 6 a_greatest
def a_are_amounts : AS := sRet (aAndV (aOp oEq (aB bLen (aCons (aVar 1) (aNil))) (aB bLen (aCons (aVar 0) (aNil)))) (aB bAll (aCons (aFr (fLc (aIter (aVar 1)) (agName 2) (aYes) (aOp oGe (aVar 2) (aC (.int 0))) [2])) (aNil))))
def m_are_amounts : AF := fnP 2 3 a_are_amounts
def a_added : AS := sSeq (sAsg (aFr (fLc (aRng1 (aVar 2)) (agName 6) (aYes) (aC (.int 0)) [6])) (agName 3))
  (sSeq (sFor (aZip (aVar 0) (aVar 1)) (agTup 2 (agCons (agName 4) (agCons (agName 5) (agNil)))) (sAsg (aFr (fLc (aZip (aVar 3) (aVar 4)) (agTup 2 (agCons (agName 7) (agCons (agName 8) (agNil)))) (aYes) (aOp oAdd (aVar 7) (aOp oMul (aVar 5) (aVar 8))) [7, 8])) (agName 3)))
  (sRet (aVar 3)))
def m_added : AF := fnP 3 9 a_added
def a_is_allowed : AS := sSeq (sIf (aOr (aTest (aOp oNe (aB bLen (aCons (aVar 1) (aNil))) (aVar 2))) (aOr (aTest (aOp oLt (aB bMinA (aCons (aVar 1) (aNil))) (aC (.int 0)))) (aTest (aOp oEq (aB bSumA (aCons (aVar 1) (aNil))) (aC (.int 0)))))) (sRet (aC (.bl false))) (sNext))
  (sRet (aB bAll (aCons (aFr (fLc (aIter (aVar 0)) (agName 3) (aYes) (aOp oGe (aCall m_weighed (aCons (aVar 3) (aCons (aVar 1) (aNil))) []) (aC (.int 0))) [3])) (aNil))))
def m_is_allowed : AF := fnP 3 4 a_is_allowed
def a_is_answer : AS := sSeq (sDrop (aCall m_check_rows (aCons (aVar 0) (aCons (aVar 1) (aNil))) []))
  (sSeq (sAsg (aB bLen (aCons (aVar 1) (aNil))) (agName 3))
  (sSeq (sIf (aTest (aOp oEq (aOp oIxA (aVar 2) (aC (.int 0))) (aC (.str "none")))) (sRet (aAndV (aCall m_are_amounts (aCons (aVar 0) (aCons (aOp oIxA (aVar 2) (aC (.int 1))) (aNil))) []) (aOp oLt (aB bMax1 (aCons (aCall m_added (aCons (aVar 0) (aCons (aOp oIxA (aVar 2) (aC (.int 1))) (aCons (aVar 3) (aNil)))) []) (aNil))) (aC (.int 0))))) (sNext))
  (sSeq (sAsg (aVar 2) (agTup 5 (agCons (agName 5) (agCons (agName 6) (agCons (agName 7) (agCons (agName 8) (agCons (agName 9) (agNil))))))))
  (sSeq (sIf (aOr (aNot (aTruth (aCall m_is_allowed (aCons (aVar 0) (aCons (aVar 6) (aCons (aVar 3) (aNil)))) []))) (aTest (aOp oNe (aCall m_ratio (aCons (aCall m_weighed (aCons (aVar 1) (aCons (aVar 6) (aNil))) []) (aCons (aB bSumA (aCons (aVar 6) (aNil))) (aNil))) []) (aVar 7)))) (sRet (aC (.bl false))) (sNext))
  (sSeq (sIf (aOr (aTest (aOp oLt (aVar 8) (aC (.int 1)))) (aNot (aTruth (aCall m_are_amounts (aCons (aVar 0) (aCons (aVar 9) (aNil))) [])))) (sRet (aC (.bl false))) (sNext))
  (sSeq (sAsg (aCall m_added (aCons (aVar 0) (aCons (aVar 9) (aCons (aVar 3) (aNil)))) []) (agName 4))
  (sRet (aB bAll (aCons (aFr (fLc (aZip (aVar 1) (aVar 4)) (agTup 2 (agCons (agName 10) (agCons (agName 11) (agNil)))) (aYes) (aOp oLe (aOp oMul (aOp oAdd (aOp oMul (aVar 8) (aVar 10)) (aVar 11)) (aOp oIxA (aVar 7) (aC (.int 1)))) (aOp oMul (aVar 8) (aOp oIxA (aVar 7) (aC (.int 0))))) [10, 11])) (aNil))))))))))
def m_is_answer : AF := fnP 3 12 a_is_answer
def a__law_refused : AS := sSeq (sTryOnly (sIf (aTest (aOp oEq (aVar 2) (aC (.int 0)))) (sDrop (aCall m_greatest (aCons (aVar 0) (aCons (aVar 1) (aNil))) [])) (sDrop (aCall m_is_answer (aCons (aVar 0) (aCons (aVar 1) (aCons (aTup (aCons (aC (.str "none")) (aCons (aLst (aCons (aC (.int 1)) (aNil))) (aNil)))) (aNil)))) []))) [(xm_BadRows, sRet (aC (.bl true)))])
  (sRet (aC (.bl false)))
def m__law_refused : AF := fnP 3 3 a__law_refused
def a__law_bent : AS := sSeq (sAsg (aCall m__law_take (aCons (aVar 0) (aCons (aC (.int 4)) (aNil))) []) (agName 2))
  (sSeq (sAsg (aCall m__law_take (aCons (aVar 0) (aCons (aOp oAdd (aB bLen (aCons (aVar 1) (aNil))) (aC (.int 1))) (aNil))) []) (agName 3))
  (sSeq (sAsg (aOp oIxA (aLst (aCons (aC (.bl true)) (aCons (aC .non) (aCons (aC (.str "1")) (aCons (aC (.str "")) (aCons (aLst (aCons (aC (.int 2)) (aNil))) (aNil))))))) (aCall m__law_take (aCons (aVar 0) (aCons (aC (.int 5)) (aNil))) [])) (agName 4))
  (sSeq (sIf (aTest (aOp oEq (aVar 2) (aC (.int 0)))) (sRet (aOp oAdd (aSl (aVar 1) (oNo) (oAt (aVar 3))) (aSl (aVar 1) (oAt (aOp oAdd (aVar 3) (aC (.int 1)))) (oNo)))) (sNext))
  (sSeq (sIf (aTest (aOp oEq (aVar 2) (aC (.int 1)))) (sRet (aOp oAdd (aOp oAdd (aSl (aVar 1) (oNo) (oAt (aVar 3))) (aLst (aCons (aVar 4) (aNil)))) (aSl (aVar 1) (oAt (aOp oAdd (aVar 3) (aC (.int 1)))) (oNo)))) (sNext))
  (sSeq (sIf (aTest (aOp oEq (aVar 2) (aC (.int 2)))) (sRet (aOp oAdd (aOp oAdd (aSl (aVar 1) (oNo) (oAt (aVar 3))) (aLst (aCons (aC (.int 3)) (aNil)))) (aSl (aVar 1) (oAt (aVar 3)) (oNo)))) (sNext))
  (sRet (aOp oIxA (aLst (aCons (aC .non) (aCons (aC (.int 5)) (aCons (aC (.str "12")) (aCons (aC (.bl true)) (aNil)))))) (aCall m__law_take (aCons (aVar 0) (aCons (aC (.int 4)) (aNil))) []))))))))
def m__law_bent : AF := fnP 2 5 a__law_bent
def a__law_is_number : AS := sRet (aAndV (aB bIsi (aCons (aVar 0) (aCons (aC (.ty "int")) (aNil)))) (aNotV (aB bIsi (aCons (aVar 0) (aCons (aC (.ty "bool")) (aNil))))))
def m__law_is_number : AF := fnP 1 1 a__law_is_number
def a__law_numbers : AS := sSeq (sIf (aAnd (aNot (aTruth (aB bIsi (aCons (aVar 0) (aCons (aC (.ty "list")) (aNil)))))) (aNot (aTruth (aB bIsi (aCons (aVar 0) (aCons (aC (.ty "tuple")) (aNil))))))) (sRet (aC (.bl false))) (sNext))
  (sRet (aB bAll (aCons (aFr (fLc (aIter (aVar 0)) (agName 1) (aYes) (aCall m__law_is_number (aCons (aVar 1) (aNil)) []) [1])) (aNil))))
def m__law_numbers : AF := fnP 1 2 a__law_numbers
def a__law_sound : AS := sSeq (sIf (aOr (aNot (aTruth (aCall m__law_numbers (aCons (aVar 1) (aNil)) []))) (aOr (aTest (aOp oEq (aB bLen (aCons (aVar 1) (aNil))) (aC (.int 0)))) (aNot (aTruth (aB bIsi (aCons (aVar 0) (aCons (aC (.ty "list")) (aNil)))))))) (sRet (aC (.bl false))) (sNext))
  (sRet (aB bAll (aCons (aFr (fLc (aIter (aVar 0)) (agName 2) (aYes) (aAndV (aCall m__law_numbers (aCons (aVar 2) (aNil)) []) (aOp oEq (aB bLen (aCons (aVar 2) (aNil))) (aB bLen (aCons (aVar 1) (aNil))))) [2])) (aNil))))
def m__law_sound : AF := fnP 2 3 a__law_sound
def a_law : AS := sSeq (sAsg (aCall m__law_goal_rows (aCons (aVar 1) (aCons (aC (.int 5)) (aCons (aC (.int 5)) (aNil)))) []) (agSeq 2 (agCons (agName 5) (agCons (agName 6) (agNil)))))
  (sSeq (sFor (aRng1 (aC (.int 2))) (agName 2) (sIf (aOr (aTruth (aCall m__law_refused (aCons (aVar 5) (aCons (aVar 6) (aCons (aVar 2) (aNil)))) [])) (aNot (aTruth (aCall m__law_refused (aCons (aLst (aNil)) (aCons (aLst (aNil)) (aCons (aVar 2) (aNil)))) [])))) (sRet (aC (.bl false))) (sNext)))
  (sSeq (sAsg (aCall m__law_take (aCons (aVar 1) (aCons (aC (.int 4)) (aNil))) []) (agName 3))
  (sSeq (sIf (aTest (aOp oEq (aVar 3) (aC (.int 0)))) (sAsg (aCall m__law_bent (aCons (aVar 1) (aCons (aVar 6) (aNil))) []) (agName 6)) (sNext))
  (sSeq (sIf (aTest (aOp oEq (aVar 3) (aC (.int 1)))) (sAsg (aOp oIxA (aLst (aCons (aC .non) (aCons (aC (.int 5)) (aCons (aC (.str "ab")) (aCons (aC (.bl true)) (aNil)))))) (aCall m__law_take (aCons (aVar 1) (aCons (aC (.int 4)) (aNil))) [])) (agName 5)) (sNext))
  (sSeq (sIf (aAnd (aTest (aOp oGt (aVar 3) (aC (.int 1)))) (aTest (aOp oNe (aVar 5) (aLst (aNil))))) (sSeq (sAsg (aCall m__law_take (aCons (aVar 1) (aCons (aB bLen (aCons (aVar 5) (aNil))) (aNil))) []) (agName 7))
  (sAsg (aOp oAdd (aOp oAdd (aSl (aVar 5) (oNo) (oAt (aVar 7))) (aLst (aCons (aCall m__law_bent (aCons (aVar 1) (aCons (aOp oIxA (aVar 5) (aVar 7)) (aNil))) []) (aNil)))) (aSl (aVar 5) (oAt (aOp oAdd (aVar 7) (aC (.int 1)))) (oNo))) (agName 5))) (sNext))
  (sSeq (sAsg (aNotV (aCall m__law_sound (aCons (aVar 5) (aCons (aVar 6) (aNil))) [])) (agName 4))
  (sRet (aAndV (aOp oEq (aCall m__law_refused (aCons (aVar 5) (aCons (aVar 6) (aCons (aC (.int 0)) (aNil)))) []) (aVar 4)) (aOp oEq (aCall m__law_refused (aCons (aVar 5) (aCons (aVar 6) (aCons (aC (.int 1)) (aNil)))) []) (aVar 4))))))))))
end LW
set_option Elab.async false
set_option linter.all false
set_option maxRecDepth 100000
set_option maxHeartbeats 1000000
namespace LW
open PySem L2 AM
theorem gdOk_of {st : S} {d : D} : gdOk (gdOf st d) st := by
  cases d with
  | ref n =>
    cases h : st[n]? with
    | none => unfold gdOf; simp [h]
    | some c => rw [gdOf_ref h]; simp [h]
  | _ => simp
theorem gdOk_app {a b : Gd} {st : S} (h : gdOk a st) (h2 : gdOk b st) : gdOk (a ++ b) st := by
  unfold gdOk at *
  intro p hp
  rcases List.mem_append.mp hp with hp | hp
  · exact h p hp
  · exact h2 p hp
theorem for_of {α : Type} {T : α → D} {gd : Gd} {g : AG} {s : AS} {k : AK} {P : List α → List A → S → Prop} (h0 : ∀ env st, P [] env st → gdOk gd st ∧ k.nx env st) (h1 : ∀ x xs env st, P (x :: xs) env st → ∀ nx : List A → S → Prop, (∀ e s, P xs e s → nx e s) → gdOk gd st ∧ g (T x) env st fun e1 => s e1 st { k with nx := nx, ct := nx, bk := k.nx }) : ∀ l env st, P l env st → sForL gd g s (l.map T) env st k
  | [], env, st, h => h0 env st h
  | x :: xs, env, st, h => h1 x xs env st h _ fun e s hp => for_of h0 h1 xs e s hp
theorem for_rng {gd : Gd} {g : AG} {s : AS} {k : AK} {N : Nat} {P : Nat → List A → S → Prop} (h0 : ∀ env st, P N env st → gdOk gd st ∧ k.nx env st) (h1 : ∀ i env st, i < N → P i env st → ∀ nx : List A → S → Prop, (∀ e s, P (i + 1) e s → nx e s) → gdOk gd st ∧ g (.int (i : Int)) env st fun e1 => s e1 st { k with nx := nx, ct := nx, bk := k.nx }) (env : List A) (st : S) (h : P 0 env st) : sForL gd g s ((List.range N).map fun (i : Nat) => D.int (i : Int)) env st k := by
  refine for_of (T := fun (i : Nat) => D.int (i : Int)) (P := fun l env st => ∃ i, i ≤ N ∧ l = List.range' i (N - i) ∧ P i env st) ?_ ?_ _ _ _ ⟨0, by omega, by rw [List.range_eq_range']; rfl, h⟩
  · rintro env st ⟨i, hi, hl, hp⟩
    have : N - i = 0 := by have := congrArg List.length hl; simpa using this.symm
    have : i = N := by omega
    subst this
    exact h0 env st hp
  · rintro x xs env st ⟨i, hi, hl, hp⟩ nx hnx
    have hlt : i < N := by
      have := congrArg List.length hl
      simp at this; omega
    rw [show N - i = (N - (i + 1)) + 1 by omega, List.range'_succ] at hl
    injection hl with h2 h3
    subst h2
    exact h1 x env st hlt hp nx fun e s hp => hnx e s ⟨x + 1, by omega, h3, hp⟩
/-! ### kinds -/
def isIntB : D → Bool
  | .int _ => true
  | _ => false
def okK : D → Prop
  | .non => True | .bl _ => True | .int _ => True | .str _ => True | .lst _ => True | .tup _ => True | .dic _ => True
  | _ => False
theorem vw_okK {st : S} {x : D} (h : okK x) : vw st x = x := by
  cases x <;> first | rfl | exact h.elim
def intsB (st : S) (d : D) : Bool := match vw st d with
  | .lst l => l.all fun x => isIntB (vw st x)
  | .tup l => l.all fun x => isIntB (vw st x)
  | _ => false
section
variable {st : S} {q : Rs → S → Prop} {er : QX} {d : D}
theorem is_integer_spec (hk : okK (vw st d)) (h : q (.d (.bl (isIntB (vw st d)))) st) : m_is_integer [d] st q er := by
  refine ⟨rfl, ?_⟩
  show a_is_integer [.d d] st _
  unfold a_is_integer
  simp
  cases hv : vw st d <;> rw [hv] at hk h <;> first | exact hk.elim | simpa [isIntB] using h
theorem are_integers_spec (hk : okK (vw st d)) (hi : ∀ l, itemsD (vw st d) = some l → l.length ≤ 100000 ∧ ∀ x ∈ l, okK (vw st x)) (h : q (.d (.bl (intsB st d))) st) : m_are_integers [d] st q er := by
  refine ⟨rfl, ?_⟩
  show a_are_integers [.d d, .no] st _
  unfold a_are_integers
  simp
  have sq : ∀ l, itemsD (vw st d) = some l → (∀ x ∈ l, okK (vw st x)) → intsB st d = l.all (fun x => isIntB (vw st x)) → l.length ≤ 100000 → aLcL (gdOf st d) (agName 1) aYes (aCall m_is_integer (aCons (aVar 1) aNil) []) [.d d, .no] (fun l s1 => bAll [vw s1 (.lst l)] fun z => q (.d z) s1) l [] st := fun l hl hx hb hlen => by
    refine lc_all (G := fun x => .bl (isIntB (vw st x))) gdOk_of (fun x hx' P1 P2 hp => ?_) (by simpa using hlen) ?_
    · simp
      exact is_integer_spec (hx x hx') (by simpa using hp)
    · refine ⟨l.map fun x => isIntB (vw st x), by simp, ?_⟩
      rw [hb] at h
      simpa [List.all_map, Function.comp_def] using h
  cases hv : vw st d with
  | lst l =>
    have := hi l (by rw [hv]; rfl)
    simp
    exact sq l (by rw [hv]; rfl) this.2 (by unfold intsB; rw [hv]) this.1
  | tup l =>
    have := hi l (by rw [hv]; rfl)
    simp
    exact sq l (by rw [hv]; rfl) this.2 (by unfold intsB; rw [hv]) this.1
  | _ => first | (simp; simpa [intsB, hv] using h) | (rw [hv] at hk; exact hk.elim)
end
/-! ### rows of integers as they are seen -/
def isInts (st : S) (d : D) (ns : List Int) : Prop := itemsD (vw st d) = some (ns.map .int)
theorem isInts_lst {st : S} {ns : List Int} : isInts st (.lst (ns.map .int)) ns := rfl
theorem isInts_tup {st : S} {ns : List Int} : isInts st (.tup (ns.map .int)) ns := rfl
theorem isInts_k {st : S} {d : D} {ns : List Int} (h : isInts st d ns) : okK (vw st d) ∧ intsB st d = true ∧ lenD (vw st d) = some ns.length := by
  unfold isInts at h
  unfold intsB
  cases hv : vw st d <;> rw [hv] at h <;> simp [itemsD] at h
  · subst h; simp [okK, isIntB, lenD]
  · subst h; simp [okK, isIntB, lenD]
theorem ints_spec {st : S} {q : Rs → S → Prop} {er : QX} {d : D} {ns : List Int} (hd : isInts st d ns) (hl : ns.length ≤ 1000) (h : q (.d (.bl true)) st) : m_are_integers [d] st q er := by
  refine are_integers_spec (isInts_k hd).1 (fun l e => ?_) (by rw [(isInts_k hd).2.1]; exact h)
  have : some l = some (ns.map D.int) := by rw [← e]; exact hd
  injection this with this
  subst this
  refine ⟨by simp; omega, fun x hx => ?_⟩
  obtain ⟨i, _, rfl⟩ := List.mem_map.mp hx
  trivial
/-! ### shapes -/
def prodN (sh : List Nat) : Nat := sh.foldl (· * ·) 1
structure ShapeOk (sh : List Nat) : Prop where
  l1 : 1 ≤ sh.length
  l3 : sh.length ≤ 3
  each : ∀ n ∈ sh, 1 ≤ n ∧ n ≤ 4
  all : prodN sh ≤ 16
abbrev iN (l : List Nat) : List Int := l.map fun (i : Nat) => (i : Int)
abbrev iD (l : List Int) : List D := l.map D.int
theorem prod_le {sh : List Nat} : ∀ {p : Nat}, (∀ n ∈ sh, n ≤ 4) → sh.foldl (· * ·) p ≤ p * 4 ^ sh.length := by
  induction sh with
  | nil => intro p _; simp
  | cons n ns ih =>
    intro p h
    have h1 := h n (by simp)
    have := ih (p := p * n) (fun m hm => h m (by simp [hm]))
    simp only [List.foldl_cons, List.length_cons]
    refine Nat.le_trans this ?_
    rw [Nat.pow_succ, Nat.mul_comm (4 ^ _) 4, ← Nat.mul_assoc]
    exact Nat.mul_le_mul_right _ (Nat.mul_le_mul_left _ h1)
theorem cmul_small {a b : Int} (ha : a.natAbs < 2 ^ 8000) (hb : b.natAbs < 2 ^ 8000) : CMulW a b := by
  have l : ∀ x : Int, x.natAbs < 2 ^ 8000 → x.natAbs.log2 < 8001 := fun x hx => by
    by_cases hz : x.natAbs = 0
    · rw [hz]; decide
    · exact (Nat.log2_lt hz).mpr (Nat.lt_of_lt_of_le hx (Nat.pow_le_pow_right (by decide) (by decide)))
  have := l a ha
  have := l b hb
  show a.natAbs.log2 + b.natAbs.log2 < 1000000
  omega
theorem small_lt {n : Nat} (h : n < 2 ^ 100) : n < 2 ^ 8000 := Nat.lt_of_lt_of_le h (Nat.pow_le_pow_right (by decide) (by decide))
theorem cmul_nat {a b : Nat} (ha : a < 2 ^ 100) (hb : b < 2 ^ 100) : CMulW (a : Int) (b : Int) := cmul_small (small_lt (by simpa using ha)) (small_lt (by simpa using hb))
section
variable {st : S} {q : Rs → S → Prop} {er : QX} {d : D} {sh : List Nat}
/-! ### cells -/
def nextC (acc : List (List Nat)) (n : Nat) : List (List Nat) := acc.flatMap fun c => (List.range n).map fun i => c ++ [i]
def cellsN (sh : List Nat) : List (List Nat) := sh.foldl nextC [[]]
def cD (c : List Nat) : D := .tup (iD (iN c))
theorem nextC_len {acc : List (List Nat)} {n : Nat} : (nextC acc n).length = acc.length * n := by
  unfold nextC
  induction acc with
  | nil => simp
  | cons x xs ih => rw [List.flatMap_cons, List.length_append, ih]; simp [Nat.succ_mul]; omega
theorem cellsN_len' {sh : List Nat} : ∀ {acc : List (List Nat)}, (sh.foldl nextC acc).length = sh.foldl (· * ·) acc.length := by
  induction sh with
  | nil => intro acc; rfl
  | cons n ns ih => intro acc; rw [List.foldl_cons, ih, List.foldl_cons, nextC_len]
theorem cellsN_len : (cellsN sh).length = prodN sh := cellsN_len'
end
end LW
set_option Elab.async false
set_option linter.all false
set_option maxRecDepth 100000
set_option maxHeartbeats 1000000
namespace LW
open PySem L2 AM
/-! ### cells are distinct keys -/
theorem cD_inj {a b : List Nat} (h : cD a = cD b) : a = b := by
  unfold cD at h
  injection h with h
  induction a generalizing b with
  | nil => cases b with
    | nil => rfl
    | cons y ys => simp at h
  | cons x xs ih => cases b with
    | nil => simp at h
    | cons y ys =>
      simp only [List.map_cons, List.cons.injEq, D.int.injEq] at h
      rw [ih h.2, show x = y by omega]
theorem nodup_map {α β : Type} {f : α → β} (hf : ∀ a b, f a = f b → a = b) : ∀ {l : List α}, l.Nodup → (l.map f).Nodup
  | [], _ => by simp
  | x :: xs, h => by
    rw [List.nodup_cons] at h
    rw [List.map_cons, List.nodup_cons]
    refine ⟨fun hm => ?_, nodup_map hf h.2⟩
    obtain ⟨y, hy, e⟩ := List.mem_map.mp hm
    exact h.1 (hf _ _ e ▸ hy)
theorem nextC_nodup {acc : List (List Nat)} {n : Nat} (h : acc.Nodup) : (nextC acc n).Nodup := by
  unfold nextC
  induction acc with
  | nil => simp
  | cons c cs ih =>
    rw [List.nodup_cons] at h
    rw [List.flatMap_cons, List.nodup_append]
    refine ⟨nodup_map (fun a b e => by simpa using e) List.nodup_range, ih h.2, fun x hx y hy e => ?_⟩
    subst e
    obtain ⟨i, _, rfl⟩ := List.mem_map.mp hx
    obtain ⟨c2, h2, h3⟩ := List.mem_flatMap.mp hy
    obtain ⟨j, _, e⟩ := List.mem_map.mp h3
    have := List.append_inj_left' e (by simp)
    exact h.1 (this ▸ h2)
theorem cellsN_nodup {sh : List Nat} : (cellsN sh).Nodup := by
  unfold cellsN
  have : ∀ (l : List Nat) (acc : List (List Nat)), acc.Nodup → (l.foldl nextC acc).Nodup := by
    intro l
    induction l with
    | nil => exact fun acc h => h
    | cons n ns ih => exact fun acc h => ih _ (nextC_nodup h)
  exact this sh _ (by simp)
theorem nodup_fst {α β γ : Type} {f : α → γ} {xs : List α} {ys : List β} (h : (xs.map f).Nodup) (hl : xs.length = ys.length) : ((xs.zip ys).map fun (p : α × β) => f p.1).Nodup := by
  have e : ((xs.zip ys).map fun (p : α × β) => f p.1) = ((xs.zip ys).map Prod.fst).map f := by rw [List.map_map]; rfl
  rw [e, List.map_fst_zip (by omega)]
  exact h
theorem cD_nodup {sh : List Nat} : ((cellsN sh).map cD).Nodup := nodup_map (fun _ _ => cD_inj) cellsN_nodup
theorem cD_key {c : List Nat} : isKeyT (cD c) := ⟨c.map fun (i : Nat) => Sum.inl (i : Int), by unfold cD; simp [Function.comp_def, kD]⟩
/-! ### a game -/
def RowsAt (st : S) (d : D) (rows : List (List Int)) : Prop := ∃ l, itemsD (vw st d) = some l ∧ l.map (fun x => itemsD (vw st x)) = rows.map fun r => some (iD r)
structure RowsOk (sh : List Nat) (rows : List (List Int)) : Prop where
  len : rows.length = (cellsN sh).length
  each : ∀ r ∈ rows, r.length = sh.length
abbrev rL (r : List Int) : D := .lst (iD r)
abbrev rT (r : List Int) : D := .tup (iD r)
def paidD (sh : List Nat) (rows : List (List Int)) : List (D × D) := ((cellsN sh).zip rows).map fun p => (cD p.1, rT p.2)
abbrev shT (sh : List Nat) : D := .tup (iD (iN sh))
abbrev shL (sh : List Nat) : D := .lst (iD (iN sh))
def placesD (sh : List Nat) : D := .lst ((cellsN sh).map cD)
def gameF (sh : List Nat) (rows : List (List Int)) : List (Str × D) := [("shape", shT sh), ("players", .int sh.length), ("places", placesD sh), ("paid", .dic (paidD sh rows))]
def gameD (sh : List Nat) (rows : List (List Int)) : D := .obj "Game" (gameF sh rows)
theorem rowsAt_rL {st : S} {rows : List (List Int)} : RowsAt st (.lst (rows.map rL)) rows := ⟨_, rfl, by simp [Function.comp_def, itemsD, iD]⟩
theorem atI_nat {α : Type} {l : List α} {k : Nat} (h : k < l.length) : atI l (k : Int) = some l[k] := by
  have e : ixN l.length (k : Int) = some k := by unfold ixN; rw [if_pos (by omega), if_pos (by omega)]; simp
  unfold atI; rw [e]; exact List.getElem?_eq_getElem h
theorem oIxA_items {x : D} {l : List D} {i : Int} {q : D → Prop} (e : itemsD x = some l) : oIxA x (.int i) q = ∃ d, atI l i = some d ∧ q d := by
  cases x <;> first | (cases e; done) | (cases e; exact propext Iff.rfl)
theorem lenD_items {x : D} {l : List D} (e : itemsD x = some l) : lenD x = some l.length := by
  cases x <;> first | (cases e; done) | (cases e; rfl)
theorem okK_items {x : D} {l : List D} (e : itemsD x = some l) : okK x := by
  cases x <;> first | (cases e; done) | trivial
section
variable {st : S} {q : Rs → S → Prop} {er : QX} {d : D} {sh : List Nat} {rows : List (List Int)}
theorem RowsAt.get {l : List D} (h : l.map (fun x => itemsD (vw st x)) = rows.map fun r => some (iD r)) {k : Nat} (hk : k < rows.length) : ∃ (hl : k < l.length), isInts st l[k] rows[k] := by
  have hl : l.length = rows.length := by have := congrArg List.length h; simpa using this
  refine ⟨by omega, ?_⟩
  have := congrArg (fun z => z[k]?) h
  simp [List.getElem?_eq_getElem hk, List.getElem?_eq_getElem (show k < l.length by omega)] at this
  exact this
end
end LW
set_option Elab.async false
set_option linter.all false
set_option maxRecDepth 100000
set_option maxHeartbeats 1000000
namespace LW
open PySem L2 AM
theorem set_get {st : S} {n : Nat} {c c' : C} (hn : st[n]? = some c) : (st.set n c')[n]? = some c' := List.getElem?_set_self (List.getElem?_eq_some_iff.mp hn).1
/-! ### cells that are changed, and what is seen beside them -/
theorem vw_set {st : S} {n : Nat} {c : Str} {fs : List (Str × D)} {x : C} {d : D} (hn : st[n]? = some (.obj c fs)) {l : List D} (hl : itemsD (vw st d) = some l) : vw (st.set n x) d = vw st d := by
  cases d with
  | ref m =>
    by_cases hm : n = m
    · subst hm
      rw [vw_refO hn] at hl
      cases hl
    · unfold vw
      simp only [List.getElem?_set_ne hm]
  | _ => rfl
theorem isInts_set {st : S} {n : Nat} {c : Str} {fs : List (Str × D)} {x : C} {d : D} {ns : List Int} (hn : st[n]? = some (.obj c fs)) (h : isInts st d ns) : isInts (st.set n x) d ns := by
  unfold isInts at h ⊢
  rw [vw_set hn h]; exact h
theorem rowsAt_set {st : S} {n : Nat} {c : Str} {fs : List (Str × D)} {x : C} {d : D} {rows : List (List Int)} (hn : st[n]? = some (.obj c fs)) (h : RowsAt st d rows) : RowsAt (st.set n x) d rows := by
  obtain ⟨l, h1, h2⟩ := h
  refine ⟨l, by rw [vw_set hn h1]; exact h1, ?_⟩
  rw [← h2]
  refine List.map_congr_left fun y hy => ?_
  obtain ⟨k, hk, e⟩ := List.mem_iff_getElem.mp hy
  have hll : l.length = rows.length := by have := congrArg List.length h2; simpa using this
  obtain ⟨_, hi⟩ := RowsAt.get h2 (k := k) (by omega)
  rw [e] at hi
  rw [vw_set hn hi]
theorem vw_app {st : S} {x : List C} {d : D} (h : d.lt st.length) : vw (st ++ x) d = vw st d := by
  cases d with
  | ref m =>
    unfold D.lt at h
    unfold vw
    simp only [List.getElem?_append_left h]
  | _ => rfl
theorem ltL_mem {k : Nat} : ∀ {l : List D}, ltL k l → ∀ x ∈ l, x.lt k
  | [], _, _, h => by cases h
  | y :: ys, h, x, hx => by
    unfold ltL at h
    rcases List.mem_cons.mp hx with rfl | hx
    · exact h.1
    · exact ltL_mem h.2 x hx
theorem ltL_of {k : Nat} : ∀ {l : List D}, (∀ x ∈ l, x.lt k) → ltL k l
  | [], _ => by unfold ltL; trivial
  | y :: ys, h => by unfold ltL; exact ⟨h y (by simp), ltL_of fun x hx => h x (by simp [hx])⟩
theorem items_lt {st : S} {d : D} {k : Nat} {l : List D} (hd : d.lt k) (hs : ltS k st) (h : itemsD (vw st d) = some l) : ltL k l := by
  cases d with
  | ref n =>
    cases hn : st[n]? with
    | none => unfold vw at h; simp [hn, itemsD] at h
    | some c =>
      have hc := hs c (List.mem_of_getElem? hn)
      cases c with
      | lst l' => rw [vw_ref hn] at h; cases h; exact hc
      | _ => unfold vw at h; simp [hn, itemsD] at h
  | lst l' => cases h; unfold D.lt at hd; exact hd
  | tup l' => cases h; unfold D.lt at hd; exact hd
  | _ => cases h
theorem isInts_app {st : S} {x : List C} {d : D} {ns : List Int} (hd : d.lt st.length) (h : isInts st d ns) : isInts (st ++ x) d ns := by
  unfold isInts at h ⊢
  rw [vw_app hd]; exact h
theorem rowsAt_app {st : S} {x : List C} {d : D} {rows : List (List Int)} (hd : d.lt st.length) (hs : ltS st.length st) (h : RowsAt st d rows) : RowsAt (st ++ x) d rows := by
  obtain ⟨l, h1, h2⟩ := h
  refine ⟨l, by rw [vw_app hd]; exact h1, ?_⟩
  rw [← h2]
  exact List.map_congr_left fun y hy => by rw [vw_app (ltL_mem (items_lt hd hs h1) y hy)]
theorem ltL_iD {k : Nat} {ns : List Int} : ltL k (iD ns) := ltL_of fun x hx => by
  obtain ⟨i, _, rfl⟩ := List.mem_map.mp hx
  unfold D.lt; trivial
theorem lt_rL {k : Nat} {r : List Int} : (rL r).lt k := by unfold rL D.lt; exact ltL_iD
theorem lt_rT {k : Nat} {r : List Int} : (rT r).lt k := by unfold rT D.lt; exact ltL_iD
theorem lt_rows {k : Nat} {rows : List (List Int)} : (D.lst (rows.map rL)).lt k := by
  unfold D.lt
  exact ltL_of fun x hx => by
    obtain ⟨i, _, rfl⟩ := List.mem_map.mp hx
    exact lt_rL
theorem ltP_of {k : Nat} : ∀ {l : List (D × D)}, (∀ p ∈ l, p.1.lt k ∧ p.2.lt k) → ltP k l
  | [], _ => by unfold ltP; trivial
  | (a, b) :: ys, h => by unfold ltP; exact ⟨(h (a, b) (by simp)).1, (h (a, b) (by simp)).2, ltP_of fun x hx => h x (by simp [hx])⟩
theorem ltF_game {k : Nat} {sh : List Nat} {rows : List (List Int)} : ltF k (gameF sh rows) := by
  unfold gameF
  simp only [ltF, and_true]
  refine ⟨lt_rT, by unfold D.lt; trivial, ?_, ?_⟩
  · unfold placesD D.lt
    exact ltL_of fun x hx => by
      obtain ⟨i, _, rfl⟩ := List.mem_map.mp hx
      exact lt_rT
  · unfold D.lt
    exact ltP_of fun p hp => by
      obtain ⟨i, _, rfl⟩ := List.mem_map.mp hp
      exact ⟨lt_rT, lt_rT⟩
theorem lt_game {k : Nat} {sh : List Nat} {rows : List (List Int)} : (gameD sh rows).lt k := by unfold gameD D.lt; exact ltF_game
theorem fldAt_G {f : Str} {fs : List (Str × D)} : fldAt ["Game"] f (.obj "Game" fs) = fs.lookup f := show (if ("Game" : Str) ∈ [("Game" : Str)] then fs.lookup f else none) = fs.lookup f from if_pos List.mem_cons_self
def fs1 (sh : List Nat) : List (Str × D) := [("shape", shT sh)]
def fs2 (sh : List Nat) : List (Str × D) := [("shape", shT sh), ("players", .int sh.length)]
def fs3 (sh : List Nat) : List (Str × D) := [("shape", shT sh), ("players", .int sh.length), ("places", placesD sh)]
section
variable {st : S} {q : Rs → S → Prop} {er : QX} {d e : D} {sh : List Nat} {rows : List (List Int)} {n : Nat} {p : D → S → Prop}
/-! ### a game's fields -/
@[simp] theorem fq_shape : fldQ ["Game"] "shape" p (gameD sh rows) st = p (shT sh) st := fldQ_of (by unfold gameD; rw [vw_obj, fldAt_G]; rfl)
@[simp] theorem fq_players : fldQ ["Game"] "players" p (gameD sh rows) st = p (.int sh.length) st := fldQ_of (by unfold gameD; rw [vw_obj, fldAt_G]; rfl)
@[simp] theorem fq_places : fldQ ["Game"] "places" p (gameD sh rows) st = p (placesD sh) st := fldQ_of (by unfold gameD; rw [vw_obj, fldAt_G]; rfl)
@[simp] theorem fq_paid : fldQ ["Game"] "paid" p (gameD sh rows) st = p (.dic (paidD sh rows)) st := fldQ_of (by unfold gameD; rw [vw_obj, fldAt_G]; rfl)
@[simp] theorem vw_game : vw st (gameD sh rows) = gameD sh rows := rfl
@[simp] theorem vw_places : vw st (placesD sh) = placesD sh := rfl
@[simp] theorem vw_cD {c : List Nat} : vw st (cD c) = cD c := rfl
@[simp] theorem gdOf_places : gdOf st (placesD sh) = [] := rfl
@[simp] theorem isCls_game : isCls "Game" (gameD sh rows) = True := by unfold gameD; simp
@[simp] theorem isObj_payoffs : isObj "Game" "payoffs" (gameD sh rows) = True := propext ⟨fun _ => trivial, fun _ => ⟨rfl, rfl⟩⟩
theorem items_places : itemsD (placesD sh) = some ((cellsN sh).map cD) := rfl
theorem dlook_paid (rok : RowsOk sh rows) {x : List Nat × List Int} (h : x ∈ (cellsN sh).zip rows) : DLook (paidD sh rows) (cD x.1) (rT x.2) := dlook_zip (α := List Nat × List Int) (KK := fun p => cD p.1) (V := fun p => rT p.2) _ (nodup_fst cD_nodup rok.len.symm) h
theorem ix_paid (rok : RowsOk sh rows) {x : List Nat × List Int} (h : x ∈ (cellsN sh).zip rows) {q : D → Prop} : oIxA (.dic (paidD sh rows)) (cD x.1) q = q (rT x.2) := by
  rw [ev_oIxA_dic]
  exact propext ⟨fun ⟨_, h1, h2⟩ => by rw [dlook_one (dlook_paid rok h) h1]; exact h2, fun h1 => ⟨_, dlook_paid rok h, h1⟩⟩
theorem cells_zip (rok : RowsOk sh rows) : (cellsN sh).map cD = ((cellsN sh).zip rows).map fun p => cD p.1 := by
  have : (((cellsN sh).zip rows).map fun (p : List Nat × List Int) => cD p.1) = (((cellsN sh).zip rows).map Prod.fst).map cD := by rw [List.map_map]; rfl
  rw [this, List.map_fst_zip (by have := rok.len; omega)]
theorem rows_zip (rok : RowsOk sh rows) {α : Type} {f : List Int → α} : (((cellsN sh).zip rows).map fun p => f p.2) = rows.map f := by
  have : (((cellsN sh).zip rows).map fun (p : List Nat × List Int) => f p.2) = (((cellsN sh).zip rows).map Prod.snd).map f := by rw [List.map_map]; rfl
  rw [this, List.map_snd_zip (by have := rok.len; omega)]
theorem cells_le (ok : ShapeOk sh) : (cellsN sh).length ≤ 16 := by rw [cellsN_len]; exact ok.all
/-! ### the methods -/
end
end LW
set_option Elab.async false
set_option linter.all false
set_option maxRecDepth 100000
set_option maxHeartbeats 1000000
namespace LW
open PySem L2 AM
/-! ### comparing rows -/
@[simp] theorem ev_oNeB {a b : Bool} {q : D → Prop} : oNe (.bl a) (.bl b) q = q (.bl (!(a == b))) := by
  unfold oNe D.shp
  simp [-List.map_map, D.plain, D.dep, D.eqv]
theorem eqvs_iD : ∀ {a b : List Int}, D.eqvs (iD a) (iD b) = decide (a = b)
  | [], [] => by simp [D.eqvs]
  | [], _ :: _ => by simp [D.eqvs]
  | _ :: _, [] => by simp [D.eqvs]
  | x :: xs, y :: ys => by
    have : D.eqvs (D.int x :: iD xs) (D.int y :: iD ys) = (D.eqv (D.int x) (D.int y) && D.eqvs (iD xs) (iD ys)) := by rw [D.eqvs]
    simp only [List.map_cons]
    rw [this, eqvs_iD]
    by_cases h : x = y <;> by_cases h2 : xs = ys <;> simp [D.eqv, h, h2]
mutual
theorem eqv_refl : ∀ (x : D), x.plain = true → D.eqv x x = true
  | .non, _ => by simp [D.eqv]
  | .bl _, _ => by simp [D.eqv]
  | .int _, _ => by simp [D.eqv]
  | .str _, _ => by simp [D.eqv]
  | .lst l, h => by rw [D.eqv]; exact eqvs_refl l (by rw [D.plain] at h; exact h)
  | .tup l, h => by rw [D.eqv]; exact eqvs_refl l (by rw [D.plain] at h; exact h)
  | .dic _, h => by simp [D.plain] at h
  | .obj _ _, h => by simp [D.plain] at h
  | .fn _, h => by simp [D.plain] at h
  | .ty _, h => by simp [D.plain] at h
  | .ref _, h => by simp [D.plain] at h
  | .scr _, h => by simp [D.plain] at h
theorem eqvs_refl : ∀ (l : List D), D.plains l = true → D.eqvs l l = true
  | [], _ => by simp [D.eqvs]
  | x :: xs, h => by
    rw [D.plains, Bool.and_eq_true] at h
    rw [D.eqvs, eqv_refl x h.1, eqvs_refl xs h.2]
    rfl
end
theorem ne_self {x : D} {q : D → Prop} (h : x.shp) : oNe x x q = q (.bl false) := by
  unfold oNe
  rw [eqv_refl x h.1]
  simp [h]
theorem eq_self {x : D} {q : D → Prop} (h : x.shp) : oEq x x q = q (.bl true) := by
  unfold oEq
  rw [eqv_refl x h.1]
  simp [h]
theorem plains_of : ∀ {l : List D}, (∀ x ∈ l, x.plain = true) → D.plains l = true
  | [], _ => rfl
  | x :: xs, h => by unfold D.plains; rw [h x (by simp), plains_of fun y hy => h y (by simp [hy])]; rfl
theorem deps_of {k : Nat} : ∀ {l : List D}, (∀ x ∈ l, x.dep ≤ k) → D.deps l ≤ k
  | [], _ => by unfold D.deps; omega
  | x :: xs, h => by unfold D.deps; have := h x (by simp); have := deps_of (k := k) (l := xs) fun y hy => h y (by simp [hy]); omega
theorem plain_rL {r : List Int} : (rL r).plain = true := by unfold rL D.plain; exact plains_of fun x hx => by obtain ⟨i, _, rfl⟩ := List.mem_map.mp hx; rfl
theorem plain_rT {r : List Int} : (rT r).plain = true := by unfold rT D.plain; exact plains_of fun x hx => by obtain ⟨i, _, rfl⟩ := List.mem_map.mp hx; rfl
theorem dep_iD {r : List Int} : D.deps (iD r) ≤ 0 := deps_of fun x hx => by obtain ⟨i, _, rfl⟩ := List.mem_map.mp hx; unfold D.dep; omega
theorem dep_rL {r : List Int} : (rL r).dep ≤ 1 := by unfold rL D.dep; have := dep_iD (r := r); omega
theorem dep_rT {r : List Int} : (rT r).dep ≤ 1 := by unfold rT D.dep; have := dep_iD (r := r); omega
theorem shp_rL {r : List Int} : (rL r).shp := ⟨plain_rL, Nat.le_trans dep_rL (by decide)⟩
theorem shp_rT {r : List Int} : (rT r).shp := ⟨plain_rT, Nat.le_trans dep_rT (by decide)⟩
theorem shp_rows {rows : List (List Int)} : (D.lst (rows.map rL)).shp := by
  refine ⟨?_, ?_⟩
  · unfold D.plain; exact plains_of fun x hx => by obtain ⟨i, _, rfl⟩ := List.mem_map.mp hx; exact plain_rL
  · unfold D.dep
    have := deps_of (k := 1) (l := rows.map rL) fun x hx => by obtain ⟨i, _, rfl⟩ := List.mem_map.mp hx; exact dep_rL
    omega
theorem eqv_rL {a b : List Int} : D.eqv (rL a) (rL b) = decide (a = b) := by unfold rL; rw [D.eqv, eqvs_iD]
theorem eqv_rT {a b : List Int} : D.eqv (rT a) (rT b) = decide (a = b) := by unfold rT; rw [D.eqv, eqvs_iD]
theorem eqvs_rows : ∀ {a b : List (List Int)}, D.eqvs (a.map rL) (b.map rL) = decide (a = b)
  | [], [] => by simp [D.eqvs]
  | [], _ :: _ => by simp [D.eqvs]
  | _ :: _, [] => by simp [D.eqvs]
  | x :: xs, y :: ys => by
    simp only [List.map_cons]
    rw [D.eqvs, eqv_rL, eqvs_rows]
    by_cases h : x = y <;> by_cases h2 : xs = ys <;> simp [h, h2]
theorem ne_rows {a b : List (List Int)} {q : D → Prop} : oNe (.lst (a.map rL)) (.lst (b.map rL)) q = q (.bl (!decide (a = b))) := by
  unfold oNe; rw [D.eqv, eqvs_rows]; simp [shp_rows]
theorem eq_rows {a b : List (List Int)} {q : D → Prop} : oEq (.lst (a.map rL)) (.lst (b.map rL)) q = q (.bl (decide (a = b))) := by
  unfold oEq; rw [D.eqv, eqvs_rows]; simp [shp_rows]
theorem ne_rT {a b : List Int} {q : D → Prop} : oNe (rT a) (rT b) q = q (.bl (!decide (a = b))) := by unfold oNe; rw [eqv_rT]; simp [shp_rT]
theorem eq_rT {a b : List Int} {q : D → Prop} : oEq (rT a) (rT b) q = q (.bl (decide (a = b))) := by unfold oEq; rw [eqv_rT]; simp [shp_rT]
theorem ne_rL {a b : List Int} {q : D → Prop} : oNe (rL a) (rL b) q = q (.bl (!decide (a = b))) := by unfold oNe; rw [eqv_rL]; simp [shp_rL]
theorem eq_rL {a b : List Int} {q : D → Prop} : oEq (rL a) (rL b) q = q (.bl (decide (a = b))) := by unfold oEq; rw [eqv_rL]; simp [shp_rL]
theorem iN_inj {a b : List Nat} : (iN a = iN b) = (a = b) := by
  refine propext ⟨fun h => ?_, fun h => by rw [h]⟩
  induction a generalizing b with
  | nil => cases b with
    | nil => rfl
    | cons y ys => simp at h
  | cons x xs ih => cases b with
    | nil => simp at h
    | cons y ys =>
      simp only [List.map_cons, List.cons.injEq] at h
      rw [ih h.2, show x = y by omega]
def addR (a b : List (List Int)) : List (List Int) := List.zipWith (fun x y => List.zipWith (· + ·) x y) a b
section
variable {st : S} {q : Rs → S → Prop} {er : QX} {d e : D} {sh sh2 : List Nat} {rows rows2 : List (List Int)} {n : Nat} {p : D → S → Prop}
theorem addR_ok (rok : RowsOk sh rows) (rok2 : RowsOk sh rows2) : RowsOk sh (addR rows rows2) := by
  refine ⟨by unfold addR; simp [rok.len, rok2.len], fun r hr => ?_⟩
  unfold addR at hr
  obtain ⟨k, hk, e⟩ := List.mem_iff_getElem.mp hr
  simp at hk e
  rw [← e]
  simp [-List.map_map, rok.each rows[k] (List.getElem_mem _), rok2.each rows2[k] (List.getElem_mem _)]
theorem map_ok {f : Int → Int} (rok : RowsOk sh rows) : RowsOk sh (rows.map fun r => r.map f) := ⟨by simpa using rok.len, fun r hr => by
  obtain ⟨r', hr', rfl⟩ := List.mem_map.mp hr
  simpa using rok.each r' hr'⟩
theorem hits_of {m : List (D × D)} : ∀ {L : List (List Nat × (List Int × List Int))}, (∀ t ∈ L, DLook m (cD t.1) (rT t.2.2)) → DHits m (L.map fun t => (cD t.1, rT t.2.1)) (L.all fun t => decide (t.2.1 = t.2.2))
  | [], _ => .nil
  | t :: L, h => by
    rw [List.map_cons, List.all_cons, ← eqv_rT]
    exact .hit (h t (by simp)) shp_rT shp_rT (hits_of fun u hu => h u (by simp [hu]))
theorem prod_pos (ok : ShapeOk sh) : cellsN sh ≠ [] := by
  intro h
  have h1 := cellsN_len (sh := sh)
  rw [h] at h1
  have : ∀ (l : List Nat) (p : Nat), 1 ≤ p → (∀ n ∈ l, 1 ≤ n) → 1 ≤ l.foldl (· * ·) p := by
    intro l
    induction l with
    | nil => exact fun p hp _ => hp
    | cons n ns ih => exact fun p hp hn => ih _ (Nat.mul_le_mul hp (hn n (by simp))) fun m hm => hn m (by simp [hm])
  have := this sh 1 (Nat.le_refl _) fun n hn => (ok.each n hn).1
  unfold prodN at h1
  simp at h1
  omega
theorem keysT_paid (ok : ShapeOk sh) (rok : RowsOk sh rows) : keysT (paidD sh rows) := by
  refine ⟨fun h => ?_, fun p hp => ?_⟩
  · have := congrArg List.length h
    unfold paidD at this
    have l1 := rok.len
    have l2 : (cellsN sh).length ≠ 0 := fun z => prod_pos ok (List.eq_nil_of_length_eq_zero z)
    rw [List.length_map, List.length_zip] at this
    simp only [List.length_nil] at this
    omega
  · obtain ⟨x, _, rfl⟩ := List.mem_map.mp hp
    exact cD_key
theorem paid_eq (ok : ShapeOk sh) (rok : RowsOk sh rows) (rok2 : RowsOk sh rows2) {q : D → Prop} (h : q (.bl (decide (rows = rows2)))) : oEqT (.dic (paidD sh rows)) (.dic (paidD sh rows2)) q := by
  have l1 := rok.len; have l2 := rok2.len
  have m1 : ∀ x ∈ (cellsN sh).zip (rows.zip rows2), (x.1, x.2.2) ∈ (cellsN sh).zip rows2 := fun x hx => by
    obtain ⟨k, hk, e⟩ := List.mem_iff_getElem.mp hx
    simp at hk e
    subst e
    exact List.mem_iff_getElem.mpr ⟨k, by simp; omega, by simp⟩
  have hh := hits_of (m := paidD sh rows2) (L := (cellsN sh).zip (rows.zip rows2)) fun t ht => dlook_paid rok2 (m1 t ht)
  have e1 : (((cellsN sh).zip (rows.zip rows2)).map fun t => (cD t.1, rT t.2.1)) = paidD sh rows := by
    unfold paidD
    apply List.ext_getElem
    · simp; omega
    · intro k h1 h2; simp
  rw [e1] at hh
  refine ⟨_, _, _, rfl, rfl, keysT_paid ok rok, keysT_paid ok rok2, fun _ => hh, ?_⟩
  have e2 : ((cellsN sh).zip (rows.zip rows2)).all (fun t => decide (t.2.1 = t.2.2)) = decide (rows = rows2) := by
    rw [Bool.eq_iff_iff]
    simp only [List.all_eq_true, decide_eq_true_eq]
    constructor
    · intro h
      apply List.ext_getElem (by omega)
      intro k h1 h2
      exact h ((cellsN sh)[k], rows[k], rows2[k]) (List.mem_iff_getElem.mpr ⟨k, by simp; omega, by simp⟩)
    · rintro rfl x hx
      obtain ⟨k, hk, e⟩ := List.mem_iff_getElem.mp hx
      simp at hk e
      subst e
      rfl
  have e3 : ((paidD sh rows).length == (paidD sh rows2).length) = true := by unfold paidD; simp; omega
  rw [e2, e3]
  exact h
end
end LW
set_option Elab.async false
set_option linter.all false
set_option maxRecDepth 100000
set_option maxHeartbeats 1000000
namespace LW
open PySem L2 AM
def gcdL (ns : List Int) : Int := (ns.foldl (fun (g : Nat) n => Nat.gcd n.natAbs g) 0 : Nat)
theorem gcd_step (a b : Nat) (h : b ≠ 0) : Nat.gcd a b = Nat.gcd b (a % b) := by rw [Nat.gcd_comm a b, Nat.gcd_rec b a, Nat.gcd_comm]
/-- Euclid's loop, either form of its test -/
theorem euclid {t : AT} {b : AS} {k : AK} {e0 e1 e2 : A} {st : S}
    (ht : ∀ (x y : Int) (q : Bool → S → Prop) (er : QX), t [e0, e1, e2, .d (.int x), .d (.int y)] st q er = q (y != 0) st)
    (hb : ∀ (x y : Int) (k : AK), y ≠ 0 → b [e0, e1, e2, .d (.int x), .d (.int y)] st k = k.nx [e0, e1, e2, .d (.int y), .d (.int (x.fmod y))] st)
    (n m : Nat) (h : k.nx [e0, e1, e2, .d (.int (Nat.gcd n m)), .d (.int 0)] st) : sWhile t b [e0, e1, e2, .d (.int n), .d (.int m)] st k := by
  refine ⟨m + 1, ?_⟩
  induction m using Nat.strongRecOn generalizing n with
  | _ m ih =>
    rw [wh_succ, ht]
    by_cases hm : m = 0
    · subst hm
      simpa using h
    · have hm' : (m : Int) ≠ 0 := by omega
      rw [if_pos (by simpa using hm), hb _ _ _ hm']
      have e : (n : Int).fmod (m : Int) = ((n % m : Nat) : Int) := by
        rw [Int.fmod_eq_emod_of_nonneg _ (by omega)]; rfl
      rw [e]
      have hlt : n % m < m := Nat.mod_lt _ (by omega)
      have := ih (n % m) hlt m (by rw [← gcd_step n m hm]; exact h)
      -- more turns do no harm
      have mono : ∀ (j i : Nat) (x y : Int), i ≤ j → sWhN t b i [e0, e1, e2, .d (.int x), .d (.int y)] st k → sWhN t b j [e0, e1, e2, .d (.int x), .d (.int y)] st k := by
        intro j
        induction j with
        | zero => intro i x y hi h; have : i = 0 := by omega
                  subst this; exact h
        | succ j ihj =>
          intro i x y hi h
          cases i with
          | zero => exact h.elim
          | succ i =>
            rw [wh_succ, ht] at h ⊢
            by_cases hy : y = 0
            · subst hy; simpa using h
            · rw [if_pos (by simpa using hy), hb _ _ _ hy] at h ⊢
              exact ihj i _ _ (by omega) h
      exact mono m (n % m + 1) _ _ (by omega) this
theorem abs_int (n : Int) : (if n < 0 then -n else n) = (n.natAbs : Int) := by omega
/-- the loop over the numbers -/
theorem div_loop {b : AS} {k : AK} {d : D} {st : S} {gd : Gd} (hg : gdOk gd st)
    (hb : ∀ (n : Int) (g : Nat) (e3 e4 : A) (k : AK), k.nx [.d d, .d (.int (Nat.gcd n.natAbs g)), .d (.int n), .d (.int (Nat.gcd n.natAbs g)), .d (.int 0)] st → b [.d d, .d (.int g), .d (.int n), e3, e4] st k) :
    ∀ (ns : List Int) (g : Nat) (e2 e3 e4 : A), (∀ e2 e3 e4, k.nx [.d d, .d (.int (ns.foldl (fun (g : Nat) n => Nat.gcd n.natAbs g) g : Nat)), e2, e3, e4] st) → sForL gd (agName 2) b (ns.map .int) [.d d, .d (.int g), e2, e3, e4] st k
  | [], g, e2, e3, e4, h => ⟨hg, h e2 e3 e4⟩
  | n :: ns, g, e2, e3, e4, h => by
    rw [List.map_cons, for_cons]
    exact ⟨hg, hb n g e3 e4 _ (div_loop hg hb ns _ _ _ _ h)⟩
theorem divisor_spec {d : D} {ns : List Int} {st : S} {q : Rs → S → Prop} {er : QX} (hd : isInts st d ns) (h : q (.d (.int (gcdL ns))) st) : m_divisor [d] st q er := by
  refine ⟨rfl, ?_⟩
  show a_divisor [.d d, .no, .no, .no, .no] st _
  unfold a_divisor
  simp
  refine ⟨_, hd, ?_⟩
  refine div_loop gdOk_of (fun n g e3 e4 k hk => ?_) ns 0 _ _ _ (fun e2 e3 e4 => by simp; exact h)
  simp [abs_int]
  refine euclid (fun x y q er => by simp) (fun x y k hy => by simp [hy]) _ _ ?_
  simpa using hk
/-! ### ratios -/
def gsg (a b : Int) : Int := if b < 0 then -gcdL [a, b] else gcdL [a, b]
def rt (a b : Int) : Int := a.fdiv (gsg a b)
def rb (a b : Int) : Int := b.fdiv (gsg a b)
def ratD (a b : Int) : D := .tup [.int (rt a b), .int (rb a b)]
theorem gcdL_two (a b : Int) : gcdL [a, b] = (Nat.gcd b.natAbs a.natAbs : Nat) := by
  unfold gcdL
  simp
theorem gcdL_pos {a b : Int} (hb : b ≠ 0) : 0 < gcdL [a, b] := by
  rw [gcdL_two]
  have : 0 < Nat.gcd b.natAbs a.natAbs := Nat.gcd_pos_of_pos_left _ (by omega)
  omega
theorem gcdL_dvdL (a b : Int) : gcdL [a, b] ∣ a := by
  rw [gcdL_two]
  exact Int.ofNat_dvd_left.mpr (Nat.gcd_dvd_right _ _)
theorem gcdL_dvdR (a b : Int) : gcdL [a, b] ∣ b := by
  rw [gcdL_two]
  exact Int.ofNat_dvd_left.mpr (Nat.gcd_dvd_left _ _)
theorem gcdL_le {a b : Int} (hb : b ≠ 0) : (gcdL [a, b]).natAbs ≤ b.natAbs := by
  rw [gcdL_two]
  exact Nat.le_of_dvd (by omega) (Nat.gcd_dvd_left _ _)
theorem gsg_ne {a b : Int} (hb : b ≠ 0) : gsg a b ≠ 0 := by
  have := gcdL_pos (a := a) hb
  unfold gsg
  split <;> omega
theorem gsg_le {a b : Int} (hb : b ≠ 0) : (gsg a b).natAbs ≤ b.natAbs := by
  have := gcdL_le (a := a) hb
  unfold gsg
  split
  · rw [Int.natAbs_neg]; exact this
  · exact this
theorem gsg_dvdL (a b : Int) : gsg a b ∣ a := by
  unfold gsg
  split
  · exact Int.neg_dvd.mpr (gcdL_dvdL a b)
  · exact gcdL_dvdL a b
theorem gsg_dvdR (a b : Int) : gsg a b ∣ b := by
  unfold gsg
  split
  · exact Int.neg_dvd.mpr (gcdL_dvdR a b)
  · exact gcdL_dvdR a b
theorem rt_mul {a b : Int} : rt a b * gsg a b = a := Int.fdiv_mul_cancel (gsg_dvdL a b)
theorem rb_mul {a b : Int} : rb a b * gsg a b = b := Int.fdiv_mul_cancel (gsg_dvdR a b)
theorem gsg_sign {a b : Int} (hb : b ≠ 0) : (0 < b → 0 < gsg a b) ∧ (b < 0 → gsg a b < 0) := by
  have := gcdL_pos (a := a) hb
  unfold gsg
  constructor
  · intro h; rw [if_neg (by omega)]; exact this
  · intro h; rw [if_pos h]; omega
theorem rb_pos {a b : Int} (hb : b ≠ 0) : 0 < rb a b := by
  have e := rb_mul (a := a) (b := b)
  have s := gsg_sign (a := a) hb
  rcases Int.lt_or_lt_of_ne hb with h | h
  · have g := s.2 h
    rcases Int.lt_trichotomy (rb a b) 0 with z | z | z
    · have := Int.mul_pos_of_neg_of_neg z g; omega
    · rw [z] at e; omega
    · exact z
  · have g := s.1 h
    rcases Int.lt_trichotomy (rb a b) 0 with z | z | z
    · have := Int.mul_neg_of_neg_of_pos z g; omega
    · rw [z] at e; omega
    · exact z
theorem le_of_mul {x g a : Int} (e : x * g = a) (hg : g ≠ 0) : x.natAbs ≤ a.natAbs := by
  rw [← e, Int.natAbs_mul]
  exact Nat.le_mul_of_pos_right _ (by omega)
theorem rt_le {a b : Int} (hb : b ≠ 0) : (rt a b).natAbs ≤ a.natAbs := le_of_mul rt_mul (gsg_ne hb)
theorem rb_le {a b : Int} (hb : b ≠ 0) : (rb a b).natAbs ≤ b.natAbs := le_of_mul rb_mul (gsg_ne hb)
/-! ### sizes -/
theorem logN_lt {n k : Nat} (h : n < 2 ^ k) (hk : 0 < k) : n.log2 < k := by
  by_cases hz : n = 0
  · subst hz; simpa using hk
  · exact (Nat.log2_lt hz).mpr h
theorem cfd_of {x y : Int} (h0 : y ≠ 0) (h : y.natAbs < 2 ^ 8000) : CFd x y := ⟨h0, Nat.lt_of_lt_of_le (logN_lt h (by decide)) (by decide)⟩
theorem cmul_of {x y : Int} (hx : x.natAbs < 2 ^ 8000) (hy : y.natAbs < 2 ^ 8000) : CMulW x y := by
  have h1 := logN_lt hx (by decide)
  have h2 := logN_lt hy (by decide)
  show x.natAbs.log2 + y.natAbs.log2 < 1000000
  omega
theorem mul_bd {x y : Int} {a b : Nat} (hx : x.natAbs < 2 ^ a) (hy : y.natAbs < 2 ^ b) : (x * y).natAbs < 2 ^ (a + b) := by
  rw [Int.natAbs_mul, Nat.pow_add]
  exact Nat.mul_lt_mul_of_lt_of_le hx (Nat.le_of_lt hy) (Nat.lt_of_le_of_lt (Nat.zero_le _) hy)
theorem bd_le {x : Int} {a b : Nat} (hx : x.natAbs < 2 ^ a) (h : a ≤ b) : x.natAbs < 2 ^ b := Nat.lt_of_lt_of_le hx (Nat.pow_le_pow_right (by decide) h)
/-! ### the defs -/
section
variable {st : S} {q : Rs → S → Prop} {er : QX}
theorem ratio_spec {a b : Int} (hb : b ≠ 0) (hs : b.natAbs < 2 ^ 8000) (h : q (.d (ratD a b)) st) : m_ratio [.int a, .int b] st q er := by
  refine ⟨rfl, ?_⟩
  show a_ratio [.d (.int a), .d (.int b), .no] st _
  unfold a_ratio
  have hc : ∀ x, CFd x (gsg a b) := fun x => cfd_of (gsg_ne hb) (Nat.lt_of_le_of_lt (gsg_le hb) hs)
  simp [hb]
  refine divisor_spec (ns := [a, b]) rfl ?_
  have e : gsg a b = if b < 0 then -gcdL [a, b] else gcdL [a, b] := rfl
  by_cases hlt : b < 0
  · rw [if_pos hlt] at e
    have hc' := hc
    rw [e] at hc'
    simp [hlt, hc']
    rw [← e]; exact h
  · rw [if_neg hlt] at e
    have hc' := hc
    rw [e] at hc'
    simp [hlt, hc']
    rw [← e]; exact h
theorem ratio_zero {a : Int} (h : er ⟨"BadRatio", some ("bottom", .int 0)⟩ st) : m_ratio [.int a, .int 0] st q er := by
  refine ⟨rfl, ?_⟩
  show a_ratio [.d (.int a), .d (.int 0), .no] st _
  unfold a_ratio
  simp
  exact h
end
@[simp] theorem atI0 {α : Type} {x : α} {l : List α} : atI (x :: l) 0 = some x := by
  have e : ixN (x :: l).length 0 = some 0 := by unfold ixN; rw [if_pos (by decide), if_pos (by simp)]; rfl
  unfold atI; rw [e]; rfl
@[simp] theorem atI1 {α : Type} {x y : α} {l : List α} : atI (x :: y :: l) 1 = some y := by
  have e : ixN (x :: y :: l).length 1 = some 1 := by unfold ixN; rw [if_pos (by decide), if_pos (by simp only [List.length_cons]; omega)]; rfl
  unfold atI; rw [e]; rfl
theorem eqv_pair {a b : Int} : D.eqv (.tup [.int a, .int b]) (.tup [.int a, .int b]) = true := by simp [D.eqv, D.eqvs]
theorem shp_pair {a b : Int} : (D.tup [.int a, .int b]).shp := by
  unfold D.shp
  simp [D.plain, D.plains, D.dep, D.deps]
theorem eq_pair {a b : Int} {q : D → Prop} : oEq (.tup [.int a, .int b]) (.tup [.int a, .int b]) q = q (.bl true) := by
  unfold oEq
  simp [shp_pair, eqv_pair]
theorem ne_pair {a b : Int} {q : D → Prop} : oNe (.tup [.int a, .int b]) (.tup [.int a, .int b]) q = q (.bl false) := by
  unfold oNe
  simp [shp_pair, eqv_pair]
theorem gcd_fold_dvd : ∀ (ns : List Int) (x : Nat), (ns.foldl (fun (g : Nat) n => Nat.gcd n.natAbs g) x ∣ x) ∧ ∀ n ∈ ns, ns.foldl (fun (g : Nat) n => Nat.gcd n.natAbs g) x ∣ n.natAbs
  | [], x => ⟨Nat.dvd_refl _, by simp⟩
  | m :: ns, x => by
    obtain ⟨h1, h2⟩ := gcd_fold_dvd ns (Nat.gcd m.natAbs x)
    rw [List.foldl_cons]
    refine ⟨Nat.dvd_trans h1 (Nat.gcd_dvd_right _ _), fun n hn => ?_⟩
    rcases List.mem_cons.mp hn with rfl | hn
    · exact Nat.dvd_trans h1 (Nat.gcd_dvd_left _ _)
    · exact h2 n hn
theorem gcdL_dvd_mem {ns : List Int} {n : Int} (hn : n ∈ ns) : gcdL ns ∣ n := by
  unfold gcdL
  exact Int.ofNat_dvd_left.mpr ((gcd_fold_dvd ns 0).2 n hn)
def intF (f : Int → Int) : D → D
  | .int i => .int (f i)
  | d => d
theorem map_intF (f : Int → Int) (ns : List Int) : (ns.map D.int).map (intF f) = (ns.map f).map D.int := by
  rw [List.map_map, List.map_map]; rfl
def lowL (ns : List Int) : List Int := if gcdL ns = 0 then ns else ns.map fun n => n.fdiv (gcdL ns)
theorem gcd_fold_lt {B : Nat} : ∀ (ns : List Int) (g : Nat), g < B → (∀ n ∈ ns, n.natAbs < B) → ns.foldl (fun (g : Nat) n => Nat.gcd n.natAbs g) g < B
  | [], g, hg, _ => hg
  | n :: ns, g, hg, h => by
    refine gcd_fold_lt ns _ ?_ (fun x hx => h x (by simp [hx]))
    show Nat.gcd n.natAbs g < B
    by_cases hn : n.natAbs = 0
    · rw [hn, Nat.gcd_zero_left]; exact hg
    · exact Nat.lt_of_le_of_lt (Nat.gcd_le_left _ (by omega)) (h n (by simp))
theorem gcdL_lt {B : Nat} {ns : List Int} (hB : 0 < B) (h : ∀ n ∈ ns, n.natAbs < B) : (gcdL ns).natAbs < B := by
  unfold gcdL
  rw [Int.natAbs_natCast]
  exact gcd_fold_lt ns 0 hB h
theorem two_pos {k : Nat} : 0 < 2 ^ k := Nat.pow_pos (by decide)
section
variable {st : S} {q : Rs → S → Prop} {er : QX}
theorem divs {d : D} {g : Int} {ns : List Int} {gd : Gd} {ql : List D → S → Prop} (hg : gdOk gd st) (hl : ns.length ≤ 100000) (hc : ∀ x, CFd x g) (h : ql ((ns.map fun n => n.fdiv g).map .int) st) : aLcL gd (agName 2) aYes (aOp oFdiv (aVar 2) (aVar 1)) [.d d, .d (.int g), .no] ql (ns.map .int) [] st := by
  rw [lc_map (G := intF fun i => i.fdiv g) hg _ _ (fun x hx P1 P2 => ?_) (by simpa using hl)]
  · rw [map_intF]; simpa using h
  · obtain ⟨n, _, rfl⟩ := List.mem_map.mp hx
    simp [hc, intF]
theorem lowest_spec {d : D} {ns : List Int} (hd : isInts st d ns) (hl : ns.length ≤ 100000) (hs : ∀ n ∈ ns, n.natAbs < 2 ^ 8000) (h : q (.own ((lowL ns).map .int)) st) : m_lowest [d] st q er := by
  refine ⟨rfl, ?_⟩
  show a_lowest [.d d, .no, .no] st _
  unfold a_lowest
  simp
  refine divisor_spec hd ?_
  simp
  unfold lowL at h
  by_cases hz : gcdL ns = 0
  · rw [if_pos hz] at h
    simp [hz]
    exact ⟨_, hd, h⟩
  · rw [if_neg hz] at h
    simp [hz]
    exact ⟨_, hd, divs gdOk_of hl (fun x => cfd_of hz (gcdL_lt two_pos hs)) h⟩
end
end LW
set_option Elab.async false
set_option linter.all false
set_option maxRecDepth 100000
set_option maxHeartbeats 1000000
namespace LW
open PySem L2 AM
/-! ### draws -/
theorem log_lt {x : Int} {a b : Nat} (h : x.natAbs < 2 ^ a) (hb : a + 1 ≤ b) : x.natAbs.log2 < b := by
  by_cases hz : x.natAbs = 0
  · rw [hz, show Nat.log2 0 = 0 from rfl]; omega
  · exact (Nat.log2_lt hz).mpr (Nat.lt_of_lt_of_le h (Nat.pow_le_pow_right (by decide) (by omega)))
section
variable {st : S} {q : Rs → S → Prop} {er : QX} {d : D} {sh : List Nat}
theorem take_spec {n m : Nat} {ns : List Int} {k : Int} (hn : st[n]? = some (.pool m ns)) (hk : 0 < k) (hl : k.natAbs < 2 ^ 8000) (hm : m < 10 ^ 12) (h : ∀ (x : Int) (m' : Nat), 0 ≤ x → x < k → m ≤ m' → m' ≤ m + 1 → q (.d (.int x)) (st.set n (.pool m' ns))) : mTake [.ref n, .int k] st q er :=
  ⟨n, m, ns, k, rfl, hn, hk, Nat.lt_of_lt_of_le (log_lt hl (b := 8001) (by omega)) (by decide), hm, h⟩
structure Pre (L : List (List Nat)) (k : Nat) : Prop where
  one : [1] ∈ L
  len : L.length ≤ k
  each : ∀ sh ∈ L, 1 ≤ sh.length ∧ sh.length ≤ 3 ∧ ∀ n ∈ sh, 1 ≤ n ∧ n ≤ 4
theorem Pre.more {L M : List (List Nat)} {k : Nat} (h : Pre L k) (hl : M.length ≤ 4) (he : ∀ sh ∈ M, 1 ≤ sh.length ∧ sh.length ≤ 3 ∧ ∀ n ∈ sh, 1 ≤ n ∧ n ≤ 4) : Pre (L ++ M) (k + 4) := ⟨by simp [h.one], by have := h.len; simp; omega, fun sh hs => by
  rcases List.mem_append.mp hs with hs | hs
  · exact h.each sh hs
  · exact he sh hs⟩
def R4 : List Nat := [1, 2, 3, 4]
theorem R4_len : R4.length = 4 := rfl
theorem rng4 : ((List.range 4).map fun (n : Nat) => D.int (1 + (n : Int))) = R4.map fun (i : Nat) => D.int (i : Int) := rfl
end
end LW
set_option Elab.async false
set_option linter.all false
namespace SX
/-! ### sums -/
def sm : Nat → (Nat → Int) → Int
  | 0, _ => 0
  | n + 1, f => sm n f + f n
theorem sm_congr : ∀ {n : Nat} {f g : Nat → Int}, (∀ j, j < n → f j = g j) → sm n f = sm n g
  | 0, _, _, _ => rfl
  | n + 1, f, g, h => by
    show sm n f + f n = sm n g + g n
    rw [sm_congr (n := n) fun j hj => h j (by omega), h n (by omega)]
theorem sm_lin (a b : Int) (f g : Nat → Int) : ∀ n, sm n (fun j => a * f j + b * g j) = a * sm n f + b * sm n g
  | 0 => by simp [sm]
  | n + 1 => by
    show sm n _ + _ = a * (sm n f + f n) + b * (sm n g + g n)
    rw [sm_lin a b f g n]
    grind
theorem sm_mul (a : Int) (f : Nat → Int) (n : Nat) : sm n (fun j => a * f j) = a * sm n f := by
  have := sm_lin a 0 f f n
  simpa using this
theorem sm_add (f g : Nat → Int) (n : Nat) : sm n (fun j => f j + g j) = sm n f + sm n g := by
  have := sm_lin 1 1 f g n
  simpa using this
theorem sm_sub (f g : Nat → Int) (n : Nat) : sm n (fun j => f j - g j) = sm n f - sm n g := by
  have := sm_lin 1 (-1) f g n
  rw [sm_congr (g := fun j => 1 * f j + -1 * g j) fun j _ => by grind, this]
  grind
theorem sm_zero {n : Nat} {f : Nat → Int} (h : ∀ j, j < n → f j = 0) : sm n f = 0 := by
  rw [sm_congr (g := fun _ => 0 * (0 : Int)) (by simpa using h), sm_mul]
  simp
theorem sm_one : ∀ {n k : Nat} {f : Nat → Int}, k < n → (∀ j, j < n → j ≠ k → f j = 0) → sm n f = f k
  | 0, _, _, h, _ => absurd h (Nat.not_lt_zero _)
  | n + 1, k, f, h, z => by
    show sm n f + f n = f k
    by_cases e : k = n
    · rw [sm_zero fun j hj => z j (by omega) (by omega), e]; omega
    · rw [sm_one (n := n) (k := k) (by omega) fun j hj hn => z j (by omega) hn, z n (by omega) (fun q => e q.symm)]; omega
theorem sm_two {n k l : Nat} {f : Nat → Int} (hk : k < n) (hl : l < n) (hkl : k ≠ l) (z : ∀ j, j < n → j ≠ k → j ≠ l → f j = 0) : sm n f = f k + f l := by
  have e : sm n f = sm n (fun j => (if j = k then f k else 0) + (if j = l then f l else 0)) := sm_congr fun j hj => by
    by_cases h1 : j = k
    · rw [if_pos h1, if_neg (by omega), h1]; omega
    · rw [if_neg h1]
      by_cases h2 : j = l
      · rw [if_pos h2, h2]; omega
      · rw [if_neg h2, z j hj h1 h2]; omega
  rw [e, sm_add, sm_one (k := k) hk (fun j _ hn => if_neg hn), sm_one (k := l) hl (fun j _ hn => if_neg hn), if_pos rfl, if_pos rfl]
theorem sm_comm (n : Nat) : ∀ (m : Nat) (f : Nat → Nat → Int), sm n (fun i => sm m (fun j => f i j)) = sm m (fun j => sm n (fun i => f i j))
  | 0, f => sm_zero fun _ _ => rfl
  | m + 1, f => by
    show sm n (fun i => sm m (fun j => f i j) + f i m) = sm m _ + sm n _
    rw [sm_add, sm_comm n m f]
theorem sm_nonneg : ∀ {n : Nat} {f : Nat → Int}, (∀ j, j < n → 0 ≤ f j) → 0 ≤ sm n f
  | 0, _, _ => by simp [sm]
  | n + 1, f, h => by
    show 0 ≤ sm n f + f n
    have := sm_nonneg (n := n) fun j hj => h j (by omega)
    have := h n (by omega)
    omega
theorem sm_pos_ex : ∀ {n : Nat} {f : Nat → Int}, 0 < sm n f → ∃ j, j < n ∧ 0 < f j
  | 0, _, h => absurd h (by simp [sm])
  | n + 1, f, h => by
    have h : 0 < sm n f + f n := h
    by_cases q : 0 < f n
    · exact ⟨n, by omega, q⟩
    · obtain ⟨j, hj, hf⟩ := sm_pos_ex (n := n) (f := f) (by omega)
      exact ⟨j, by omega, hf⟩
/-- what is under a sum with two factors may be put in -/
theorem sm_le : ∀ {n : Nat} {f g : Nat → Int}, (∀ j, j < n → f j ≤ g j) → sm n f ≤ sm n g
  | 0, _, _, _ => by simp [sm]
  | n + 1, f, g, h => by
    show sm n f + f n ≤ sm n g + g n
    have := sm_le (n := n) fun j hj => h j (by omega)
    have := h n (by omega)
    omega
/-! ### one place changed -/
def up {α : Type} (v : Nat → α) (k : Nat) (x : α) : Nat → α := fun j => if j = k then x else v j
theorem up_same {α : Type} {v : Nat → α} {k : Nat} {x : α} : up v k x k = x := if_pos rfl
theorem up_ne {α : Type} {v : Nat → α} {k j : Nat} {x : α} (h : j ≠ k) : up v k x j = v j := if_neg h
theorem up_up {α : Type} {v : Nat → α} {k : Nat} {x y : α} : up (up v k x) k y = up v k y := by
  funext j; unfold up; by_cases h : j = k <;> simp [h]
theorem up_comm {α : Type} {v : Nat → α} {k l : Nat} {x y : α} (h : k ≠ l) : up (up v k x) l y = up (up v l y) k x := by
  funext j; unfold up
  by_cases h1 : j = k
  · by_cases h2 : j = l
    · omega
    · simp [h1, h2]; intro z; omega
  · simp [h1]
theorem up_id {α : Type} {v : Nat → α} {k : Nat} : up v k (v k) = v := by
  funext j; unfold up; by_cases h : j = k <;> simp [h]
/-! ### determinants of columns -/
def skip {α : Type} (v : Nat → α) (k : Nat) : Nat → α := fun j => if j < k then v j else v (j + 1)
def sgn (j : Nat) : Int := if j % 2 = 0 then 1 else -1
theorem sgn_succ (j : Nat) : sgn (j + 1) = - sgn j := by
  unfold sgn
  by_cases h : j % 2 = 0
  · rw [if_pos h, if_neg (by omega)]
  · rw [if_neg h, if_pos (by omega)]; rfl
def mnr (v : Nat → Nat → Int) (j : Nat) : Nat → Nat → Int := fun k i => skip v j k (i + 1)
def det : Nat → (Nat → Nat → Int) → Int
  | 0, _ => 1
  | n + 1, v => sm (n + 1) fun j => sgn j * v j 0 * det n (mnr v j)
theorem det_succ (n : Nat) (v : Nat → Nat → Int) : det (n + 1) v = sm (n + 1) fun j => sgn j * v j 0 * det n (mnr v j) := rfl
theorem det_congr : ∀ {n : Nat} {v w : Nat → Nat → Int}, (∀ j, j < n → ∀ i, i < n → v j i = w j i) → det n v = det n w
  | 0, _, _, _ => rfl
  | n + 1, v, w, h => by
    rw [det_succ, det_succ]
    refine sm_congr fun j hj => ?_
    rw [h j hj 0 (by omega), det_congr (n := n) (v := mnr v j) (w := mnr w j) fun k hk i hi => ?_]
    unfold mnr skip
    by_cases q : k < j
    · rw [if_pos q, if_pos q]; exact h k (by omega) _ (by omega)
    · rw [if_neg q, if_neg q]; exact h (k + 1) (by omega) _ (by omega)
theorem mnr_up_same {v : Nat → Nat → Int} {k : Nat} {x : Nat → Int} : mnr (up v k x) k = mnr v k := by
  funext j i; unfold mnr skip up
  by_cases h : j < k
  · rw [if_pos h, if_pos h, if_neg (by omega)]
  · rw [if_neg h, if_neg h, if_neg (by omega)]
theorem mnr_up_lt {v : Nat → Nat → Int} {k l : Nat} {x : Nat → Int} (h : k < l) : mnr (up v k x) l = up (mnr v l) k fun i => x (i + 1) := by
  funext j i; unfold mnr skip up
  by_cases h1 : j < l
  · by_cases h2 : j = k <;> simp [h1, h2, h]
  · simp [h1]; rw [if_neg (by omega), if_neg (by omega)]
theorem mnr_up_gt {v : Nat → Nat → Int} {k l : Nat} {x : Nat → Int} (h : l < k) : mnr (up v k x) l = up (mnr v l) (k - 1) fun i => x (i + 1) := by
  funext j i; unfold mnr skip up
  by_cases h1 : j < l
  · simp [h1]; rw [if_neg (by omega), if_neg (by omega)]
  · simp [h1]
    by_cases h2 : j + 1 = k
    · rw [if_pos h2, if_pos (by omega)]
    · rw [if_neg h2, if_neg (by omega)]
theorem det_lin (a b : Int) : ∀ {n : Nat} {v : Nat → Nat → Int} {k : Nat} {x y : Nat → Int}, k < n → det n (up v k fun i => a * x i + b * y i) = a * det n (up v k x) + b * det n (up v k y)
  | 0, _, _, _, _, h => absurd h (Nat.not_lt_zero _)
  | n + 1, v, k, x, y, h => by
    rw [det_succ, det_succ, det_succ, ← sm_lin]
    refine sm_congr fun j hj => ?_
    by_cases e : j = k
    · subst e
      rw [mnr_up_same, mnr_up_same, mnr_up_same, up_same, up_same, up_same]; grind
    · rw [up_ne e, up_ne e, up_ne e]
      by_cases q : k < j
      · rw [mnr_up_lt q, mnr_up_lt q, mnr_up_lt q, det_lin a b (n := n) (k := k) (by omega)]; grind
      · rw [mnr_up_gt (by omega), mnr_up_gt (by omega), mnr_up_gt (by omega), det_lin a b (n := n) (k := k - 1) (by omega)]; grind
theorem det_adj : ∀ {n : Nat} {v : Nat → Nat → Int} {k : Nat}, k + 1 < n → v k = v (k + 1) → det n v = 0
  | 0, _, _, h, _ => absurd h (Nat.not_lt_zero _)
  | n + 1, v, k, h, e => by
    rw [det_succ, sm_two (k := k) (l := k + 1) (by omega) h (by omega) fun j hj h1 h2 => ?_]
    · have : mnr v k = mnr v (k + 1) := by
        funext j i; unfold mnr skip
        by_cases q : j = k
        · rw [if_neg (by omega), if_pos (by omega), q, e]
        · by_cases q2 : j < k
          · rw [if_pos q2, if_pos (by omega)]
          · rw [if_neg q2, if_neg (by omega)]
      rw [this, sgn_succ, e]; grind
    · have z : det n (mnr v j) = 0 := by
        by_cases q : j < k
        · refine det_adj (n := n) (k := k - 1) (by omega) ?_
          funext i; unfold mnr skip
          rw [if_neg (by omega), if_neg (by omega), show k - 1 + 1 = k by omega, e]
        · refine det_adj (n := n) (k := k) (by omega) ?_
          funext i; unfold mnr skip
          rw [if_pos (by omega), if_pos (by omega), e]
      rw [z]; simp
theorem det_swap1 {n : Nat} {v : Nat → Nat → Int} {k l : Nat} (hk : k < n) (hl : l < n) (hkl : k ≠ l) (z : ∀ x, det n (up (up v k x) l x) = 0) (x y : Nat → Int) : det n (up (up v k x) l y) = - det n (up (up v k y) l x) := by
  have e1 : ∀ p q : Nat → Int, det n (up (up v k (fun i => 1 * p i + 1 * q i)) l (fun i => 1 * p i + 1 * q i)) = det n (up (up v k p) l p) + det n (up (up v k p) l q) + det n (up (up v k q) l p) + det n (up (up v k q) l q) := fun p q => by
    rw [det_lin 1 1 hl, up_comm hkl, up_comm hkl, det_lin 1 1 hk, det_lin 1 1 hk, up_comm hkl, up_comm hkl, up_comm hkl, up_comm hkl]
    grind
  have := e1 x y
  rw [z, z, z] at this
  omega
theorem det_eq0 : ∀ (g : Nat) {n : Nat} {v : Nat → Nat → Int} {a b : Nat}, b = a + 1 + g → b < n → v a = v b → det n v = 0
  | 0, n, v, a, b, h, hb, e => det_adj (k := a) (by omega) (by rw [e, h])
  | g + 1, n, v, a, b, h, hb, e => by
    have z : ∀ x, det n (up (up v (b - 1) x) b x) = 0 := fun x => det_adj (k := b - 1) (by omega) (by
      rw [show b - 1 + 1 = b by omega, up_same, up_ne (by omega), up_same])
    have s := det_swap1 (by omega) hb (by omega) z (v (b - 1)) (v b)
    rw [up_id, up_id] at s
    rw [s, det_eq0 g (a := a) (b := b - 1) (by omega) (by omega) (by rw [up_ne (by omega), up_ne (by omega), up_ne (by omega), up_same, e])]
    rfl
theorem det_eq {n : Nat} {v : Nat → Nat → Int} {a b : Nat} (ha : a < n) (hb : b < n) (hab : a ≠ b) (e : v a = v b) : det n v = 0 := by
  by_cases h : a < b
  · exact det_eq0 (b - a - 1) (by omega) hb e
  · exact det_eq0 (a - b - 1) (a := b) (b := a) (by omega) ha e.symm
theorem det_swap {n : Nat} {v : Nat → Nat → Int} {k l : Nat} (hk : k < n) (hl : l < n) (hkl : k ≠ l) (x y : Nat → Int) : det n (up (up v k x) l y) = - det n (up (up v k y) l x) :=
  det_swap1 hk hl hkl (fun x => det_eq hk hl hkl (by rw [up_same, up_ne hkl, up_same])) x y
theorem det_sum {n : Nat} {v : Nat → Nat → Int} {k : Nat} (hk : k < n) (c : Nat → Int) (x : Nat → Nat → Int) : ∀ m, det n (up v k fun i => sm m fun l => c l * x l i) = sm m fun l => c l * det n (up v k (x l))
  | 0 => by
    have := det_lin 0 0 (v := v) (x := fun _ => 0) (y := fun _ => 0) hk
    simp at this
    exact this
  | m + 1 => by
    have e := det_lin 1 (c m) (v := v) (x := fun i => sm m fun l => c l * x l i) (y := x m) hk
    rw [det_sum hk c x m] at e
    show det n (up v k fun i => (sm m fun l => c l * x l i) + c m * x m i) = _
    rw [show (fun i => (sm m fun l => c l * x l i) + c m * x m i) = (fun i => 1 * (sm m fun l => c l * x l i) + c m * x m i) from funext fun i => by omega, e]
    show 1 * _ + _ = sm m _ + c m * det n (up v k (x m))
    omega
/-- the unit columns -/
theorem det_unit : ∀ (n : Nat), det n (fun k i => if k = i then 1 else 0) = 1
  | 0 => rfl
  | n + 1 => by
    rw [det_succ, sm_one (k := 0) (by omega) fun j hj h => by simp [h]]
    have : mnr (fun k i => if k = i then (1 : Int) else 0) 0 = fun k i => if k = i then 1 else 0 := by
      funext k i; unfold mnr skip; simp
    rw [this, det_unit n]
    simp [sgn]
def fct : Nat → Nat
  | 0 => 1
  | n + 1 => (n + 1) * fct n
theorem sm_abs : ∀ {n B : Nat} {f : Nat → Int}, (∀ j, j < n → (f j).natAbs ≤ B) → (sm n f).natAbs ≤ n * B
  | 0, _, _, _ => by simp [sm]
  | n + 1, B, f, h => by
    have h1 := sm_abs (n := n) (B := B) (f := f) fun j hj => h j (by omega)
    have h2 := h n (by omega)
    show (sm n f + f n).natAbs ≤ (n + 1) * B
    rw [Nat.succ_mul]
    omega
theorem det_abs {B : Nat} : ∀ {n : Nat} {v : Nat → Nat → Int}, (∀ j, j < n → ∀ i, i < n → (v j i).natAbs ≤ B) → (det n v).natAbs ≤ fct n * B ^ n
  | 0, _, _ => by simp [det, fct]
  | n + 1, v, h => by
    rw [det_succ]
    have := sm_abs (n := n + 1) (B := B * (fct n * B ^ n)) (f := fun j => sgn j * v j 0 * det n (mnr v j)) fun j hj => by
      have i1 := det_abs (B := B) (n := n) (v := mnr v j) fun k hk i hi => by
        unfold mnr skip
        by_cases q : k < j
        · rw [if_pos q]; exact h k (by omega) _ (by omega)
        · rw [if_neg q]; exact h (k + 1) (by omega) _ (by omega)
      have i2 := h j hj 0 (by omega)
      rw [Int.natAbs_mul, Int.natAbs_mul]
      have i3 : (sgn j).natAbs = 1 := by unfold sgn; split <;> rfl
      rw [i3, Nat.one_mul]
      exact Nat.mul_le_mul i2 i1
    refine Nat.le_trans this (Nat.le_of_eq ?_)
    show (n + 1) * (B * (fct n * B ^ n)) = (n + 1) * fct n * B ^ (n + 1)
    rw [Nat.pow_succ]
    grind
end SX
set_option Elab.async false
set_option linter.all false
namespace SX
/-! ### sheets: d over all, lines T, basic columns b, costs z -/
structure St where
  d : Int
  T : Nat → Nat → Int
  b : Nat → Nat
  z : Nat → Int
abbrev St.B (s : St) (A : Nat → Nat → Int) : Nat → Nat → Int := fun k => A (s.b k)
structure Inv (A : Nat → Nat → Int) (g : Nat → Int) (M N : Nat) (s : St) : Prop where
  dpos : 0 < s.d
  bN : ∀ k, k < M → s.b k < N
  V : ∀ c, c < N → ∀ i, i < M → s.d * A c i = sm M fun k => s.T k c * A (s.b k) i
  Z : ∀ c, c < N → s.z c = sm M (fun k => g (s.b k) * s.T k c) - s.d * g c
  E : ∃ e : Int, (e = 1 ∨ e = -1) ∧ s.d = e * det M (s.B A)
section
variable {A : Nat → Nat → Int} {g : Nat → Int} {M N : Nat} {s : St}
theorem cancel {a x y : Int} (h : a ≠ 0) (e : a * x = a * y) : x = y := Int.eq_of_mul_eq_mul_left h e
/-- a combination of the basic columns in one place -/
theorem comb (I : Inv A g M N s) {v : Nat → Nat → Int} {k c : Nat} (hk : k < M) (hc : c < N) : s.d * det M (up v k (A c)) = sm M fun l => s.T l c * det M (up v k (s.B A l)) := by
  have h1 := det_lin s.d 0 (v := v) (x := A c) (y := A c) hk
  rw [← det_sum hk]
  have h2 : det M (up v k fun i => sm M fun l => s.T l c * s.B A l i) = det M (up v k fun i => s.d * A c i + 0 * A c i) := det_congr fun j hj i hi => by
    unfold up
    by_cases e : j = k
    · rw [if_pos e, if_pos e, ← I.V c hc i hi]; grind
    · rw [if_neg e, if_neg e]
  rw [h2, h1]; grind
theorem det_dup {v : Nat → Nat → Int} {k l : Nat} (hk : k < M) (hl : l < M) (h : k ≠ l) : det M (up v k (v l)) = 0 :=
  det_eq hk hl h (by rw [up_same, up_ne (Ne.symm h)])
theorem cram (I : Inv A g M N s) {e : Int} (hd : s.d = e * det M (s.B A)) {k c : Nat} (hk : k < M) (hc : c < N) : s.T k c = e * det M (up (s.B A) k (A c)) := by
  have h := comb I (v := s.B A) hk hc
  rw [sm_one (k := k) hk fun j hj hn => by rw [det_dup hk hj (Ne.symm hn)]; grind, up_id] at h
  have h0 := I.dpos
  have hne : det M (s.B A) ≠ 0 := fun z => by rw [z] at hd; omega
  refine cancel hne ?_
  grind
theorem basic (I : Inv A g M N s) {k l : Nat} (hk : k < M) (hl : l < M) : s.T k (s.b l) = if k = l then s.d else 0 := by
  obtain ⟨e, _, hd⟩ := I.E
  rw [cram I hd hk (I.bN l hl)]
  by_cases h : k = l
  · subst h
    rw [if_pos rfl, show A (s.b k) = s.B A k from rfl, up_id, ← hd]
  · rw [if_neg h, show A (s.b l) = s.B A l from rfl, det_dup hk hl h]; grind
theorem cost0 (I : Inv A g M N s) {l : Nat} (hl : l < M) : s.z (s.b l) = 0 := by
  rw [I.Z _ (I.bN l hl), sm_one (k := l) hl fun j hj hn => by rw [basic I hj hl, if_neg hn]; grind]
  rw [basic I hl hl, if_pos rfl]; grind
theorem b_inj (I : Inv A g M N s) {k l : Nat} (hk : k < M) (hl : l < M) (h : s.b k = s.b l) : k = l := by
  have h1 := basic I hk hk
  have h2 := basic I hk hl
  rw [← h, h1, if_pos rfl] at h2
  have := I.dpos
  by_cases e : k = l
  · exact e
  · rw [if_neg e] at h2; omega
/-- the same basic columns: the same sheet -/
theorem same {s' : St} (I : Inv A g M N s) (I' : Inv A g M N s') (h : ∀ k, k < M → s.b k = s'.b k) : s.d = s'.d ∧ (∀ k c, k < M → c < N → s.T k c = s'.T k c) ∧ ∀ c, c < N → s.z c = s'.z c := by
  obtain ⟨e, he, hd⟩ := I.E
  obtain ⟨e', he', hd'⟩ := I'.E
  have hB : det M (s.B A) = det M (s'.B A) := det_congr fun j hj i _ => by show A (s.b j) i = A (s'.b j) i; rw [h j hj]
  have h0 := I.dpos
  have h0' := I'.dpos
  have ee : e = e' := by
    rw [hB] at hd
    rcases he with rfl | rfl <;> rcases he' with rfl | rfl <;> omega
  have hdd : s.d = s'.d := by rw [hd, hd', hB, ee]
  have hT : ∀ k c, k < M → c < N → s.T k c = s'.T k c := fun k c hk hc => by
    rw [cram I hd hk hc, cram I' hd' hk hc, ee]
    congr 1
    refine det_congr fun j hj i _ => ?_
    unfold up
    by_cases q : j = k
    · rw [if_pos q, if_pos q]
    · rw [if_neg q, if_neg q]; show A (s.b j) i = A (s'.b j) i; rw [h j hj]
  refine ⟨hdd, hT, fun c hc => ?_⟩
  rw [I.Z c hc, I'.Z c hc, hdd, sm_congr fun k hk => by rw [h k hk, hT k c hk hc]]
/-! ### columns exchanged -/
def sg (s : St) (at' col : Nat) : Int := if s.T at' col < 0 then -1 else 1
def ch (s : St) (at' col c : Nat) : Int := sg s at' col * s.T at' c
def piv (s : St) (at' col : Nat) : St where
  d := ch s at' col col
  T := fun k c => if k = at' then ch s at' col c else (s.T k c * ch s at' col col - s.T k col * ch s at' col c).fdiv s.d
  b := up s.b at' col
  z := fun c => (s.z c * ch s at' col col - s.z col * ch s at' col c).fdiv s.d
theorem sg_pm : sg s k c = 1 ∨ sg s k c = -1 := by unfold sg; split <;> simp
theorem ch_pos {k c : Nat} (h : s.T k c ≠ 0) : 0 < ch s k c c := by unfold ch sg; split <;> omega
theorem plu (I : Inv A g M N s) {e : Int} (hd : s.d = e * det M (s.B A)) {k r col c : Nat} (hk : k < M) (hr : r < M) (hkr : k ≠ r) (hcol : col < N) (hc : c < N) :
    s.T k c * s.T r col - s.T k col * s.T r c = s.d * (e * det M (up (up (s.B A) r (A col)) k (A c))) := by
  have h := comb I (v := up (s.B A) k (A c)) hr hcol
  rw [sm_two (k := r) (l := k) hr hk (Ne.symm hkr) fun j hj h1 h2 => ?_] at h
  · have e1 : up (up (s.B A) k (A c)) r (s.B A r) = up (s.B A) k (A c) := by
      have := up_id (v := up (s.B A) k (A c)) (k := r)
      rw [up_ne (Ne.symm hkr)] at this
      exact this
    have e2 : det M (up (up (s.B A) k (A c)) r (s.B A k)) = - det M (up (s.B A) r (A c)) := by
      rw [det_swap hk hr hkr]
      congr 2
      rw [up_comm hkr]
      have := up_id (v := up (s.B A) r (A c)) (k := k)
      rw [up_ne hkr] at this
      exact this
    rw [e1, e2] at h
    rw [up_comm (Ne.symm hkr), cram I hd hk hc, cram I hd hr hc]
    grind
  · have : det M (up (up (s.B A) k (A c)) r (s.B A j)) = 0 := det_eq hr hj (Ne.symm h1) (by rw [up_same, up_ne h1, up_ne h2])
    rw [this]; grind
theorem fdiv_of {a b c : Int} (hb : b ≠ 0) (h : a = b * c) : a.fdiv b = c := by rw [h]; exact Int.mul_fdiv_cancel_left c hb
theorem piv_T (I : Inv A g M N s) {e : Int} (hd : s.d = e * det M (s.B A)) {k r col c : Nat} (hk : k < M) (hr : r < M) (hkr : k ≠ r) (hcol : col < N) (hc : c < N) :
    (piv s r col).T k c = sg s r col * (e * det M (up (up (s.B A) r (A col)) k (A c))) ∧ s.d * (piv s r col).T k c = s.T k c * ch s r col col - s.T k col * ch s r col c := by
  have h := plu I hd hk hr hkr hcol hc
  have h0 := I.dpos
  have e1 : s.T k c * ch s r col col - s.T k col * ch s r col c = s.d * (sg s r col * (e * det M (up (up (s.B A) r (A col)) k (A c)))) := by unfold ch; grind
  have e2 : (piv s r col).T k c = sg s r col * (e * det M (up (up (s.B A) r (A col)) k (A c))) := by
    show (if k = r then _ else _) = _
    rw [if_neg hkr]
    exact fdiv_of (by omega) e1
  exact ⟨e2, by rw [e2, e1]⟩
theorem piv_same {r col c : Nat} : (piv s r col).T r c = ch s r col c := if_pos rfl
theorem piv_b {r col k : Nat} : (piv s r col).b k = if k = r then col else s.b k := rfl
/-- a sum with one place apart -/
theorem sm_split {f : Nat → Int} : ∀ {n k : Nat}, k < n → sm n f = f k + sm n fun j => if j = k then 0 else f j := fun {n k} h => by
  have : sm n f = sm n (fun j => (if j = k then f k else 0) + (if j = k then 0 else f j)) := sm_congr fun j _ => by
    by_cases e : j = k
    · rw [if_pos e, if_pos e, e]; omega
    · rw [if_neg e, if_neg e]; omega
  rw [this, sm_add, sm_one (k := k) h (fun j _ hn => if_neg hn), if_pos rfl]
theorem piv_Z (I : Inv A g M N s) {r col c : Nat} (hr : r < M) (hcol : col < N) (hc : c < N) (hp : s.T r col ≠ 0) :
    s.d * (sm M (fun k => g ((piv s r col).b k) * (piv s r col).T k c) - ch s r col col * g c) = s.z c * ch s r col col - s.z col * ch s r col c := by
  obtain ⟨e, he, hd⟩ := I.E
  rw [sm_split hr]
  have e1 : (sm M fun j => if j = r then 0 else g ((piv s r col).b j) * (piv s r col).T j c) * s.d = sm M fun j => if j = r then 0 else g (s.b j) * (s.T j c * ch s r col col - s.T j col * ch s r col c) := by
    rw [Int.mul_comm, ← sm_mul]
    refine sm_congr fun j hj => ?_
    by_cases q : j = r
    · rw [if_pos q, if_pos q]; grind
    · rw [if_neg q, if_neg q, piv_b, if_neg q, ← (piv_T I hd hj hr q hcol hc).2]; grind
  have e2 : (sm M fun j => if j = r then 0 else g (s.b j) * (s.T j c * ch s r col col - s.T j col * ch s r col c)) = (sm M fun j => g (s.b j) * (s.T j c * ch s r col col - s.T j col * ch s r col c)) := by
    have := sm_split (f := fun j => g (s.b j) * (s.T j c * ch s r col col - s.T j col * ch s r col c)) hr
    have z : g (s.b r) * (s.T r c * ch s r col col - s.T r col * ch s r col c) = 0 := by unfold ch; grind
    rw [this]; omega
  have e3 : (sm M fun j => g (s.b j) * (s.T j c * ch s r col col - s.T j col * ch s r col c)) = ch s r col col * (sm M fun j => g (s.b j) * s.T j c) + (- ch s r col c) * sm M fun j => g (s.b j) * s.T j col := by
    rw [← sm_lin]
    exact sm_congr fun j _ => by grind
  rw [I.Z c hc, I.Z col hcol, piv_b, if_pos rfl, piv_same]
  rw [e2, e3] at e1
  grind
theorem piv_inv (I : Inv A g M N s) {r col : Nat} (hr : r < M) (hcol : col < N) (hp : s.T r col ≠ 0) : Inv A g M N (piv s r col) := by
  obtain ⟨e, he, hd⟩ := I.E
  have h0 := I.dpos
  have hdet : det M ((piv s r col).B A) = det M (up (s.B A) r (A col)) := det_congr fun j hj i _ => by
    show A ((piv s r col).b j) i = _
    rw [piv_b]
    unfold up
    by_cases q : j = r
    · rw [if_pos q, if_pos q]
    · rw [if_neg q, if_neg q]
  refine ⟨ch_pos hp, fun k hk => ?_, fun c hc i hi => ?_, fun c hc => ?_, sg s r col * e, ?_, ?_⟩
  · rw [piv_b]
    split
    · exact hcol
    · exact I.bN k hk
  · refine cancel (a := s.d) (by omega) ?_
    rw [sm_split hr, piv_same, piv_b, if_pos rfl]
    have e1 : s.d * (sm M fun j => if j = r then 0 else (piv s r col).T j c * A ((piv s r col).b j) i) = sm M fun j => (s.T j c * ch s r col col - s.T j col * ch s r col c) * A (s.b j) i := by
      rw [← sm_mul]
      have e2 := sm_split (f := fun j => (s.T j c * ch s r col col - s.T j col * ch s r col c) * A (s.b j) i) hr
      have z : (s.T r c * ch s r col col - s.T r col * ch s r col c) * A (s.b r) i = 0 := by unfold ch; grind
      rw [e2, z, Int.zero_add]
      refine sm_congr fun j hj => ?_
      by_cases q : j = r
      · rw [if_pos q, if_pos q]; grind
      · rw [if_neg q, if_neg q, piv_b, if_neg q, ← (piv_T I hd hj hr q hcol hc).2]; grind
    have e3 : (sm M fun j => (s.T j c * ch s r col col - s.T j col * ch s r col c) * A (s.b j) i) = ch s r col col * (s.d * A c i) + (- ch s r col c) * (s.d * A col i) := by
      rw [I.V c hc i hi, I.V col hcol i hi, ← sm_lin]
      exact sm_congr fun j _ => by grind
    show s.d * (ch s r col col * A c i) = _
    rw [Int.mul_add, e1, e3]; grind
  · show (_ : Int).fdiv s.d = _
    exact fdiv_of (by omega) (piv_Z I hr hcol hc hp).symm
  · rcases sg_pm (s := s) (k := r) (c := col) with q | q <;> rw [q] <;> rcases he with rfl | rfl <;> simp
  · rw [hdet]
    show sg s r col * s.T r col = _
    rw [cram I hd hr hcol]; grind
theorem piv_z (I : Inv A g M N s) {r col c : Nat} (hr : r < M) (hcol : col < N) (hc : c < N) (hp : s.T r col ≠ 0) : s.d * (piv s r col).z c = s.z c * ch s r col col - s.z col * ch s r col c := by
  rw [(piv_inv I hr hcol hp).Z c hc]
  exact piv_Z I hr hcol hc hp
end
end SX
set_option Elab.async false
set_option linter.all false
namespace SX
structure BStep (M cnt tot : Nat) (s : St) (r col : Nat) : Prop where
  hr : r < M
  hcol : col < cnt
  neg : s.z col < 0
  first : ∀ c, c < col → 0 ≤ s.z c
  pos : 0 < s.T r col
  ratio : ∀ k, k < M → 0 < s.T k col → s.T r tot * s.T k col ≤ s.T k tot * s.T r col
  tie : ∀ k, k < M → 0 < s.T k col → s.T r tot * s.T k col = s.T k tot * s.T r col → s.b r ≤ s.b k
def Feas (M tot : Nat) (s : St) : Prop := ∀ k, k < M → 0 ≤ s.T k tot
section
variable {A : Nat → Nat → Int} {g : Nat → Int} {M N cnt tot : Nat} {s : St}
theorem sg_one {r col : Nat} (h : 0 < s.T r col) : sg s r col = 1 := by unfold sg; rw [if_neg (by omega)]
theorem ch_one {r col c : Nat} (h : 0 < s.T r col) : ch s r col c = s.T r c := by unfold ch; rw [sg_one h]; omega
theorem nn_of_mul {d x : Int} (hd : 0 < d) (h : 0 ≤ d * x) : 0 ≤ x := by
  rcases Int.lt_or_le x 0 with q | q
  · have := Int.mul_neg_of_pos_of_neg hd q; omega
  · exact q
theorem feas_step (I : Inv A g M N s) (F : Feas M tot s) (ht : tot < N) (hcn : cnt ≤ tot) {r col : Nat} (B : BStep M cnt tot s r col) : Feas M tot (piv s r col) := fun k hk => by
  have hp := B.pos
  have hcol := B.hcol
  by_cases e : k = r
  · subst e
    rw [piv_same, ch_one hp]
    exact F k hk
  · obtain ⟨e1, _, hd⟩ := I.E
    have h := (piv_T I hd hk B.hr e (show col < N by omega) ht).2
    rw [ch_one hp, ch_one hp] at h
    refine nn_of_mul I.dpos ?_
    rw [h]
    have f1 := F k hk
    have f2 := F r B.hr
    rcases Int.lt_or_le 0 (s.T k col) with q | q
    · have := B.ratio k hk q
      have e3 : s.T k col * s.T r tot = s.T r tot * s.T k col := Int.mul_comm _ _
      omega
    · have h1 := Int.mul_nonneg f1 (Int.le_of_lt hp)
      have h2 := Int.mul_nonpos_of_nonpos_of_nonneg q f2
      omega
theorem obj_step (I : Inv A g M N s) (ht : tot < N) (hcn : cnt ≤ tot) {r col : Nat} (B : BStep M cnt tot s r col) : (piv s r col).z tot * s.d - s.z tot * (piv s r col).d = - (s.z col * s.T r tot) := by
  have hp := B.pos
  have hcol := B.hcol
  have h := piv_z I B.hr (show col < N by omega) ht (by omega)
  rw [ch_one hp, ch_one hp] at h
  have e : (piv s r col).d = s.T r col := ch_one hp
  rw [e]
  have e2 : (piv s r col).z tot * s.d = s.d * (piv s r col).z tot := Int.mul_comm _ _
  omega
/-! ### two sheets -/
theorem cross (I : Inv A g M N s) {s2 : St} (I2 : Inv A g M N s2) {c : Nat} (hc : c < N) : sm M (fun k => s.T k c * s2.z (s.b k)) = s.d * s2.z c - s2.d * s.z c := by
  obtain ⟨e, he, hd⟩ := I2.E
  have lem : ∀ l, l < M → sm M (fun k => s.T k c * s2.T l (s.b k)) = s.d * s2.T l c := fun l hl => by
    have h := comb I (v := s2.B A) hl hc
    rw [cram I2 hd hl hc, sm_congr (g := fun k => e * (s.T k c * det M (up (s2.B A) l (s.B A k)))) fun k hk => by rw [cram I2 hd hl (I.bN k hk)]; show s.T k c * (e * det M (up (s2.B A) l (A (s.b k)))) = _; grind, sm_mul, ← h]
    grind
  have e1 : sm M (fun k => s.T k c * s2.z (s.b k)) = sm M (fun k => sm M fun l => g (s2.b l) * (s.T k c * s2.T l (s.b k))) - s2.d * sm M fun k => g (s.b k) * s.T k c := by
    rw [← sm_mul, ← sm_sub]
    refine sm_congr fun k hk => ?_
    rw [I2.Z _ (I.bN k hk), Int.mul_sub, ← sm_mul]
    have : (sm M fun j => s.T k c * (g (s2.b j) * s2.T j (s.b k))) = sm M fun l => g (s2.b l) * (s.T k c * s2.T l (s.b k)) := sm_congr fun l _ => by grind
    rw [this]; grind
  rw [e1, sm_comm, I.Z c hc, I2.Z c hc]
  have e2 : (sm M fun l => sm M fun k => g (s2.b l) * (s.T k c * s2.T l (s.b k))) = s.d * sm M fun l => g (s2.b l) * s2.T l c := by
    rw [← sm_mul]
    refine sm_congr fun l hl => ?_
    rw [sm_mul, lem l hl]; grind
  rw [e2]; grind
/-! ### a run -/
structure Run (A : Nat → Nat → Int) (g : Nat → Int) (M N cnt tot : Nat) (σ : Nat → St) (cl rw_ : Nat → Nat) (n : Nat) : Prop where
  inv : Inv A g M N (σ 0)
  feas : Feas M tot (σ 0)
  ht : tot < N
  hc : cnt ≤ tot
  step : ∀ i, i < n → BStep M cnt tot (σ i) (rw_ i) (cl i) ∧ σ (i + 1) = piv (σ i) (rw_ i) (cl i)
variable {σ : Nat → St} {cl rw_ : Nat → Nat} {n : Nat}
theorem Run.all (R : Run A g M N cnt tot σ cl rw_ n) : ∀ i, i ≤ n → Inv A g M N (σ i) ∧ Feas M tot (σ i)
  | 0, _ => ⟨R.inv, R.feas⟩
  | i + 1, h => by
    obtain ⟨I, F⟩ := R.all i (by omega)
    obtain ⟨B, e⟩ := R.step i (by omega)
    rw [e]
    have h1 := B.hcol; have h2 := R.hc; have h3 := R.ht; have h4 := B.pos
    exact ⟨piv_inv I B.hr (by omega) (by omega), feas_step I F R.ht R.hc B⟩
theorem frac_le {x1 y1 x2 y2 x3 y3 : Int} (h1 : 0 < y1) (h2 : 0 < y2) (h3 : 0 < y3) (a : x1 * y2 ≤ x2 * y1) (b : x2 * y3 ≤ x3 * y2) : x1 * y3 ≤ x3 * y1 := by
  have e1 := Int.mul_le_mul_of_nonneg_right a (Int.le_of_lt h3)
  have e2 := Int.mul_le_mul_of_nonneg_right b (Int.le_of_lt h1)
  have : y2 * (x1 * y3) ≤ y2 * (x3 * y1) := by
    have f1 : y2 * (x1 * y3) = x1 * y2 * y3 := by grind
    have f2 : y2 * (x3 * y1) = x3 * y2 * y1 := by grind
    have f3 : x2 * y1 * y3 = x2 * y3 * y1 := by grind
    omega
  exact Int.le_of_mul_le_mul_left this h2
theorem frac_lt {x1 y1 x2 y2 x3 y3 : Int} (h1 : 0 < y1) (h2 : 0 < y2) (h3 : 0 < y3) (a : x1 * y2 ≤ x2 * y1) (b : x2 * y3 < x3 * y2) : x1 * y3 < x3 * y1 := by
  have e1 := Int.mul_le_mul_of_nonneg_right a (Int.le_of_lt h3)
  have e2 := Int.mul_lt_mul_of_pos_right b h1
  have : y2 * (x1 * y3) < y2 * (x3 * y1) := by
    have f1 : y2 * (x1 * y3) = x1 * y2 * y3 := by grind
    have f2 : y2 * (x3 * y1) = x3 * y2 * y1 := by grind
    have f3 : x2 * y1 * y3 = x2 * y3 * y1 := by grind
    omega
  exact Int.lt_of_mul_lt_mul_left this (Int.le_of_lt h2)
theorem Run.up1 (R : Run A g M N cnt tot σ cl rw_ n) {i : Nat} (hi : i < n) : (σ i).z tot * (σ (i + 1)).d ≤ (σ (i + 1)).z tot * (σ i).d ∧ ((σ i).T (rw_ i) tot ≠ 0 → (σ i).z tot * (σ (i + 1)).d < (σ (i + 1)).z tot * (σ i).d) := by
  obtain ⟨I, F⟩ := R.all i (by omega)
  obtain ⟨B, e⟩ := R.step i hi
  have h := obj_step I R.ht R.hc B
  rw [← e] at h
  have f := F _ B.hr
  have ng := B.neg
  refine ⟨?_, fun z => ?_⟩
  · have := Int.mul_nonpos_of_nonpos_of_nonneg (Int.le_of_lt ng) f
    omega
  · have := Int.mul_neg_of_neg_of_pos ng (show 0 < (σ i).T (rw_ i) tot by omega)
    omega
theorem Run.mono (R : Run A g M N cnt tot σ cl rw_ n) {i : Nat} : ∀ {j : Nat}, i ≤ j → j ≤ n → (σ i).z tot * (σ j).d ≤ (σ j).z tot * (σ i).d
  | 0, h, _ => by
    have : i = 0 := by omega
    subst this
    exact Int.le_refl _
  | j + 1, h, hj => by
    by_cases e : i = j + 1
    · subst e; exact Int.le_refl _
    · have ih := R.mono (i := i) (j := j) (by omega) (by omega)
      exact frac_le (R.all i (by omega)).1.dpos (R.all j (by omega)).1.dpos (R.all (j + 1) hj).1.dpos ih (R.up1 (by omega)).1
/-- a stretch that ends where it began -/
structure Loop (A : Nat → Nat → Int) (g : Nat → Int) (M N cnt tot : Nat) (σ : Nat → St) (cl rw_ : Nat → Nat) (n i j : Nat) : Prop where
  R : Run A g M N cnt tot σ cl rw_ n
  ij : i < j
  jn : j ≤ n
  e : ∀ k, k < M → (σ i).b k = (σ j).b k
variable {i j : Nat}
theorem Loop.deg (L : Loop A g M N cnt tot σ cl rw_ n i j) {t : Nat} (h1 : i ≤ t) (h2 : t < j) : (σ t).T (rw_ t) tot = 0 := by
  have R := L.R
  have hj := L.jn
  rcases Classical.em ((σ t).T (rw_ t) tot = 0) with z | z
  · exact z
  exfalso
  have a := R.mono h1 (by omega)
  have b := (R.up1 (i := t) (by omega)).2 z
  have c := R.mono (i := t + 1) (j := j) (by omega) hj
  have di := (R.all i (by omega)).1.dpos
  have dt := (R.all t (by omega)).1.dpos
  have dt1 := (R.all (t + 1) (by omega)).1.dpos
  have dj := (R.all j hj).1.dpos
  have ab := frac_lt di dt dt1 a b
  obtain ⟨s1, _, s3⟩ := same (R.all i (by omega)).1 (R.all j hj).1 L.e
  have s3 := s3 tot R.ht
  rw [← s3, ← s1] at c
  omega
def Zr (M tot : Nat) (s : St) (c : Nat) : Prop := ∀ k, k < M → s.b k = c → s.T k tot = 0
theorem Loop.zr1 (L : Loop A g M N cnt tot σ cl rw_ n i j) {t c : Nat} (h1 : i ≤ t) (h2 : t < j) : Zr M tot (σ t) c ↔ Zr M tot (σ (t + 1)) c := by
  have R := L.R
  have hj := L.jn
  have hd0 := L.deg h1 h2
  obtain ⟨I, F⟩ := R.all t (by omega)
  obtain ⟨B, e⟩ := R.step t (by omega)
  obtain ⟨e1, _, hd⟩ := I.E
  have hcol := B.hcol; have hcc := R.hc; have htt := R.ht; have hp := B.pos
  have dp := I.dpos
  have key : ∀ k, k < M → k ≠ rw_ t → (σ t).d * (σ (t + 1)).T k tot = (σ t).T k tot * (σ t).T (rw_ t) (cl t) := fun k hk hn => by
    have h := (piv_T I hd hk B.hr hn (show cl t < N by omega) htt).2
    rw [ch_one hp, ch_one hp, hd0, ← e] at h
    rw [h]; grind
  have hb : ∀ k, (σ (t + 1)).b k = if k = rw_ t then cl t else (σ t).b k := fun k => by rw [e, piv_b]
  have hr0 : (σ (t + 1)).T (rw_ t) tot = 0 := by rw [e, piv_same, ch_one hp, hd0]
  constructor
  · intro z k hk hbk
    by_cases q : k = rw_ t
    · rw [q]; exact hr0
    · rw [hb, if_neg q] at hbk
      have h := key k hk q
      rw [z k hk hbk, Int.zero_mul] at h
      rcases Int.mul_eq_zero.mp h with h | h
      · omega
      · exact h
  · intro z k hk hbk
    by_cases q : k = rw_ t
    · rw [q]; exact hd0
    · have h := key k hk q
      rw [z k hk (by rw [hb, if_neg q]; exact hbk), Int.mul_zero] at h
      rcases Int.mul_eq_zero.mp h.symm with h | h
      · exact h
      · omega
theorem Loop.zri (L : Loop A g M N cnt tot σ cl rw_ n i j) {c : Nat} : ∀ {t : Nat}, i ≤ t → t ≤ j → (Zr M tot (σ i) c ↔ Zr M tot (σ t) c)
  | 0, h, _ => by
    have : i = 0 := by omega
    subst this
    exact Iff.rfl
  | t + 1, h, h2 => by
    by_cases e : i = t + 1
    · subst e; exact Iff.rfl
    · exact (L.zri (t := t) (by omega) (by omega)).trans (L.zr1 (by omega) (by omega))
def Bas (M : Nat) (s : St) (c : Nat) : Prop := ∃ k, k < M ∧ s.b k = c
theorem disc {P : Nat → Prop} : ∀ {b a : Nat}, a < b → P a → ¬ P b → ∃ t, a ≤ t ∧ t < b ∧ P t ∧ ¬ P (t + 1)
  | 0, _, h, _, _ => absurd h (by omega)
  | b + 1, a, h, ha, hb => by
    rcases Classical.em (P b) with q | q
    · exact ⟨b, by omega, by omega, q, hb⟩
    · have hab : a < b := by
        rcases Nat.lt_or_ge a b with z | z
        · exact z
        · have : a = b := by omega
          subst this
          exact absurd ha q
      obtain ⟨t, h1, h2, h3⟩ := disc hab ha q
      exact ⟨t, h1, by omega, h3⟩
theorem Loop.non (L : Loop A g M N cnt tot σ cl rw_ n i j) {t : Nat} (h2 : t < j) : ¬ Bas M (σ t) (cl t) := fun ⟨k, hk, e⟩ => by
  have hj := L.jn
  have z := cost0 (L.R.all t (by omega)).1 hk
  have := (L.R.step t (by omega)).1.neg
  rw [e] at z
  omega
theorem Loop.ent (L : Loop A g M N cnt tot σ cl rw_ n i j) {t c : Nat} (h2 : t < j) (a : ¬ Bas M (σ t) c) (b : Bas M (σ (t + 1)) c) : cl t = c := by
  have hj := L.jn
  obtain ⟨k, hk, e⟩ := b
  rw [(L.R.step t (by omega)).2, piv_b] at e
  by_cases q : k = rw_ t
  · rw [if_pos q] at e; exact e
  · rw [if_neg q] at e; exact absurd ⟨k, hk, e⟩ a
theorem Loop.lv (L : Loop A g M N cnt tot σ cl rw_ n i j) {t c : Nat} (h2 : t < j) (a : Bas M (σ t) c) (b : ¬ Bas M (σ (t + 1)) c) : (σ t).b (rw_ t) = c := by
  have hj := L.jn
  obtain ⟨k, hk, e⟩ := a
  by_cases q : k = rw_ t
  · rw [← q]; exact e
  · exact absurd ⟨k, hk, by rw [(L.R.step t (by omega)).2, piv_b, if_neg q]; exact e⟩ b
theorem Loop.ends (L : Loop A g M N cnt tot σ cl rw_ n i j) {c : Nat} : Bas M (σ i) c ↔ Bas M (σ j) c :=
  ⟨fun ⟨k, hk, e⟩ => ⟨k, hk, by rw [← L.e k hk]; exact e⟩, fun ⟨k, hk, e⟩ => ⟨k, hk, by rw [L.e k hk]; exact e⟩⟩
theorem Loop.enters (L : Loop A g M N cnt tot σ cl rw_ n i j) {c x y : Nat} (hx : i ≤ x ∧ x ≤ j) (hy : i ≤ y ∧ y ≤ j) (a : Bas M (σ x) c) (b : ¬ Bas M (σ y) c) : ∃ t, i ≤ t ∧ t < j ∧ cl t = c := by
  rcases Classical.em (Bas M (σ i) c) with q | q
  · have hyj : y < j := by
      rcases Nat.lt_or_ge y j with z | z
      · exact z
      · have : y = j := by omega
        subst this
        exact absurd (L.ends.mp q) b
    obtain ⟨t, h1, h2, h3, h4⟩ := disc (P := fun t => ¬ Bas M (σ t) c) hyj b (fun z => z (L.ends.mp q))
    exact ⟨t, by omega, h2, L.ent h2 h3 (Classical.not_not.mp h4)⟩
  · have hix : i < x := by
      rcases Nat.lt_or_ge i x with z | z
      · exact z
      · have : x = i := by omega
        subst this
        exact absurd a q
    obtain ⟨t, h1, h2, h3, h4⟩ := disc (P := fun t => ¬ Bas M (σ t) c) hix q (fun z => z a)
    exact ⟨t, by omega, by omega, L.ent (by omega) h3 (Classical.not_not.mp h4)⟩
theorem Loop.leaves (L : Loop A g M N cnt tot σ cl rw_ n i j) {c x y : Nat} (hx : i ≤ x ∧ x ≤ j) (hy : i ≤ y ∧ y ≤ j) (a : Bas M (σ x) c) (b : ¬ Bas M (σ y) c) : ∃ t, i ≤ t ∧ t < j ∧ (σ t).b (rw_ t) = c := by
  rcases Classical.em (Bas M (σ i) c) with q | q
  · have hiy : i < y := by
      rcases Nat.lt_or_ge i y with z | z
      · exact z
      · have : y = i := by omega
        subst this
        exact absurd q b
    obtain ⟨t, h1, h2, h3, h4⟩ := disc (P := fun t => Bas M (σ t) c) hiy q b
    exact ⟨t, by omega, by omega, L.lv (by omega) h3 h4⟩
  · have hxj : x < j := by
      rcases Nat.lt_or_ge x j with z | z
      · exact z
      · have : x = j := by omega
        subst this
        exact absurd (L.ends.mpr a) q
    obtain ⟨t, h1, h2, h3, h4⟩ := disc (P := fun t => Bas M (σ t) c) hxj a (fun z => q (L.ends.mpr z))
    exact ⟨t, by omega, h2, L.lv h2 h3 h4⟩
theorem maxi (f : Nat → Nat) (i : Nat) : ∀ {j : Nat}, i < j → ∃ t, i ≤ t ∧ t < j ∧ ∀ x, i ≤ x → x < j → f x ≤ f t
  | 0, h => absurd h (by omega)
  | j + 1, h => by
    by_cases e : i = j
    · subst e
      exact ⟨i, by omega, by omega, fun x h1 h2 => by have : x = i := by omega
                                                      subst this; exact Nat.le_refl _⟩
    · obtain ⟨t, h1, h2, h3⟩ := maxi f i (j := j) (by omega)
      by_cases q : f t < f j
      · exact ⟨j, by omega, by omega, fun x a b => by
          by_cases z : x = j
          · subst z; exact Nat.le_refl _
          · exact Nat.le_trans (h3 x a (by omega)) (by omega)⟩
      · exact ⟨t, h1, by omega, fun x a b => by
          by_cases z : x = j
          · subst z; omega
          · exact h3 x a (by omega)⟩
/-- Bland: no stretch ends where it began -/
theorem Loop.no (L : Loop A g M N cnt tot σ cl rw_ n i j) : False := by
  have R := L.R
  have hj := L.jn
  obtain ⟨t2, h1, h2, hmax⟩ := maxi cl i L.ij
  obtain ⟨I2, F2⟩ := R.all t2 (by omega)
  obtain ⟨B2, e2⟩ := R.step t2 (by omega)
  have nb := L.non h2
  have bb : Bas M (σ (t2 + 1)) (cl t2) := ⟨rw_ t2, B2.hr, by rw [e2, piv_b, if_pos rfl]⟩
  obtain ⟨t1, g1, g2, hlv⟩ := L.leaves (x := t2 + 1) (y := t2) ⟨by omega, by omega⟩ ⟨by omega, by omega⟩ bb nb
  obtain ⟨I1, F1⟩ := R.all t1 (by omega)
  obtain ⟨B1, e1⟩ := R.step t1 (by omega)
  have hcc := R.hc; have htt := R.ht
  have hc1 := B1.hcol
  have hs : cl t1 ≤ cl t2 := hmax t1 g1 g2
  have hne : cl t1 ≠ cl t2 := fun z => L.non g2 ⟨rw_ t1, B1.hr, by rw [hlv, z]⟩
  have z2s := B2.first (cl t1) (by omega)
  have cr := cross I1 I2 (show cl t1 < N by omega)
  have p1 := Int.mul_nonneg (Int.le_of_lt I1.dpos) z2s
  have p2 := Int.mul_neg_of_pos_of_neg I2.dpos B1.neg
  obtain ⟨k, hk, hpos⟩ := sm_pos_ex (n := M) (f := fun k => (σ t1).T k (cl t1) * (σ t2).z ((σ t1).b k)) (by rw [cr]; omega)
  have hnb : ¬ Bas M (σ t2) ((σ t1).b k) := fun ⟨l, hl, e⟩ => by
    have := cost0 I2 hl
    rw [e] at this
    rw [this, Int.mul_zero] at hpos
    omega
  obtain ⟨t3, a1, a2, a3⟩ := L.enters (x := t1) (y := t2) ⟨g1, by omega⟩ ⟨h1, by omega⟩ ⟨k, hk, rfl⟩ hnb
  have hle : (σ t1).b k ≤ cl t2 := by rw [← a3]; exact hmax t3 a1 a2
  have hz3 : Zr M tot (σ t3) (cl t3) := fun l hl e => absurd ⟨l, hl, e⟩ (L.non a2)
  have hz1 : (σ t1).T k tot = 0 := by
    have := (L.zri g1 (by omega)).mp ((L.zri a1 (by omega)).mpr hz3)
    exact this k hk a3.symm
  have hd0 := L.deg g1 g2
  by_cases q : (σ t1).b k = cl t2
  · have : k = rw_ t1 := b_inj I1 hk B1.hr (by rw [q, hlv])
    subst this
    rw [q] at hpos
    have := Int.mul_neg_of_pos_of_neg B1.pos B2.neg
    omega
  · have zk := B2.first ((σ t1).b k) (by omega)
    have tp : 0 < (σ t1).T k (cl t1) := by
      rcases Int.lt_or_le 0 ((σ t1).T k (cl t1)) with h | h
      · exact h
      · have := Int.mul_nonpos_of_nonpos_of_nonneg h zk
        omega
    have := B1.tie k hk tp (by rw [hd0, hz1, Int.zero_mul, Int.zero_mul])
    omega
/-! ### there are but so many -/
def code (N : Nat) (b : Nat → Nat) : Nat → Nat
  | 0 => 0
  | k + 1 => code N b k * N + b k
theorem code_lt {b : Nat → Nat} : ∀ {k : Nat}, (∀ j, j < k → b j < N) → code N b k < N ^ k
  | 0, _ => by simp [code]
  | k + 1, h => by
    have ih := code_lt (b := b) (k := k) fun j hj => h j (by omega)
    have hb := h k (by omega)
    show code N b k * N + b k < N ^ (k + 1)
    rw [Nat.pow_succ]
    have : (code N b k + 1) * N ≤ N ^ k * N := Nat.mul_le_mul_right _ ih
    rw [Nat.succ_mul] at this
    omega
theorem code_inj {b b' : Nat → Nat} : ∀ {k : Nat}, (∀ j, j < k → b j < N) → (∀ j, j < k → b' j < N) → code N b k = code N b' k → ∀ j, j < k → b j = b' j
  | 0, _, _, _, j, h => absurd h (by omega)
  | k + 1, h, h', e, j, hj => by
    have hb := h k (by omega)
    have hb' := h' k (by omega)
    have e : code N b k * N + b k = code N b' k * N + b' k := e
    have e1 : b k = b' k := by
      have m1 : (code N b k * N + b k) % N = b k := by rw [Nat.mul_add_mod_self_right]; exact Nat.mod_eq_of_lt hb
      have m2 : (code N b' k * N + b' k) % N = b' k := by rw [Nat.mul_add_mod_self_right]; exact Nat.mod_eq_of_lt hb'
      rw [← m1, ← m2, e]
    have e2 : code N b k = code N b' k := Nat.eq_of_mul_eq_mul_right (show 0 < N by omega) (by omega)
    by_cases q : j = k
    · rw [q]; exact e1
    · exact code_inj (fun j hj => h j (by omega)) (fun j hj => h' j (by omega)) e2 j (by omega)
theorem pigeon : ∀ {K : Nat} (f : Nat → Nat), (∀ i, i ≤ K → f i < K) → ∃ i j, i < j ∧ j ≤ K ∧ f i = f j
  | 0, f, h => absurd (h 0 (Nat.le_refl _)) (by omega)
  | K + 1, f, h => by
    rcases Classical.em (∃ i, i ≤ K ∧ f i = f (K + 1)) with ⟨i, hi, e⟩ | q
    · exact ⟨i, K + 1, by omega, by omega, e⟩
    · obtain ⟨i, j, h1, h2, h3⟩ := pigeon (K := K) (fun i => if f i = K then f (K + 1) else f i) fun i hi => by
        have a := h i (by omega)
        have b := h (K + 1) (by omega)
        have c : f i ≠ f (K + 1) := fun e => q ⟨i, hi, e⟩
        show (if f i = K then f (K + 1) else f i) < K
        split <;> omega
      have ci : f i ≠ f (K + 1) := fun e => q ⟨i, by omega, e⟩
      have cj : f j ≠ f (K + 1) := fun e => q ⟨j, by omega, e⟩
      refine ⟨i, j, h1, by omega, ?_⟩
      have h3 : (if f i = K then f (K + 1) else f i) = (if f j = K then f (K + 1) else f j) := h3
      by_cases a : f i = K
      · by_cases b : f j = K
        · omega
        · rw [if_pos a, if_neg b] at h3; exact absurd h3.symm cj
      · by_cases b : f j = K
        · rw [if_neg a, if_pos b] at h3; exact absurd h3 ci
        · rw [if_neg a, if_neg b] at h3; exact h3
/-- a run is shorter than this -/
theorem Run.short (R : Run A g M N cnt tot σ cl rw_ n) : n < N ^ M := by
  rcases Nat.lt_or_ge n (N ^ M) with h | h
  · exact h
  exfalso
  obtain ⟨i, j, h1, h2, h3⟩ := pigeon (K := N ^ M) (fun i => code N (σ (min i n)).b M) fun i hi => code_lt (R.all (min i n) (by omega)).1.bN
  have h3 : code N (σ (min i n)).b M = code N (σ (min j n)).b M := h3
  rw [Nat.min_eq_left (by omega), Nat.min_eq_left (by omega)] at h3
  exact (Loop.mk (A := A) (g := g) (cnt := cnt) R h1 (by omega) (code_inj (R.all i (by omega)).1.bN (R.all j (by omega)).1.bN h3)).no
end
end SX
set_option Elab.async false
set_option linter.all false
namespace SX
/-! ### the sheet of rows -/
section
variable {R W : Nat} {row : Nat → Nat → Int}
def cA (R W : Nat) (row : Nat → Nat → Int) (c i : Nat) : Int := if c < W then (if i < R then - row i c else 1) else if c < W + R then (if i = c - W then 1 else 0) else (if i = R then 1 else 0)
def g1 (R W : Nat) (c : Nat) : Int := if c < W ∨ c = W + R + 1 then 1 else 0
def g2 (W : Nat) (goal : Nat → Int) (c : Nat) : Int := if c < W then goal c else 0
def st0 (R W : Nat) (row : Nat → Nat → Int) : St := ⟨1, fun k c => cA R W row c k, fun k => W + k, fun c => - g1 R W c⟩
theorem cA_unit {k i : Nat} (hk : k ≤ R) : cA R W row (W + k) i = if i = k then 1 else 0 := by
  unfold cA
  rw [if_neg (by omega)]
  by_cases h : k < R
  · rw [if_pos (by omega), show W + k - W = k by omega]
  · rw [if_neg (by omega), show k = R by omega]
theorem cA_part {j i : Nat} (hj : j < W) (hi : i < R) : cA R W row j i = - row i j := by unfold cA; rw [if_pos hj, if_pos hi]
theorem cA_last {j : Nat} (hj : j < W) : cA R W row j R = 1 := by unfold cA; rw [if_pos hj, if_neg (by omega)]
theorem cA_tot {i : Nat} : cA R W row (W + R + 1) i = if i = R then 1 else 0 := by unfold cA; rw [if_neg (by omega), if_neg (by omega)]
theorem g1_unit {k : Nat} (hk : k ≤ R) : g1 R W (W + k) = 0 := by unfold g1; rw [if_neg (by omega)]
theorem st0_inv : Inv (cA R W row) (g1 R W) (R + 1) (W + R + 2) (st0 R W row) := by
  refine ⟨by show (0 : Int) < 1; decide, fun k hk => by show W + k < _; omega, fun c hc i hi => ?_, fun c hc => ?_, 1, .inl rfl, ?_⟩
  · show 1 * cA R W row c i = sm (R + 1) fun k => cA R W row c k * cA R W row (W + k) i
    rw [sm_one (k := i) hi fun j hj hn => by rw [cA_unit (by omega), if_neg (Ne.symm hn)]; omega]
    rw [cA_unit (by omega), if_pos rfl]; omega
  · show - g1 R W c = sm (R + 1) (fun k => g1 R W (W + k) * cA R W row c k) - 1 * g1 R W c
    rw [sm_zero fun k hk => by rw [g1_unit (by omega)]; omega]; omega
  · show (1 : Int) = 1 * det (R + 1) fun k => cA R W row (W + k)
    rw [det_congr (w := fun k i => if k = i then 1 else 0) fun j hj i hi => by
      rw [cA_unit (by omega)]
      by_cases e : i = j
      · rw [if_pos e, if_pos e.symm]
      · rw [if_neg e, if_neg (Ne.symm e)], det_unit]; rfl
theorem st0_feas : Feas (R + 1) (W + R + 1) (st0 R W row) := fun k hk => by
  show 0 ≤ cA R W row (W + R + 1) k
  rw [cA_tot]; split <;> decide
variable {g : Nat → Int} {s : St}
abbrev Inv' (R W : Nat) (row : Nat → Nat → Int) (g : Nat → Int) (s : St) : Prop := Inv (cA R W row) g (R + 1) (W + R + 2) s
theorem cA_nn {c : Nat} : 0 ≤ cA R W row c R := by
  unfold cA
  split
  · rw [if_neg (by omega)]; decide
  · split
    · split <;> decide
    · rw [if_pos rfl]; decide
theorem cA_nn2 {c i : Nat} (h : W ≤ c) : 0 ≤ cA R W row c i := by
  unfold cA
  rw [if_neg (by omega)]
  split <;> split <;> decide
theorem sm_np {n : Nat} {f : Nat → Int} (h : ∀ j, j < n → f j ≤ 0) : sm n f ≤ 0 := by
  have := sm_le (g := fun _ => 0) h
  rw [sm_zero (n := n) (f := fun _ => 0) fun _ _ => rfl] at this
  exact this
theorem sm_np0 : ∀ {n : Nat} {f : Nat → Int}, (∀ j, j < n → f j ≤ 0) → 0 ≤ sm n f → ∀ j, j < n → f j = 0
  | 0, _, _, _, j, h => absurd h (by omega)
  | n + 1, f, h, hs, j, hj => by
    have hs : 0 ≤ sm n f + f n := hs
    have a := sm_np (n := n) (f := f) fun j hj => h j (by omega)
    have b := h n (by omega)
    by_cases e : j = n
    · rw [e]; omega
    · exact sm_np0 (n := n) (f := f) (fun j hj => h j (by omega)) (by omega) j (by omega)
/-- some line can be left -/
theorem bounded (I : Inv' R W row g s) {c : Nat} (hc : c < W + R) : ∃ k, k < R + 1 ∧ 0 < s.T k c := by
  rcases Classical.em (∃ k, k < R + 1 ∧ 0 < s.T k c) with h | h
  · exact h
  exfalso
  have np : ∀ k, k < R + 1 → s.T k c ≤ 0 := fun k hk => by
    rcases Int.lt_or_le 0 (s.T k c) with q | q
    · exact absurd ⟨k, hk, q⟩ h
    · exact q
  have d0 := I.dpos
  have v := I.V c (by omega) R (by omega)
  have tn : ∀ k, k < R + 1 → s.T k c * cA R W row (s.b k) R ≤ 0 := fun k hk => Int.mul_nonpos_of_nonpos_of_nonneg (np k hk) cA_nn
  have hz := sm_np0 tn (by rw [← v]; exact Int.mul_nonneg (Int.le_of_lt d0) cA_nn)
  have v0 : s.d * cA R W row c R = 0 := by rw [v]; exact sm_zero hz
  have hcW : W ≤ c := by
    rcases Nat.lt_or_ge c W with q | q
    · rw [cA_last q] at v0; omega
    · exact q
  obtain ⟨i, rfl⟩ : ∃ i, c = W + i := ⟨c - W, by omega⟩
  have w := I.V (W + i) (by omega) i (by omega)
  rw [cA_unit (by omega), if_pos rfl] at w
  have : sm (R + 1) (fun k => s.T k (W + i) * cA R W row (s.b k) i) ≤ 0 := sm_np fun k hk => by
    rcases Nat.lt_or_ge (s.b k) W with q | q
    · have := hz k hk
      rw [cA_last q] at this
      have e : s.T k (W + i) = 0 := by omega
      rw [e]; omega
    · exact Int.mul_nonpos_of_nonpos_of_nonneg (np k hk) (cA_nn2 q)
  omega
/-! ### the line that is left -/
def lv (s : St) (col tot : Nat) : Nat → Option Nat
  | 0 => none
  | k + 1 => match lv s col tot k with
    | none => if 0 < s.T k col then some k else none
    | some r => if 0 < s.T k col ∧ (s.T k tot * s.T r col < s.T r tot * s.T k col ∨ (s.T k tot * s.T r col = s.T r tot * s.T k col ∧ s.b k < s.b r)) then some k else some r
theorem frac_lt2 {x1 y1 x2 y2 x3 y3 : Int} (h1 : 0 < y1) (h2 : 0 < y2) (h3 : 0 < y3) (a : x1 * y2 < x2 * y1) (b : x2 * y3 ≤ x3 * y2) : x1 * y3 < x3 * y1 := by
  have e1 := Int.mul_lt_mul_of_pos_right a h3
  have e2 := Int.mul_le_mul_of_nonneg_right b (Int.le_of_lt h1)
  have : y2 * (x1 * y3) < y2 * (x3 * y1) := by
    have f1 : y2 * (x1 * y3) = x1 * y2 * y3 := by grind
    have f2 : y2 * (x3 * y1) = x3 * y2 * y1 := by grind
    have f3 : x2 * y1 * y3 = x2 * y3 * y1 := by grind
    omega
  exact Int.lt_of_mul_lt_mul_left this (Int.le_of_lt h2)
structure Best (s : St) (col tot k r : Nat) : Prop where
  lt : r < k
  pos : 0 < s.T r col
  ratio : ∀ j, j < k → 0 < s.T j col → s.T r tot * s.T j col ≤ s.T j tot * s.T r col
  tie : ∀ j, j < k → 0 < s.T j col → s.T r tot * s.T j col = s.T j tot * s.T r col → s.b r ≤ s.b j
theorem lv_spec {col tot : Nat} : ∀ k, (lv s col tot k = none → ∀ j, j < k → s.T j col ≤ 0) ∧ ∀ r, lv s col tot k = some r → Best s col tot k r
  | 0 => ⟨fun _ j h => absurd h (by omega), fun r h => by cases h⟩
  | k + 1 => by
    obtain ⟨i1, i2⟩ := lv_spec k
    unfold lv
    cases hl : lv s col tot k with
    | none =>
      have i1 := i1 hl
      by_cases hp : 0 < s.T k col
      · simp only [if_pos hp]
        refine ⟨(fun z => by cases z), fun r h => ?_⟩
        obtain rfl := Option.some.inj h
        refine ⟨by omega, hp, fun j hj hpj => ?_, fun j hj hpj _ => ?_⟩
        · have : j = k := by
            by_cases e : j = k
            · exact e
            · have := i1 j (by omega); omega
          subst this; exact Int.le_refl _
        · have : j = k := by
            by_cases e : j = k
            · exact e
            · have := i1 j (by omega); omega
          subst this; exact Nat.le_refl _
      · simp only [if_neg hp]
        refine ⟨fun _ j hj => ?_, fun r h => by cases h⟩
        by_cases e : j = k
        · rw [e]; omega
        · exact i1 j (by omega)
    | some r0 =>
      have B := i2 r0 hl
      refine ⟨(fun z => by dsimp only at z; split at z <;> cases z), fun r h => ?_⟩
      dsimp only at h
      by_cases hc : 0 < s.T k col ∧ (s.T k tot * s.T r0 col < s.T r0 tot * s.T k col ∨ (s.T k tot * s.T r0 col = s.T r0 tot * s.T k col ∧ s.b k < s.b r0))
      · rw [if_pos hc] at h
        obtain rfl := Option.some.inj h
        obtain ⟨hp, hc⟩ := hc
        refine ⟨by omega, hp, fun j hj hpj => ?_, fun j hj hpj he => ?_⟩
        · by_cases e : j = k
          · subst e; exact Int.le_refl _
          · have b := B.ratio j (by omega) hpj
            rcases hc with q | ⟨q, _⟩
            · exact frac_le hp B.pos hpj (Int.le_of_lt q) b
            · exact frac_le hp B.pos hpj (Int.le_of_eq q) b
        · by_cases e : j = k
          · subst e; exact Nat.le_refl _
          · have b := B.ratio j (by omega) hpj
            rcases hc with q | ⟨q, q2⟩
            · have := frac_lt2 hp B.pos hpj q b; omega
            · have b2 := frac_le hpj hp B.pos (Int.le_of_eq he.symm) (Int.le_of_eq q)
              have := B.tie j (by omega) hpj (by omega)
              omega
      · rw [if_neg hc] at h
        obtain rfl := Option.some.inj h
        refine ⟨by have := B.lt; omega, B.pos, fun j hj hpj => ?_, fun j hj hpj he => ?_⟩
        · by_cases e : j = k
          · subst e
            rcases Int.lt_or_le (s.T j tot * s.T r0 col) (s.T r0 tot * s.T j col) with q | q
            · exact absurd ⟨hpj, .inl q⟩ hc
            · exact q
          · exact B.ratio j (by omega) hpj
        · by_cases e : j = k
          · subst e
            rcases Nat.lt_or_ge (s.b j) (s.b r0) with q | q
            · exact absurd ⟨hpj, .inr ⟨he.symm, q⟩⟩ hc
            · exact q
          · exact B.tie j (by omega) hpj he
/-- a step of the run -/
theorem step_of (I : Inv' R W row g s) {col : Nat} (hcol : col < W + R) (neg : s.z col < 0) (first : ∀ c, c < col → 0 ≤ s.z c) : ∃ r, lv s col (W + R + 1) (R + 1) = some r ∧ BStep (R + 1) (W + R) (W + R + 1) s r col := by
  obtain ⟨i1, i2⟩ := lv_spec (s := s) (col := col) (tot := W + R + 1) (R + 1)
  cases hl : lv s col (W + R + 1) (R + 1) with
  | none =>
    obtain ⟨k, hk, hp⟩ := bounded I hcol
    have := i1 hl k hk
    omega
  | some r =>
    have B := i2 r hl
    exact ⟨r, rfl, B.lt, hcol, neg, first, B.pos, B.ratio, B.tie⟩
/-! ### linear in the columns -/
theorem lin_T (I : Inv' R W row g s) {l c : Nat} (hl : l < R + 1) (hc : c < W + R + 2) : s.T l c = sm (R + 1) fun i => cA R W row c i * s.T l (W + i) := by
  obtain ⟨e, he, hd⟩ := I.E
  rw [cram I hd hl hc]
  have h1 : det (R + 1) (up (s.B (cA R W row)) l (cA R W row c)) = det (R + 1) (up (s.B (cA R W row)) l fun j => sm (R + 1) fun i => cA R W row c i * cA R W row (W + i) j) := det_congr fun j hj i hi => by
    unfold up
    by_cases q : j = l
    · rw [if_pos q, if_pos q, sm_one (k := i) hi fun k hk hn => by rw [cA_unit (by omega), if_neg (Ne.symm hn)]; omega]
      rw [cA_unit (by omega), if_pos rfl]; omega
    · rw [if_neg q, if_neg q]
  rw [h1, det_sum hl, ← sm_mul]
  refine sm_congr fun i hi => ?_
  rw [cram I hd hl (by omega)]; grind
theorem lin_z (I : Inv' R W row g s) (hg : ∀ k, k ≤ R → g (W + k) = 0) {c : Nat} (hc : c < W + R + 2) : s.z c = sm (R + 1) (fun i => cA R W row c i * s.z (W + i)) - s.d * g c := by
  rw [I.Z c hc]
  congr 1
  have e1 : sm (R + 1) (fun k => g (s.b k) * s.T k c) = sm (R + 1) fun k => sm (R + 1) fun i => cA R W row c i * (g (s.b k) * s.T k (W + i)) := sm_congr fun k hk => by
    rw [lin_T I hk hc, ← sm_mul]
    exact sm_congr fun i _ => by grind
  rw [e1, sm_comm]
  refine sm_congr fun i hi => ?_
  rw [sm_mul, I.Z (W + i) (by omega), hg i (by omega)]; grind
theorem sm_last {f : Nat → Int} : sm (R + 1) f = sm R f + f R := rfl
theorem z_part (I : Inv' R W row g s) (hg : ∀ k, k ≤ R → g (W + k) = 0) {j : Nat} (hj : j < W) : s.z j = s.z (W + R) - sm R (fun i => s.z (W + i) * row i j) - s.d * g j := by
  rw [lin_z I hg (by omega), sm_last, cA_last hj]
  have : sm R (fun i => cA R W row j i * s.z (W + i)) = - sm R fun i => s.z (W + i) * row i j := by
    have := sm_mul (-1) (fun i => s.z (W + i) * row i j) R
    rw [show - sm R (fun i => s.z (W + i) * row i j) = -1 * sm R fun i => s.z (W + i) * row i j by omega, ← this]
    exact sm_congr fun i hi => by rw [cA_part hj hi]; grind
  rw [this]; omega
theorem z_tot (I : Inv' R W row g s) (hg : ∀ k, k ≤ R → g (W + k) = 0) : s.z (W + R + 1) = s.z (W + R) - s.d * g (W + R + 1) := by
  rw [lin_z I hg (by omega), sm_last, cA_tot, if_pos rfl, sm_zero fun i hi => by rw [cA_tot, if_neg (by omega)]; omega]; omega
/-- no mix is allowed -/
theorem none_ok (I : Inv' R W row (g1 R W) s) (hz : ∀ c, c < W + R → 0 ≤ s.z c) (ht : s.z (W + R + 1) < 0) : (∀ i, i < R → 0 ≤ s.z (W + i)) ∧ ∀ j, j < W → sm R (fun i => s.z (W + i) * row i j) < 0 := by
  refine ⟨fun i hi => hz _ (by omega), fun j hj => ?_⟩
  have h1 := z_part I (fun k hk => g1_unit hk) hj
  have h2 := z_tot I fun k hk => g1_unit hk
  have h3 := hz j (by omega)
  have e1 : g1 R W j = 1 := by unfold g1; rw [if_pos (.inl hj)]
  have e2 : g1 R W (W + R + 1) = 1 := by unfold g1; rw [if_pos (.inr rfl)]
  rw [e1] at h1
  rw [e2] at h2
  omega
/-! ### the mix -/
def mixF (s : St) (W R : Nat) (j : Nat) : Int := sm (R + 1) fun k => if s.b k = j then s.T k (W + R + 1) else 0
theorem mix_sum (f : Nat → Int) : sm W (fun j => mixF s W R j * f j) = sm (R + 1) fun k => if s.b k < W then s.T k (W + R + 1) * f (s.b k) else 0 := by
  have e1 : sm W (fun j => mixF s W R j * f j) = sm W fun j => sm (R + 1) fun k => if s.b k = j then s.T k (W + R + 1) * f j else 0 := sm_congr fun j _ => by
    unfold mixF
    rw [Int.mul_comm, ← sm_mul]
    refine sm_congr fun k _ => ?_
    split <;> grind
  rw [e1, sm_comm]
  refine sm_congr fun k hk => ?_
  by_cases h : s.b k < W
  · rw [if_pos h, sm_one (k := s.b k) h fun j hj hn => if_neg (Ne.symm hn), if_pos rfl]
  · rw [if_neg h]
    exact sm_zero fun j hj => if_neg (by omega)
theorem mix_nn (F : Feas (R + 1) (W + R + 1) s) (j : Nat) : 0 ≤ mixF s W R j := sm_nonneg fun k hk => by
  split
  · exact F k hk
  · decide
theorem mix_total (I : Inv' R W row g s) (hb : ∀ k, k < R + 1 → s.b k < W + R) : sm W (fun j => mixF s W R j) = s.d := by
  have v := I.V (W + R + 1) (by omega) R (by omega)
  rw [cA_tot, if_pos rfl] at v
  have := mix_sum (s := s) (W := W) (R := R) fun _ => 1
  rw [sm_congr (f := fun j => mixF s W R j) (g := fun j => mixF s W R j * 1) fun j _ => by omega, this]
  rw [show s.d = s.d * 1 by omega, v]
  refine sm_congr fun k hk => ?_
  by_cases h : s.b k < W
  · rw [if_pos h, cA_last h]
  · rw [if_neg h]
    have hbk := hb k hk
    have : cA R W row (s.b k) R = 0 := by
      unfold cA
      rw [if_neg h, if_pos hbk, if_neg (by omega)]
    rw [this]; omega
theorem mix_row (I : Inv' R W row g s) (F : Feas (R + 1) (W + R + 1) s) {i : Nat} (hi : i < R) : 0 ≤ sm W (fun j => mixF s W R j * row i j) := by
  have v := I.V (W + R + 1) (by omega) i (by omega)
  rw [cA_tot, if_neg (by omega)] at v
  rw [mix_sum fun j => row i j]
  have : sm (R + 1) (fun k => if s.b k < W then s.T k (W + R + 1) * row i (s.b k) else 0) = sm (R + 1) fun k => if s.b k < W then 0 else s.T k (W + R + 1) * cA R W row (s.b k) i := by
    have h : sm (R + 1) (fun k => s.T k (W + R + 1) * cA R W row (s.b k) i) = sm (R + 1) (fun k => if s.b k < W then 0 else s.T k (W + R + 1) * cA R W row (s.b k) i) - sm (R + 1) (fun k => if s.b k < W then s.T k (W + R + 1) * row i (s.b k) else 0) := by
      rw [← sm_sub]
      refine sm_congr fun k _ => ?_
      by_cases q : s.b k < W
      · rw [if_pos q, if_pos q, cA_part q hi]; grind
      · rw [if_neg q, if_neg q]; omega
    omega
  rw [this]
  refine sm_nonneg fun k hk => ?_
  by_cases q : s.b k < W
  · rw [if_pos q]; decide
  · rw [if_neg q]
    exact Int.mul_nonneg (F k hk) (cA_nn2 (by omega))
/-! ### what lacks is put out -/
theorem lack0 (I : Inv' R W row (g1 R W) s) (F : Feas (R + 1) (W + R + 1) s) (hb : ∀ k, k < R + 1 → s.b k ≤ W + R) (ht : 0 ≤ s.z (W + R + 1)) {r : Nat} (hr : r < R + 1) (hbr : s.b r = W + R) : s.T r (W + R + 1) = 0 := by
  have v := I.V (W + R + 1) (by omega) R (by omega)
  rw [cA_tot, if_pos rfl] at v
  have Z := I.Z (W + R + 1) (by omega)
  have e2 : g1 R W (W + R + 1) = 1 := by unfold g1; rw [if_pos (.inr rfl)]
  rw [e2] at Z
  have h : sm (R + 1) (fun k => s.T k (W + R + 1) * cA R W row (s.b k) R) = sm (R + 1) (fun k => g1 R W (s.b k) * s.T k (W + R + 1)) + s.T r (W + R + 1) := by
    have e3 : s.T r (W + R + 1) = sm (R + 1) fun k => if k = r then s.T r (W + R + 1) else 0 := by
      rw [sm_one (k := r) hr fun j _ hn => if_neg hn, if_pos rfl]
    rw [e3, ← sm_add]
    refine sm_congr fun k hk => ?_
    have hbk := hb k hk
    by_cases q : k = r
    · subst q
      rw [if_pos rfl, hbr]
      have a1 : cA R W row (W + R) R = 1 := by rw [cA_unit (Nat.le_refl _), if_pos rfl]
      rw [a1, g1_unit (Nat.le_refl _)]; omega
    · rw [if_neg q]
      have hne : s.b k ≠ W + R := fun z => q (b_inj I hk hr (by rw [z, hbr]))
      by_cases p : s.b k < W
      · rw [cA_last p]
        have : g1 R W (s.b k) = 1 := by unfold g1; rw [if_pos (.inl p)]
        rw [this]; omega
      · have a1 : cA R W row (s.b k) R = 0 := by
          unfold cA
          rw [if_neg p, if_pos (by omega), if_neg (by omega)]
        have : g1 R W (s.b k) = 0 := by unfold g1; rw [if_neg (by omega)]
        rw [a1, this]; omega
  have f := F r hr
  omega
theorem some_col (I : Inv' R W row g s) (hW : 0 < W) {r : Nat} (hr : r < R + 1) (hbr : s.b r = W + R) : ∃ c, c < W + R ∧ s.T r c ≠ 0 := by
  rcases Classical.em (∃ c, c < W + R ∧ s.T r c ≠ 0) with h | h
  · exact h
  exfalso
  have h0 : ∀ c, c < W + R → s.T r c = 0 := fun c hc => by
    rcases Classical.em (s.T r c = 0) with q | q
    · exact q
    · exact absurd ⟨c, hc, q⟩ h
  have b := basic I hr hr
  rw [if_pos rfl, hbr] at b
  have l := lin_T I hr (c := 0) (by omega)
  rw [h0 0 (by omega), sm_last, cA_last hW, sm_zero fun i hi => by rw [h0 (W + i) (by omega)]; omega] at l
  have := I.dpos
  omega
theorem settle_feas (I : Inv' R W row g s) (F : Feas (R + 1) (W + R + 1) s) {r c : Nat} (hr : r < R + 1) (hc : c < W + R) (hp : s.T r c ≠ 0) (h0 : s.T r (W + R + 1) = 0) : Feas (R + 1) (W + R + 1) (piv s r c) := fun k hk => by
  by_cases e : k = r
  · subst e
    rw [piv_same]
    unfold ch
    rw [h0]; omega
  · obtain ⟨e1, _, hd⟩ := I.E
    have h := (piv_T I hd hk hr e (show c < W + R + 2 by omega) (show W + R + 1 < W + R + 2 by omega)).2
    have z : ch s r c (W + R + 1) = 0 := by unfold ch; rw [h0]; omega
    rw [z] at h
    refine nn_of_mul I.dpos ?_
    rw [h]
    have := Int.mul_nonneg (F k hk) (Int.le_of_lt (ch_pos hp))
    omega
/-! ### the goal -/
def charge (goal : Nat → Int) (W R : Nat) (s : St) : St := { s with z := fun c => sm (R + 1) (fun k => g2 W goal (s.b k) * s.T k c) - s.d * g2 W goal c }
theorem charge_inv {goal : Nat → Int} (I : Inv' R W row g s) : Inv' R W row (g2 W goal) (charge goal W R s) := ⟨I.dpos, I.bN, I.V, fun _ _ => rfl, I.E⟩
theorem g2_unit {goal : Nat → Int} {k : Nat} : g2 W goal (W + k) = 0 := by unfold g2; rw [if_neg (by omega)]
/-- the greatest mean -/
theorem best_ok {goal : Nat → Int} (I : Inv' R W row (g2 W goal) s) (F : Feas (R + 1) (W + R + 1) s) (hb : ∀ k, k < R + 1 → s.b k < W + R) (hz : ∀ c, c < W + R → 0 ≤ s.z c) :
    (∀ j, 0 ≤ mixF s W R j) ∧ sm W (fun j => mixF s W R j) = s.d ∧ (∀ i, i < R → 0 ≤ sm W (fun j => mixF s W R j * row i j)) ∧ (∀ i, i < R → 0 ≤ s.z (W + i)) ∧
    ∀ j, j < W → s.d * goal j + sm R (fun i => s.z (W + i) * row i j) ≤ sm W fun j => mixF s W R j * goal j := by
  refine ⟨mix_nn F, mix_total I hb, fun i hi => mix_row I F hi, fun i hi => hz _ (by omega), fun j hj => ?_⟩
  have h1 := z_part I (fun k _ => g2_unit) hj
  have h2 := z_tot I fun k _ => g2_unit
  have h3 := hz j (by omega)
  have Z := I.Z (W + R + 1) (by omega)
  have e1 : g2 W goal (W + R + 1) = 0 := by unfold g2; rw [if_neg (by omega)]
  have e2 : g2 W goal j = goal j := by unfold g2; rw [if_pos hj]
  rw [e1] at h2 Z
  rw [e2] at h1
  have e3 : sm W (fun j => mixF s W R j * goal j) = sm (R + 1) (fun k => g2 W goal (s.b k) * s.T k (W + R + 1)) := by
    rw [mix_sum]
    refine sm_congr fun k _ => ?_
    unfold g2
    split <;> grind
  omega
/-! ### how great they are -/
theorem T_abs (I : Inv' R W row g s) {B : Nat} (hB : ∀ c i, c < W + R + 2 → i < R + 1 → (cA R W row c i).natAbs ≤ B) {k c : Nat} (hk : k < R + 1) (hc : c < W + R + 2) : (s.T k c).natAbs ≤ fct (R + 1) * B ^ (R + 1) := by
  obtain ⟨e, he, hd⟩ := I.E
  rw [cram I hd hk hc, Int.natAbs_mul]
  have h1 : e.natAbs = 1 := by rcases he with rfl | rfl <;> rfl
  rw [h1, Nat.one_mul]
  refine det_abs fun j hj i hi => ?_
  unfold up
  by_cases q : j = k
  · rw [if_pos q]; exact hB c i hc hi
  · rw [if_neg q]; exact hB _ i (I.bN j hj) hi
theorem d_abs (I : Inv' R W row g s) {B : Nat} (hB : ∀ c i, c < W + R + 2 → i < R + 1 → (cA R W row c i).natAbs ≤ B) : s.d.natAbs ≤ fct (R + 1) * B ^ (R + 1) := by
  have b := basic I (k := 0) (l := 0) (by omega) (by omega)
  rw [if_pos rfl] at b
  rw [← b]
  exact T_abs I hB (by omega) (I.bN 0 (by omega))
theorem z_abs (I : Inv' R W row g s) {B G : Nat} (hB : ∀ c i, c < W + R + 2 → i < R + 1 → (cA R W row c i).natAbs ≤ B) (hG : ∀ c, c < W + R + 2 → (g c).natAbs ≤ G) {c : Nat} (hc : c < W + R + 2) : (s.z c).natAbs ≤ (R + 2) * (G * (fct (R + 1) * B ^ (R + 1))) := by
  rw [I.Z c hc]
  have h1 := sm_abs (n := R + 1) (B := G * (fct (R + 1) * B ^ (R + 1))) (f := fun k => g (s.b k) * s.T k c) fun k hk => by
    rw [Int.natAbs_mul]
    exact Nat.mul_le_mul (hG _ (I.bN k hk)) (T_abs I hB hk hc)
  have h2 : (s.d * g c).natAbs ≤ G * (fct (R + 1) * B ^ (R + 1)) := by
    rw [Int.natAbs_mul, Nat.mul_comm]
    exact Nat.mul_le_mul (hG c hc) (d_abs I hB)
  rw [show (R + 2) * (G * (fct (R + 1) * B ^ (R + 1))) = (R + 1) * (G * (fct (R + 1) * B ^ (R + 1))) + G * (fct (R + 1) * B ^ (R + 1)) by rw [show R + 2 = (R + 1) + 1 by omega, Nat.succ_mul]]
  omega
end
end SX
set_option Elab.async false
set_option linter.all false
set_option maxRecDepth 100000
set_option maxHeartbeats 2000000
namespace LW
open PySem L2 AM
/-! ### sheets in the store -/
def lnL (N : Nat) (f : Nat → Int) : List D := (List.range N).map fun c => .int (f c)
def ln (N : Nat) (f : Nat → Int) : D := .lst (lnL N f)
def lnsL (M N : Nat) (s : SX.St) : List D := (List.range M).map fun k => ln N (s.T k)
def basL (M : Nat) (s : SX.St) : List D := (List.range M).map fun k => .int (s.b k : Int)
def shG (W R k kb : Nat) (d : Int) (z : D) : List (Str × D) := [("wide", .int W), ("count", .int ((W + R : Nat) : Int)), ("lines", .ref k), ("basis", .ref kb), ("base", .int d), ("costs", z)]
abbrev shF (W R k kb : Nat) (s : SX.St) : List (Str × D) := shG W R k kb s.d (ln (W + R + 2) s.z)
theorem put_costs {W R k kb : Nat} {d : Int} {z z' : D} : putD "costs" z' (shG W R k kb d z) = shG W R k kb d z' := rfl
theorem put_lines {W R k kb k' : Nat} {d : Int} {z : D} : putD "lines" (.ref k') (shG W R k kb d z) = shG W R k' kb d z := rfl
theorem put_base {W R k kb : Nat} {d d' : Int} {z : D} : putD "base" (.int d') (shG W R k kb d z) = shG W R k kb d' z := rfl
theorem shG_len {W R k kb : Nat} {d : Int} {z : D} : (shG W R k kb d z).length < 1000 := by show 6 < 1000; decide
structure Sht (S0 st : S) (n k kb W R : Nat) (s : SX.St) : Prop where
  pre : st.take S0.length = S0
  ln : S0.length ≤ n
  lk : S0.length ≤ k
  lb : S0.length ≤ kb
  ne : k ≠ kb
  o : st[n]? = some (.obj "Sheet" (shF W R k kb s))
  t : st[k]? = some (.lst (lnsL (R + 1) (W + R + 2) s))
  b : st[kb]? = some (.lst (basL (R + 1) s))
structure Bd (W R : Nat) (s : SX.St) : Prop where
  w : W + R ≤ 1000
  d : s.d.natAbs < 2 ^ 3000
  d0 : s.d ≠ 0
  t : ∀ k c, k < R + 1 → c < W + R + 2 → (s.T k c).natAbs < 2 ^ 3000
  z : ∀ c, c < W + R + 2 → (s.z c).natAbs < 2 ^ 3000
@[simp] theorem lnL_len {N : Nat} {f : Nat → Int} : (lnL N f).length = N := by simp [lnL]
theorem at_nat {α : Type} {l : List α} {k : Nat} (h : k < l.length) : atI l (k : Int) = some l[k] := by
  have e : ixN l.length (k : Int) = some k := by unfold ixN; rw [if_pos (by omega), if_pos (by omega)]; simp
  unfold atI; rw [e]; exact List.getElem?_eq_getElem h
theorem at_last {α : Type} {l : List α} (h : 1 ≤ l.length) : atI l (-1) = some (l[l.length - 1]'(by omega)) := by
  have e : ixN l.length (-1) = some (l.length - 1) := by
    unfold ixN
    rw [if_neg (by omega), if_pos (by omega)]
    congr 1
    omega
  unfold atI; rw [e]; exact List.getElem?_eq_getElem _
theorem atI_ln {N c : Nat} {f : Nat → Int} (h : c < N) : atI (lnL N f) (c : Int) = some (.int (f c)) := by
  rw [at_nat (by simpa using h)]
  simp [lnL]
theorem atI_lnL {N : Nat} {f : Nat → Int} : atI (lnL (N + 1) f) (-1) = some (.int (f N)) := by
  rw [at_last (by simp)]
  simp [lnL]
theorem small3 {a : Int} (h : a.natAbs < 2 ^ 3000) : a.natAbs < 2 ^ 8000 := Nat.lt_of_lt_of_le h (Nat.pow_le_pow_right (by decide) (by decide))
theorem cm3 {a b : Int} (h1 : a.natAbs < 2 ^ 3000) (h2 : b.natAbs < 2 ^ 3000) : CMulW a b := cmul_small (small3 h1) (small3 h2)
theorem mul_3000 {a b : Int} (h1 : a.natAbs < 2 ^ 3000) (h2 : b.natAbs < 2 ^ 3000) : (a * b).natAbs < 2 ^ 6000 := by
  rw [Int.natAbs_mul, show (6000 : Nat) = 3000 + 3000 from rfl, Nat.pow_add]
  exact Nat.mul_lt_mul'' h1 h2
theorem zip_map {α : Type} {F G : α → D} : ∀ (l : List α), zipD (l.map F) (l.map G) = l.map fun x => D.tup [F x, G x]
  | [] => rfl
  | x :: xs => by
    show D.tup [F x, G x] :: zipD (xs.map F) (xs.map G) = _
    rw [zip_map xs]; rfl
section
variable {st : S} {q : Rs → S → Prop} {er : QX} {S0 : S} {n k kb W R : Nat} {s : SX.St} {p : D → S → Prop} {f h : Nat → Int} {c : Nat}
theorem Sht.vw_ (h : Sht S0 st n k kb W R s) : vw st (.ref n) = .obj "Sheet" (shF W R k kb s) := vw_refO h.o
theorem fldAt_S {fs : List (Str × D)} {f : Str} : fldAt ["Sheet"] f (.obj "Sheet" fs) = fs.lookup f := rfl
theorem s_wide (h : Sht S0 st n k kb W R s) : fldQ ["Sheet"] "wide" p (.ref n) st = p (.int W) st := fldQ_of (by rw [h.vw_]; rfl)
theorem s_count (h : Sht S0 st n k kb W R s) : fldQ ["Sheet"] "count" p (.ref n) st = p (.int ((W + R : Nat) : Int)) st := fldQ_of (by rw [h.vw_]; rfl)
theorem s_lines (h : Sht S0 st n k kb W R s) : fldQ ["Sheet"] "lines" p (.ref n) st = p (.ref k) st := fldQ_of (by rw [h.vw_]; rfl)
theorem s_basis (h : Sht S0 st n k kb W R s) : fldQ ["Sheet"] "basis" p (.ref n) st = p (.ref kb) st := fldQ_of (by rw [h.vw_]; rfl)
theorem s_base (h : Sht S0 st n k kb W R s) : fldQ ["Sheet"] "base" p (.ref n) st = p (.int s.d) st := fldQ_of (by rw [h.vw_]; rfl)
theorem s_costs (h : Sht S0 st n k kb W R s) : fldQ ["Sheet"] "costs" p (.ref n) st = p (ln (W + R + 2) s.z) st := fldQ_of (by rw [h.vw_]; rfl)
theorem fS {fs : List (Str × D)} {f : Str} {v : D} (h : st[n]? = some (.obj "Sheet" fs)) (e : fs.lookup f = some v) : fldQ ["Sheet"] f p (.ref n) st = p v st := fldQ_of (by rw [vw_refO h, fldAt_S]; exact e)
theorem red_spec {d : Int} (hs : ∀ {p : D → S → Prop}, fldQ ["Sheet"] "base" p (.ref n) st = p (.int d) st) (d0 : d ≠ 0) (hd : d.natAbs < 2 ^ 3000) (hw : W + R ≤ 1000) (hc : c < W + R + 2) (hf : ∀ j, j < W + R + 2 → (f j).natAbs < 2 ^ 3000) (hh : ∀ j, j < W + R + 2 → (h j).natAbs < 2 ^ 3000)
    (hq : q (.own (lnL (W + R + 2) fun j => (f j * h c - f c * h j).fdiv d)) st) : m_Sheet_reduced_line [.ref n, ln (W + R + 2) f, ln (W + R + 2) h, .int (c : Int)] st q er := by
  refine ⟨rfl, ?_⟩
  show a_Sheet_reduced_line [.d (.ref n), .d (ln (W + R + 2) f), .d (ln (W + R + 2) h), .d (.int (c : Int)), .no, .no, .no, .no] st _
  unfold a_Sheet_reduced_line
  simp [-List.map_map, ln]
  refine ⟨_, atI_ln hc, _, atI_ln hc, ?_⟩
  simp [-List.map_map, lnL]
  rw [zip_map]
  refine lc_of (α := Nat) (G := fun j => .int ((f j * h c - f c * h j).fdiv d)) (by simp) _ (fun j hj P1 P2 hp1 => ?_) (by simp; omega) (by simpa [lnL] using hq)
  have hj := List.mem_range.mp hj
  simp [-List.map_map]
  refine ⟨cm3 (hf j hj) (hh c hc), cm3 (hf c hc) (hh j hj), ?_⟩
  rw [hs]
  simp [-List.map_map]
  exact ⟨cfd_of d0 (small3 hd), hp1⟩
/-! ### columns exchanged -/
theorem lnL_congr {N : Nat} {f g : Nat → Int} (h : ∀ j, j < N → f j = g j) : lnL N f = lnL N g := List.map_congr_left fun j hj => by rw [h j (List.mem_range.mp hj)]
theorem ix_nat {n k : Nat} (h : k < n) : ixN n (k : Int) = some k := by unfold ixN; rw [if_pos (by omega), if_pos (by omega)]; simp
theorem set_get' {α : Type} {l : List α} {i : Nat} {x : α} (h : i < l.length) : (l.set i x)[i]? = some x := List.getElem?_set_self h
@[simp ↓] theorem rsQ_own {q : D → S → Prop} {l : List D} : rsQ q (.own l) st = q (.lst l) st := propext Iff.rfl
theorem atI_lns {M N r : Nat} (h : r < M) : atI (lnsL M N s) (r : Int) = some (ln N (s.T r)) := by
  rw [at_nat (by simpa [lnsL] using h)]
  simp [lnsL]
theorem atI_bas {M r : Nat} (h : r < M) : atI (basL M s) (r : Int) = some (.int (s.b r : Int)) := by
  rw [at_nat (by simpa [basL] using h)]
  simp [basL]
theorem isObj_S {fs : List (Str × D)} {m : Str} (h : st[n]? = some (.obj "Sheet" fs)) (hm : fs.lookup m = none) : isObj "Sheet" m (vw st (.ref n)) := by rw [vw_refO h]; exact ⟨rfl, hm⟩
theorem take_set {α : Type} {l : List α} {i m : Nat} {x : α} (h : m ≤ i) : (l.set i x).take m = l.take m := by
  rw [List.take_set_of_le h]
theorem Sht.le (hs : Sht S0 st n k kb W R s) : S0.length ≤ st.length := by
  have := congrArg List.length hs.pre
  rw [List.length_take] at this
  omega
theorem bas_up {M r c : Nat} (hr : r < M) : (basL M s).set r (.int (c : Int)) = basL M (SX.piv s r c) := by
  apply List.ext_getElem?
  intro i
  rw [List.getElem?_set]
  unfold basL
  by_cases hi : r = i
  · subst hi
    simp [hr, SX.piv, SX.up]
  · rw [if_neg hi]
    simp only [List.getElem?_map, List.getElem?_range]
    by_cases h2 : i < M
    · simp [h2, SX.piv, SX.up, Ne.symm hi]
    · simp [h2]
theorem lns_up {M N r c : Nat} (hr : r < M) : ((List.range M).map fun i => ln N fun j => (s.T i j * SX.ch s r c c - s.T i c * SX.ch s r c j).fdiv s.d).set r (ln N (SX.ch s r c)) = lnsL M N (SX.piv s r c) := by
  apply List.ext_getElem?
  intro i
  rw [List.getElem?_set]
  unfold lnsL
  by_cases hi : r = i
  · subst hi
    simp [hr, SX.piv]
  · rw [if_neg hi]
    by_cases h2 : i < M
    · simp [h2, SX.piv, Ne.symm hi]
    · simp [h2]
theorem ch_abs {r c j : Nat} : (SX.ch s r c j).natAbs = (s.T r j).natAbs := by
  unfold SX.ch SX.sg
  split <;> simp
def turnT : AS := sSeq (sCell (fLc (aIter (aFld ["Sheet"] "lines" (aVar 0))) (agName 5) (aYes) (aMeth "Sheet" "reduced_line" m_Sheet_reduced_line (aVar 0) (aCons (aVar 5) (aCons (aVar 3) (aCons (aVar 2) (aNil)))) []) [5]) 4)
  (sSeq (sSetIx (aVar 4) (aVar 1) (aVar 3))
  (sSeq (sFldSet "Sheet" "costs" (aVar 0) (aMeth "Sheet" "reduced_line" m_Sheet_reduced_line (aVar 0) (aCons (aFld ["Sheet"] "costs" (aVar 0)) (aCons (aVar 3) (aCons (aVar 2) (aNil)))) []))
  (sSeq (sFldSet "Sheet" "lines" (aVar 0) (aVar 4))
  (sSeq (sSetIx (aFld ["Sheet"] "basis" (aVar 0)) (aVar 1) (aVar 2))
  (sFldSet "Sheet" "base" (aVar 0) (aOp oIxA (aVar 3) (aVar 2)))))))
theorem turn_eq : a_Sheet_turn = sSeq (sAsg (aOp oIxA (aFld ["Sheet"] "lines" (aVar 0)) (aVar 1)) (agName 3)) (sSeq (sIf (aTest (aOp oLt (aOp oIxA (aVar 3) (aVar 2)) (aC (.int 0)))) (sAsg (aFr (fLc (aIter (aVar 3)) (agName 6) (aYes) (aUn oNeg (aVar 6)) [6])) (agName 3)) (sNext)) turnT) := rfl
theorem turn_tail {ak : AK} {r : Nat} {e4 e5 e6 : A} (hs : Sht S0 st n k kb W R s) (B : Bd W R s) (hr : r < R + 1) (hc : c < W + R + 2) (hq : ∀ env st' k', Sht S0 st' n k' kb W R (SX.piv s r c) → ak.nx env st') :
    turnT [.d (.ref n), .d (.int (r : Int)), .d (.int (c : Int)), .d (ln (W + R + 2) (SX.ch s r c)), e4, e5, e6] st ak := by
  unfold turnT
  have hw := B.w
  have hlen := hs.le
  have hcab : ∀ j, j < W + R + 2 → (SX.ch s r c j).natAbs < 2 ^ 3000 := fun j hj => by rw [ch_abs]; exact B.t r j hr hj
  simp [-List.map_map]
  rw [s_lines hs, vw_ref hs.t]
  refine ⟨_, rfl, ?_⟩
  refine lc_of (α := Nat) (G := fun i => ln (W + R + 2) fun j => (s.T i j * SX.ch s r c c - s.T i c * SX.ch s r c j).fdiv s.d) gdOk_of _ (fun i hi P1 P2 hp1 => ?_) (by simp; omega) ?_
  · have hi := List.mem_range.mp hi
    simp [-List.map_map]
    refine ⟨isObj_S hs.o rfl, ?_⟩
    refine red_spec (s_base hs) B.d0 B.d hw hc (fun j hj => B.t i j hi hj) hcab ?_
    simpa [ln] using hp1
  · simp [-List.map_map]
    have hn : n < st.length := (List.getElem?_eq_some_iff.mp hs.o).1
    have hkb : kb < st.length := (List.getElem?_eq_some_iff.mp hs.b).1
    have hnb : n ≠ kb := fun e => by
      have h1 := hs.o
      rw [e, hs.b] at h1; cases h1
    refine ⟨r, ix_nat hr, ?_⟩
    rw [lns_up hr]
    generalize e1 : st ++ [C.lst (lnsL (R + 1) (W + R + 2) (SX.piv s r c))] = st1
    have l1 : st1.length = st.length + 1 := by rw [← e1]; simp
    have o1 : st1[n]? = some (.obj "Sheet" (shF W R k kb s)) := by rw [← e1, List.getElem?_append_left hn]; exact hs.o
    have b1 : st1[kb]? = some (.lst (basL (R + 1) s)) := by rw [← e1, List.getElem?_append_left hkb]; exact hs.b
    have k1 : st1[st.length]? = some (.lst (lnsL (R + 1) (W + R + 2) (SX.piv s r c))) := by rw [← e1]; simp
    have p1 : st1.take S0.length = S0 := by rw [← e1, List.take_append_of_le_length hlen]; exact hs.pre
    refine ⟨isObj_S o1 rfl, ?_⟩
    rw [fS o1 rfl]
    refine red_spec (fS o1 rfl) B.d0 B.d hw hc (fun j hj => B.z j hj) hcab ?_
    rw [rsQ_own]
    refine ⟨_, o1, shG_len, _, set_get' (by omega), by rw [put_costs]; exact shG_len, ?_⟩
    rw [put_costs, put_lines]
    generalize e2 : st1.set n (.obj "Sheet" (shG W R st.length kb s.d (D.lst (lnL (W + R + 2) fun j => (s.z j * SX.ch s r c c - s.z c * SX.ch s r c j).fdiv s.d)))) = st2
    have l2 : st2.length = st.length + 1 := by rw [← e2]; simp [l1]
    have o2 : st2[n]? = some (.obj "Sheet" (shG W R st.length kb s.d (D.lst (lnL (W + R + 2) fun j => (s.z j * SX.ch s r c c - s.z c * SX.ch s r c j).fdiv s.d)))) := by rw [← e2]; exact set_get' (by omega)
    have b2 : st2[kb]? = some (.lst (basL (R + 1) s)) := by rw [← e2, List.getElem?_set_ne hnb]; exact b1
    have k2 : st2[st.length]? = some (.lst (lnsL (R + 1) (W + R + 2) (SX.piv s r c))) := by rw [← e2, List.getElem?_set_ne (by omega)]; exact k1
    have p2 : st2.take S0.length = S0 := by rw [← e2, take_set hs.ln]; exact p1
    rw [fS o2 rfl]
    simp only [setQ_int]
    refine ⟨_, r, b2, by rw [show (basL (R + 1) s).length = R + 1 by simp [basL]]; exact ix_nat hr, ?_⟩
    rw [bas_up hr]
    simp [-List.map_map, ln]
    refine ⟨_, atI_ln hc, _, by rw [List.getElem?_set_ne (Ne.symm hnb)]; exact o2, shG_len, ?_⟩
    rw [put_base]
    refine hq _ _ st.length ⟨?_, hs.ln, hlen, hs.lb, by omega, ?_, ?_, ?_⟩
    · rw [take_set hs.ln, take_set hs.lb]; exact p2
    · exact set_get' (by simp; omega)
    · rw [List.getElem?_set_ne (by omega), List.getElem?_set_ne (by omega)]; exact k2
    · rw [List.getElem?_set_ne hnb]; exact set_get' (by omega)
theorem turn_spec {r : Nat} (hs : Sht S0 st n k kb W R s) (B : Bd W R s) (hr : r < R + 1) (hc : c < W + R + 2) (hq : ∀ st' k', Sht S0 st' n k' kb W R (SX.piv s r c) → q (.d .non) st') :
    m_Sheet_turn [.ref n, .int (r : Int), .int (c : Int)] st q er := by
  refine ⟨rfl, ?_⟩
  show a_Sheet_turn [.d (.ref n), .d (.int (r : Int)), .d (.int (c : Int)), .no, .no, .no, .no] st _
  rw [turn_eq]
  have hw := B.w
  simp [-List.map_map]
  rw [s_lines hs, vw_ref hs.t]
  refine ⟨_, atI_lns hr, ?_⟩
  simp [-List.map_map, ln]
  refine ⟨_, atI_ln hc, ?_⟩
  simp [-List.map_map]
  by_cases hz : s.T r c < 0
  · rw [if_pos hz]
    unfold lnL
    refine lc_of (α := Nat) (T := fun i => D.int (s.T r i)) (G := fun i => .int (- s.T r i)) (by simp) _ (fun i hi P1 P2 hp1 => by simpa using hp1) (by simp; omega) ?_
    have e : (List.range (W + R + 2)).map (fun i => D.int (- s.T r i)) = lnL (W + R + 2) (SX.ch s r c) := by
      refine List.map_congr_left fun j _ => ?_
      unfold SX.ch SX.sg
      rw [if_pos hz]; simp
    simp only [List.nil_append]
    rw [e]
    exact turn_tail hs B hr hc fun env st' k' h => hq st' k' h
  · rw [if_neg hz]
    have e : lnL (W + R + 2) (s.T r) = lnL (W + R + 2) (SX.ch s r c) := lnL_congr fun j _ => by
      unfold SX.ch SX.sg
      rw [if_neg hz]; simp
    rw [e]
    exact turn_tail hs B hr hc fun env st' k' h => hq st' k' h
end
end LW
set_option Elab.async false
set_option linter.all false
set_option maxRecDepth 100000
set_option maxHeartbeats 2000000
namespace LW
open PySem L2 AM
theorem for_rngT9 {T : Nat → D} {gd : Gd} {g : AG} {s : AS} {k : AK} {N : Nat} {P : Nat → List A → S → Prop} (h0 : ∀ env st, P N env st → gdOk gd st ∧ k.nx env st) (h1 : ∀ i env st, i < N → P i env st → ∀ nx : List A → S → Prop, (∀ e s, P (i + 1) e s → nx e s) → gdOk gd st ∧ g (T i) env st fun e1 => s e1 st { k with nx := nx, ct := nx, bk := k.nx }) (env : List A) (st : S) (h : P 0 env st) : sForL gd g s ((List.range N).map T) env st k := by
  refine for_of (T := T) (P := fun l env st => ∃ i, i ≤ N ∧ l = List.range' i (N - i) ∧ P i env st) ?_ ?_ _ _ _ ⟨0, by omega, by rw [List.range_eq_range']; rfl, h⟩
  · rintro env st ⟨i, hi, hl, hp⟩
    have : N - i = 0 := by have := congrArg List.length hl; simpa using this.symm
    have : i = N := by omega
    subst this
    exact h0 env st hp
  · rintro x xs env st ⟨i, hi, hl, hp⟩ nx hnx
    have hlt : i < N := by
      have := congrArg List.length hl
      simp at this; omega
    rw [show N - i = (N - (i + 1)) + 1 by omega, List.range'_succ] at hl
    injection hl with h2 h3
    subst h2
    exact h1 x env st hlt hp nx fun e s hp => hnx e s ⟨x + 1, by omega, h3, hp⟩
section
variable {st : S} {q : Rs → S → Prop} {er : QX} {S0 : S} {n k kb W R : Nat} {s : SX.St} {p : D → S → Prop} {f h : Nat → Int} {c : Nat}
/-! ### the line that is left -/
def lvD : Option Nat → D
  | none => .non
  | some r => .int (r : Int)
theorem enum_bas {M : Nat} : enumD (basL M s) = (List.range M).map fun (i : Nat) => D.tup [.int (i : Int), .int (s.b i : Int)] := by
  apply List.ext_getElem (by simp [enumD, basL])
  intro i h1 h2
  simp [enumD, basL]
theorem leave_spec (hs : Sht S0 st n k kb W R s) (B : Bd W R s) (hc : c < W + R + 2) (hq : q (.d (lvD (SX.lv s c (W + R + 1) (R + 1)))) st) : m_Sheet_leaving [.ref n, .int (c : Int)] st q er := by
  refine ⟨rfl, ?_⟩
  show a_Sheet_leaving [.d (.ref n), .d (.int (c : Int)), .no, .no, .no, .no, .no, .no, .no] st _
  unfold a_Sheet_leaving
  simp [-List.map_map]
  rw [s_basis hs, vw_ref hs.b]
  refine ⟨_, rfl, ?_⟩
  rw [enum_bas]
  refine for_rngT9 (P := fun i env st' => st' = st ∧ ∃ e3 e4 e5 e6 e7 e8, env = [.d (.ref n), .d (.int (c : Int)), .d (lvD (SX.lv s c (W + R + 1) i)), e3, e4, e5, e6, e7, e8]) (fun env st' hp => ?_) (fun i env st' hi hp nx hnx => ?_) _ st ⟨rfl, _, _, _, _, _, _, rfl⟩
  · obtain ⟨rfl, e3, e4, e5, e6, e7, e8, rfl⟩ := hp
    refine ⟨gdOk_of, ?_⟩
    simpa using hq
  · obtain ⟨rfl, e3, e4, e5, e6, e7, e8, rfl⟩ := hp
    refine ⟨gdOk_of, ?_⟩
    simp [-List.map_map]
    rw [s_lines hs, vw_ref hs.t]
    refine ⟨_, atI_lns hi, ?_⟩
    simp [-List.map_map, ln]
    refine ⟨_, atI_ln hc, ?_⟩
    simp [-List.map_map]
    rw [s_lines hs, vw_ref hs.t]
    refine ⟨_, atI_lns hi, ?_⟩
    simp [-List.map_map, ln]
    refine ⟨_, atI_lnL, ?_⟩
    simp [-List.map_map]
    have key : ∀ v, lvD (SX.lv s c (W + R + 1) (i + 1)) = v → ∀ e3 e4 e5 e6 e7 e8, nx [.d (.ref n), .d (.int (c : Int)), .d v, e3, e4, e5, e6, e7, e8] st' := by
      rintro v rfl e3 e4 e5 e6 e7 e8
      exact hnx _ _ ⟨rfl, _, _, _, _, _, _, rfl⟩
    by_cases hp : 0 < s.T i c
    · rw [if_pos hp]
      cases hl : SX.lv s c (W + R + 1) i with
      | none =>
        simp [-List.map_map, lvD, nonD]
        refine key _ ?_ _ _ _ _ _ _
        rw [SX.lv, hl]
        simp [hp, lvD]
      | some r =>
        have hr : r < R + 1 := by have := ((SX.lv_spec i).2 r hl).lt; omega
        simp [-List.map_map, lvD, nonD]
        rw [s_lines hs, vw_ref hs.t]
        refine ⟨_, atI_lns hr, ?_⟩
        simp [-List.map_map, ln]
        refine ⟨_, atI_ln hc, ?_⟩
        simp [-List.map_map]
        refine ⟨cm3 (B.t i _ hi (by omega)) (B.t r c hr hc), ?_⟩
        rw [s_lines hs, vw_ref hs.t]
        refine ⟨_, atI_lns hr, ?_⟩
        simp [-List.map_map, ln]
        refine ⟨_, atI_lnL, ?_⟩
        simp [-List.map_map]
        refine ⟨cm3 (B.t r _ hr (by omega)) (B.t i c hi hc), ?_⟩
        by_cases h1 : s.T i (W + R + 1) * s.T r c < s.T r (W + R + 1) * s.T i c
        · rw [if_pos h1]
          refine key _ ?_ _ _ _ _ _ _
          rw [SX.lv, hl]
          simp [hp, h1, lvD]
        · rw [if_neg h1]
          by_cases h2 : s.T i (W + R + 1) * s.T r c = s.T r (W + R + 1) * s.T i c
          · rw [if_pos h2, s_basis hs, vw_ref hs.b]
            refine ⟨_, atI_bas hr, ?_⟩
            simp [-List.map_map]
            by_cases h3 : s.b i < s.b r
            · rw [if_pos h3]
              refine key _ ?_ _ _ _ _ _ _
              rw [SX.lv, hl]
              simp [hp, h1, h2, h3, lvD]
            · rw [if_neg h3]
              refine key _ ?_ _ _ _ _ _ _
              rw [SX.lv, hl]
              simp [hp, h1, h2, h3, lvD]
          · rw [if_neg h2]
            refine key _ ?_ _ _ _ _ _ _
            rw [SX.lv, hl]
            simp [hp, h1, h2, lvD]
    · rw [if_neg hp]
      refine key _ ?_ _ _ _ _ _ _
      rw [SX.lv]
      cases hl : SX.lv s c (W + R + 1) i <;> simp [hp]
/-! ### exchange until no cost is below 0 -/
def low (W R : Nat) (s : SX.St) : List Nat := (List.range (W + R)).filter fun c => decide (s.z c < 0)
theorem filter_head {p : Nat → Bool} : ∀ {n c : Nat} {t : List Nat}, (List.range n).filter p = c :: t → c < n ∧ p c = true ∧ ∀ j, j < c → p j = false
  | 0, c, t, h => by cases h
  | n + 1, c, t, h => by
    rw [List.range_succ, List.filter_append] at h
    cases hf : (List.range n).filter p with
    | nil =>
      rw [hf, List.nil_append] at h
      have hn : p n = true := by
        by_cases e : p n = true
        · exact e
        · simp [e] at h
      simp [hn] at h
      obtain ⟨rfl, _⟩ := h
      refine ⟨by omega, hn, fun j hj => ?_⟩
      have := List.filter_eq_nil_iff.mp hf j (List.mem_range.mpr hj)
      simpa using this
    | cons x xs =>
      rw [hf] at h
      injection h with h1 h2
      subst h1
      obtain ⟨a, b, d⟩ := filter_head hf
      exact ⟨by omega, b, d⟩
theorem low_nil (h : low W R s = []) : ∀ c, c < W + R → 0 ≤ s.z c := fun c hc => by
  have := List.filter_eq_nil_iff.mp h c (List.mem_range.mpr hc)
  simp at this; exact this
theorem low_cons {c : Nat} {t : List Nat} (h : low W R s = c :: t) : c < W + R ∧ s.z c < 0 ∧ ∀ j, j < c → 0 ≤ s.z j := by
  obtain ⟨a, b, d⟩ := filter_head h
  refine ⟨a, by simpa using b, fun j hj => ?_⟩
  have := d j hj
  simp at this; exact this
theorem run_ext {A : Nat → Nat → Int} {g : Nat → Int} {M N cnt tot m r c : Nat} {σ : Nat → SX.St} {cl rw_ : Nat → Nat} (R : SX.Run A g M N cnt tot σ cl rw_ m) (h : SX.BStep M cnt tot (σ m) r c) :
    SX.Run A g M N cnt tot (fun i => if i ≤ m then σ i else SX.piv (σ m) r c) (fun i => if i < m then cl i else c) (fun i => if i < m then rw_ i else r) (m + 1) := by
  refine ⟨by simpa using R.inv, by simpa using R.feas, R.ht, R.hc, fun i hi => ?_⟩
  by_cases e : i < m
  · simp only [show i ≤ m by omega, if_true, e, show i + 1 ≤ m by omega]
    exact R.step i e
  · have : i = m := by omega
    subst this
    simp only [Nat.le_refl, if_true, Nat.lt_irrefl, if_false, show ¬ i + 1 ≤ i by omega]
    simpa using h
def runB : AS := sSeq (sDrop (aMeth "Sheet" "turn" m_Sheet_turn (aVar 0) (aCons (aMeth "Sheet" "leaving" m_Sheet_leaving (aVar 0) (aCons (aOp oIxA (aVar 1) (aC (.int 0))) (aNil)) []) (aCons (aOp oIxA (aVar 1) (aC (.int 0))) (aNil))) []))
  (sAsg (aFr (fLc (aRng1 (aFld ["Sheet"] "count" (aVar 0))) (agName 2) (aTest (aOp oLt (aOp oIxA (aFld ["Sheet"] "costs" (aVar 0)) (aVar 2)) (aC (.int 0)))) (aVar 2) [2])) (agName 1))
def lowA : AS := sAsg (aFr (fLc (aRng1 (aFld ["Sheet"] "count" (aVar 0))) (agName 2) (aTest (aOp oLt (aOp oIxA (aFld ["Sheet"] "costs" (aVar 0)) (aVar 2)) (aC (.int 0)))) (aVar 2) [2])) (agName 1)
theorem run_eq : a_Sheet_run = sSeq lowA (sWhile (aTruth (aVar 1)) (sSeq (sDrop (aMeth "Sheet" "turn" m_Sheet_turn (aVar 0) (aCons (aMeth "Sheet" "leaving" m_Sheet_leaving (aVar 0) (aCons (aOp oIxA (aVar 1) (aC (.int 0))) (aNil)) []) (aCons (aOp oIxA (aVar 1) (aC (.int 0))) (aNil))) [])) lowA)) := rfl
def lowD (W R : Nat) (s : SX.St) : D := .lst ((low W R s).map fun (c : Nat) => .int (c : Int))
theorem low_spec {ak : AK} {e1 e2 : A} (hs : Sht S0 st n k kb W R s) (hw : W + R ≤ 1000) (hq : ak.nx [.d (.ref n), .d (lowD W R s), e2] st) : lowA [.d (.ref n), e1, e2] st ak := by
  unfold lowA
  simp [-List.map_map]
  rw [s_count hs]
  simp [-List.map_map]
  refine ⟨by omega, ?_⟩
  rw [show ((W : Int) + (R : Int)).toNat = W + R by omega]
  refine lc_ofP (T := fun (i : Nat) => D.int (i : Int)) (G := fun (i : Nat) => D.int (i : Int)) (p := fun c => decide (s.z c < 0)) (by simp) _ (fun c hc P1 P2 hp1 => ?_) (by simp; omega) (by simpa [-List.map_map, lowD, low] using hq)
  have hc := List.mem_range.mp hc
  simp [-List.map_map]
  rw [s_costs hs]
  simp [-List.map_map, ln]
  refine ⟨_, atI_ln (by omega), ?_⟩
  simp [-List.map_map]
  simpa using hp1
theorem runs_spec {row : Nat → Nat → Int} {g : Nat → Int} {P : SX.St → Prop} (hP : ∀ s r c, P s → r < R + 1 → c < W + R → P (SX.piv s r c)) (h0 : P s) (I : SX.Inv' R W row g s) (F : SX.Feas (R + 1) (W + R + 1) s) (hB : ∀ s, SX.Inv' R W row g s → Bd W R s) (hs : Sht S0 st n k kb W R s)
    (hq : ∀ st' k' s', P s' → SX.Inv' R W row g s' → SX.Feas (R + 1) (W + R + 1) s' → (∀ c, c < W + R → 0 ≤ s'.z c) → Sht S0 st' n k' kb W R s' → q (.d .non) st') : m_Sheet_run [.ref n] st q er := by
  refine ⟨rfl, ?_⟩
  show a_Sheet_run [.d (.ref n), .no, .no] st _
  rw [run_eq]
  have hw := (hB s I).w
  rw [ev_sSeq]
  refine low_spec hs hw ?_
  refine ⟨_, wh_ind (P := fun m env st' => ∃ σ cl rw_ j k' e2, SX.Run (SX.cA R W row) g (R + 1) (W + R + 2) (W + R) (W + R + 1) σ cl rw_ j ∧ (W + R + 2) ^ (R + 1) - j ≤ m ∧ P (σ j) ∧ Sht S0 st' n k' kb W R (σ j) ∧ env = [.d (.ref n), .d (lowD W R (σ j)), e2]) ?_ (fun {m env st'} hp m' hm => ?_) _ _ _ ⟨fun _ => s, fun _ => 0, fun _ => 0, 0, k, _, ⟨I, F, by omega, by omega, fun i hi => by omega⟩, Nat.le_refl _, h0, hs, rfl⟩⟩
  case refine_2 =>
    obtain ⟨σ, cl, rw_, j, k', e2, HR, hj, hp, hs', rfl⟩ := hp
    exact ⟨σ, cl, rw_, j, k', e2, HR, Nat.le_trans hj hm, hp, hs', rfl⟩
  rintro m env st' ⟨σ, cl, rw_, j, k', e2, HR, hm, hp, hs', rfl⟩ nx hnx
  obtain ⟨I', F'⟩ := HR.all j (Nat.le_refl _)
  have hj := HR.short
  cases hl : low W R (σ j) with
  | nil =>
    simp [-List.map_map, lowD, hl]
    exact hq _ _ _ hp I' F' (low_nil hl) hs'
  | cons c t =>
    obtain ⟨c1, c2, c3⟩ := low_cons hl
    obtain ⟨r, hr, hst⟩ := SX.step_of I' c1 c2 c3
    have B := hB _ I'
    simp [-List.map_map, lowD, hl]
    refine ⟨isObj_S hs'.o rfl, isObj_S hs'.o rfl, ?_⟩
    refine leave_spec hs' B (by omega) ?_
    rw [hr]
    simp [-List.map_map, lvD]
    refine turn_spec hs' B hst.hr (by omega) fun st2 k2 h2 => ?_
    simp [-List.map_map]
    refine low_spec h2 hw ?_
    have eS : (if j + 1 ≤ j then σ (j + 1) else SX.piv (σ j) r c) = SX.piv (σ j) r c := if_neg (by omega)
    refine hnx ((W + R + 2) ^ (R + 1) - (j + 1)) _ _ (by omega) ⟨_, _, _, j + 1, k2, e2, run_ext HR hst, Nat.le_refl _, ?_, ?_, ?_⟩
    · show P (if j + 1 ≤ j then σ (j + 1) else SX.piv (σ j) r c)
      rw [eS]; exact hP _ _ _ hp hst.hr c1
    · show Sht S0 st2 n _ kb W R (if j + 1 ≤ j then σ (j + 1) else SX.piv (σ j) r c)
      rw [eS]; exact h2
    · show _ = [A.d (.ref n), .d (lowD W R (if j + 1 ≤ j then σ (j + 1) else SX.piv (σ j) r c)), _]
      rw [eS]
end
end LW
set_option Elab.async false
set_option linter.all false
set_option maxRecDepth 100000
set_option maxHeartbeats 2000000
namespace LW
open PySem L2 AM
@[simp ↓] theorem slD_lst_ {l : List D} {lo hi : Option Int} {q : D → Prop} : slD (.lst l) lo hi q = q (.lst (cutL l lo hi)) := propext Iff.rfl
theorem plains_int9 {α : Type} {f : α → Int} : ∀ ns : List α, D.plains (ns.map fun x => D.int (f x)) = true
  | [] => rfl
  | n :: ns => by rw [List.map_cons]; unfold D.plains; rw [plains_int9 ns]; rfl
theorem deps_int9 {α : Type} {f : α → Int} : ∀ ns : List α, D.deps (ns.map fun x => D.int (f x)) = 0
  | [] => rfl
  | n :: ns => by rw [List.map_cons]; unfold D.deps; rw [deps_int9 ns]; rfl
theorem shp_int9 {α : Type} {f : α → Int} (ns : List α) : (D.lst (ns.map fun x => D.int (f x))).shp := by
  unfold D.shp
  constructor
  · unfold D.plain; exact plains_int9 ns
  · unfold D.dep; rw [deps_int9]; decide
theorem shp_i {i : Int} : (D.int i).shp := ⟨rfl, Nat.zero_le _⟩
theorem eqv_i {i j : Int} : D.eqv (.int i) (.int j) = decide (i = j) := by show (i == j) = _; exact rfl
theorem cat3 {α : Type} {F G H : Nat → α} {x y : α} {W R : Nat} (h1 : ∀ j, j < W → F j = H j) (h2 : ∀ i, i < R → G i = H (W + i)) (h3 : x = H (W + R)) (h4 : y = H (W + R + 1)) :
    (List.range W).map F ++ ((List.range R).map G ++ [x, y]) = (List.range (W + R + 2)).map H := by
  rw [List.range_succ, List.range_succ, List.range_add]
  simp only [List.map_append, List.map_cons, List.map_nil, List.map_map, List.append_assoc]
  rw [List.map_congr_left fun j hj => h1 j (List.mem_range.mp hj), List.map_congr_left fun j hj => h2 j (List.mem_range.mp hj), h3, h4]
  rfl
theorem ix_items {x : D} {l : List D} {i : Int} {q : D → Prop} (e : itemsD x = some l) : oIxA x (.int i) q = ∃ d, atI l i = some d ∧ q d := by
  cases x <;> first | (cases e; done) | (cases e; exact propext Iff.rfl)
section
variable {st : S} {q : Rs → S → Prop} {er : QX} {S0 : S} {n k kb W R : Nat} {s : SX.St} {p : D → S → Prop} {f h : Nat → Int} {c : Nat}
/-! ### amounts -/
def amI (W R : Nat) (s : SX.St) : List Int := (List.range R).map fun i => s.z (W + i)
theorem amounts_spec (hs : Sht S0 st n k kb W R s) (hq : q (.d (.lst ((amI W R s).map .int))) st) : m_Sheet_amounts [.ref n] st q er := by
  refine ⟨rfl, ?_⟩
  show a_Sheet_amounts [.d (.ref n)] st _
  unfold a_Sheet_amounts
  simp [-List.map_map]
  rw [s_costs hs]
  rw [s_wide hs]
  simp [-List.map_map]
  rw [s_count hs]
  simp [-List.map_map, ln]
  have e : cutL (lnL (W + R + 2) s.z) (some (W : Int)) (some ((W : Int) + (R : Int))) = (amI W R s).map .int := by
    rw [← Int.natCast_add]
    unfold cutL
    rw [HT.sIx_nat, HT.sIx_nat, lnL_len, Nat.min_eq_left (by omega), Nat.min_eq_left (by omega)]
    apply List.ext_getElem (by simp [amI]; omega)
    intro i h1 h2
    simp [amI, lnL]
  rw [e]
  exact hq
/-! ### what lacks to the sum leaves the basis -/
theorem settle_spec {row : Nat → Nat → Int} (I : SX.Inv' R W row (SX.g1 R W) s) (F : SX.Feas (R + 1) (W + R + 1) s) (hb : ∀ k, k < R + 1 → s.b k ≤ W + R) (ht : 0 ≤ s.z (W + R + 1)) (hW : 0 < W) (B : Bd W R s) (hs : Sht S0 st n k kb W R s)
    (hq : ∀ st' k' s', SX.Inv' R W row (SX.g1 R W) s' → SX.Feas (R + 1) (W + R + 1) s' → (∀ k, k < R + 1 → s'.b k < W + R) → Sht S0 st' n k' kb W R s' → q (.d .non) st') : m_Sheet_settle [.ref n] st q er := by
  refine ⟨rfl, ?_⟩
  show a_Sheet_settle [.d (.ref n), .no, .no] st _
  unfold a_Sheet_settle
  simp [-List.map_map]
  rw [s_count hs, s_basis hs, vw_ref hs.b]
  refine ⟨shp_i, shp_int9 _, _, rfl, ?_⟩
  have hany : ((basL (R + 1) s).any fun z => D.eqv z (vw st (.int ((W + R : Nat) : Int)))) = decide (∃ k, k < R + 1 ∧ s.b k = W + R) := by
    rw [Bool.eq_iff_iff]
    rw [decide_eq_true_eq, List.any_eq_true]
    constructor
    · rintro ⟨z, hz, hh⟩
      obtain ⟨j, hj, rfl⟩ := List.mem_map.mp hz
      refine ⟨j, List.mem_range.mp hj, ?_⟩
      have hh : D.eqv (.int (s.b j : Int)) (.int ((W + R : Nat) : Int)) = true := hh
      rw [eqv_i] at hh
      have := of_decide_eq_true hh
      omega
    · rintro ⟨j, hj, e⟩
      refine ⟨_, List.mem_map.mpr ⟨j, List.mem_range.mpr hj, rfl⟩, ?_⟩
      show D.eqv (.int (s.b j : Int)) (.int ((W + R : Nat) : Int)) = true
      rw [eqv_i, e]; simp
  rw [hany]
  by_cases hx : ∃ k, k < R + 1 ∧ s.b k = W + R
  · rw [decide_eq_true hx]
    obtain ⟨r, hr, hbr⟩ := hx
    obtain ⟨c0, hc0, hn0⟩ := SX.some_col I hW hr hbr
    simp [-List.map_map]
    rw [s_basis hs, s_count hs]
    refine ⟨⟨_, vw_ref hs.b⟩, basL (R + 1) s, r, .int (s.b r : Int), vw_ref hs.b, shp_int9 _, shp_i, by simp [basL, hr], by simp [eqv_i, hbr], ?_, ?_⟩
    · intro m z hm hz
      have hm1 : m < R + 1 := by omega
      simp [basL, hm1] at hz
      subst hz
      show D.eqv (.int (s.b m : Int)) (.int ((W + R : Nat) : Int)) = false
      rw [eqv_i]
      refine decide_eq_false fun e => ?_
      have e : s.b m = s.b r := by omega
      have := SX.b_inj I hm1 hr e
      omega
    simp [-List.map_map]
    refine ⟨isObj_S hs.o rfl, ?_⟩
    rw [s_count hs]
    simp [-List.map_map]
    refine ⟨by have := B.w; omega, ?_⟩
    rw [show ((W : Int) + (R : Int)).toNat = W + R by omega]
    refine lc_ofP (T := fun (i : Nat) => D.int (i : Int)) (G := fun (i : Nat) => D.int (i : Int)) (p := fun c => decide (s.T r c ≠ 0)) (by simp) _ (fun c hc P1 P2 hp1 => ?_) (by have := B.w; simp; omega) ?_
    · have hc := List.mem_range.mp hc
      simp [-List.map_map]
      rw [s_lines hs, vw_ref hs.t]
      refine ⟨_, atI_lns hr, ?_⟩
      simp [-List.map_map, ln]
      refine ⟨_, atI_ln (by omega), ?_⟩
      simp [-List.map_map]
      simpa using hp1
    · cases hf : (List.range (W + R)).filter (fun c => decide (s.T r c ≠ 0)) with
      | nil =>
        have := List.filter_eq_nil_iff.mp hf c0 (List.mem_range.mpr hc0)
        simp at this
        exact absurd this hn0
      | cons c t =>
        obtain ⟨a1, a2, _⟩ := filter_head hf
        have a2 : s.T r c ≠ 0 := by simpa using a2
        refine ⟨.int (c : Int), by simp, ?_⟩
        refine turn_spec hs B hr (by omega) fun st' k' h' => ?_
        refine hq _ _ _ (SX.piv_inv I hr (by omega) a2) (SX.settle_feas I F hr a1 a2 (SX.lack0 I F hb ht hr hbr)) (fun j hj => ?_) h'
        show SX.up s.b r c j < W + R
        unfold SX.up
        split
        · exact a1
        · rename_i hne
          have := hb j hj
          have : s.b j ≠ W + R := fun e => hne (SX.b_inj I hj hr (by omega))
          omega
  · rw [decide_eq_false hx]
    simp [-List.map_map]
    refine hq st k s I F (fun j hj => ?_) hs
    have := hb j hj
    have : s.b j ≠ W + R := fun e => hx ⟨j, hj, e⟩
    omega
/-! ### the goal into the costs -/
def lineF (goal : Nat → Int) (W : Nat) (s : SX.St) (i c : Nat) : Int := SX.sm i (fun k => SX.g2 W goal (s.b k) * s.T k c) - s.d * SX.g2 W goal c
theorem charge_spec {goal : Nat → Int} {gd : D} (hg : isInts st gd ((List.range W).map goal)) (hgs : ∀ j, j < W → (goal j).natAbs < 2 ^ 3000) (B : Bd W R s) (hs : Sht S0 st n k kb W R s)
    (hq : ∀ st', Sht S0 st' n k kb W R (SX.charge goal W R s) → q (.d .non) st') : m_Sheet_charge [.ref n, gd] st q er := by
  refine ⟨rfl, ?_⟩
  show a_Sheet_charge [.d (.ref n), .d gd, .no, .no, .no, .no, .no, .no, .no, .no] st _
  unfold a_Sheet_charge
  have hw := B.w
  have g2s : ∀ c, (SX.g2 W goal c).natAbs < 2 ^ 3000 := fun c => by
    unfold SX.g2
    split
    · exact hgs _ (by assumption)
    · exact two_pos
  have hg : itemsD (vw st gd) = some ((List.range W).map fun j => D.int (goal j)) := by
    have := hg
    unfold isInts at this
    simpa [Function.comp_def] using this
  simp [-List.map_map]
  rw [s_wide hs, s_count hs]
  simp [-List.map_map]
  refine ⟨by omega, ?_⟩
  rw [show ((W : Int) + (R : Int)).toNat - W = R by omega]
  refine lc_of (T := fun (i : Nat) => D.int ((W : Int) + (i : Int))) (G := fun _ => .int 0) (by simp) _ (fun j hj P1 P2 hp1 => by simpa using hp1) (by simp; omega) ?_
  refine ⟨_, hg, ?_⟩
  refine lc_of (T := fun (i : Nat) => D.int (goal i)) (G := fun i => .int (- goal i)) gdOk_of _ (fun j hj P1 P2 hp1 => by simpa using hp1) (by simp; omega) ?_
  refine ⟨by simp; omega, ?_⟩
  have e0 : (List.range W).map (fun i => D.int (- goal i)) ++ ((List.range R).map (fun _ => D.int 0) ++ [D.int 0, D.int 0]) = lnL (W + R + 2) (fun c => - SX.g2 W goal c) := by
    refine cat3 (fun j hj => ?_) (fun i hi => ?_) ?_ ?_
    · simp [SX.g2, hj]
    · simp [SX.g2, show ¬ W + i < W by omega]
    · simp [SX.g2, show ¬ W + R < W by omega]
    · simp [SX.g2, show ¬ W + R + 1 < W by omega]
  simp only [List.nil_append]
  rw [e0]
  unfold lnL
  refine lc_of (T := fun (c : Nat) => D.int (- SX.g2 W goal c)) (G := fun c => .int (lineF goal W s 0 c)) (by simp) _ (fun j hj P1 P2 hp1 => ?_) (by simp; omega) ?_
  · simp [-List.map_map]
    rw [s_base hs]
    simp [-List.map_map]
    refine ⟨cm3 B.d (by rw [Int.natAbs_neg]; exact g2s j), ?_⟩
    have : lineF goal W s 0 j = -(s.d * SX.g2 W goal j) := by unfold lineF; show (0 : Int) - _ = _; omega
    rw [this] at hp1
    first | exact hp1 | (rw [Int.mul_neg]; exact hp1)
  simp only [List.nil_append]
  rw [s_basis hs, vw_ref hs.b]
  refine ⟨_, rfl, ?_⟩
  rw [enum_bas]
  refine for_rngT9 (P := fun i env st' => st' = st ∧ ∃ e4 e5 e6 e7 e8 e9 ez, env = [.d (.ref n), .d gd, ez, .d (ln (W + R + 2) (lineF goal W s i)), e4, e5, e6, e7, e8, e9]) (fun env st' hp => ?_) (fun i env st' hi hp nx hnx => ?_) _ st ⟨rfl, _, _, _, _, _, _, _, rfl⟩
  · obtain ⟨rfl, e4, e5, e6, e7, e8, e9, ez, rfl⟩ := hp
    refine ⟨gdOk_of, ?_⟩
    simp [-List.map_map]
    refine ⟨_, hs.o, shG_len, ?_⟩
    rw [put_costs]
    have hn : n < st'.length := (List.getElem?_eq_some_iff.mp hs.o).1
    have hnk : n ≠ k := fun e => by
      have h1 := hs.o
      rw [e, hs.t] at h1; cases h1
    have hnb : n ≠ kb := fun e => by
      have h1 := hs.o
      rw [e, hs.b] at h1; cases h1
    exact hq _ ⟨by rw [take_set hs.ln]; exact hs.pre, hs.ln, hs.lk, hs.lb, hs.ne, set_get' hn, by rw [List.getElem?_set_ne hnk]; exact hs.t, by rw [List.getElem?_set_ne hnb]; exact hs.b⟩
  · obtain ⟨rfl, e4, e5, e6, e7, e8, e9, ez, rfl⟩ := hp
    refine ⟨gdOk_of, ?_⟩
    have key : ∀ v, ln (W + R + 2) (lineF goal W s (i + 1)) = v → ∀ e4 e5 e6 e7 e8 e9 ez, nx [.d (.ref n), .d gd, ez, .d v, e4, e5, e6, e7, e8, e9] st' := by
      rintro v rfl e4 e5 e6 e7 e8 e9 ez
      exact hnx _ _ ⟨rfl, _, _, _, _, _, _, _, rfl⟩
    have step : ∀ c, lineF goal W s (i + 1) c = lineF goal W s i c + SX.g2 W goal (s.b i) * s.T i c := fun c => by
      unfold lineF
      show SX.sm i _ + SX.g2 W goal (s.b i) * s.T i c - _ = _
      omega
    simp [-List.map_map]
    rw [s_wide hs]
    simp [-List.map_map]
    by_cases hbw : s.b i < W
    · rw [if_pos hbw, s_lines hs, vw_ref hs.t]
      refine ⟨_, atI_lns hi, ?_⟩
      simp [-List.map_map, ln, lnL]
      rw [zip_map]
      refine lc_of (α := Nat) (G := fun c => .int (lineF goal W s (i + 1) c)) (by simp) _ (fun c hc P1 P2 hp1 => ?_) (by simp; omega) ?_
      · have hc := List.mem_range.mp hc
        simp [-List.map_map]
        rw [ix_items hg, at_nat (by simpa using hbw)]
        simp [-List.map_map]
        refine ⟨cm3 (hgs _ hbw) (B.t i c hi hc), ?_⟩
        have e := step c
        unfold SX.g2 at e
        rw [if_pos hbw] at e
        rw [e] at hp1
        exact hp1
      · refine key _ ?_ _ _ _ _ _ _ _
        simp [ln, lnL]
    · rw [if_neg hbw]
      refine key _ ?_ _ _ _ _ _ _ _
      unfold ln
      rw [lnL_congr fun c _ => ?_]
      rw [step]
      unfold SX.g2
      rw [if_neg hbw]; omega
/-! ### the mix -/
theorem Sht.app (hs : Sht S0 st n k kb W R s) (x : List C) : Sht S0 (st ++ x) n k kb W R s :=
  ⟨by rw [List.take_append_of_le_length hs.le]; exact hs.pre, hs.ln, hs.lk, hs.lb, hs.ne, by rw [List.getElem?_append_left (List.getElem?_eq_some_iff.mp hs.o).1]; exact hs.o, by rw [List.getElem?_append_left (List.getElem?_eq_some_iff.mp hs.t).1]; exact hs.t, by rw [List.getElem?_append_left (List.getElem?_eq_some_iff.mp hs.b).1]; exact hs.b⟩
def mfI (s : SX.St) (tot i j : Nat) : Int := SX.sm i fun k => if s.b k = j then s.T k tot else 0
def mixI (W R : Nat) (s : SX.St) : List Int := (List.range W).map (SX.mixF s W R)
theorem ltL_int9 {m : Nat} : ∀ ns : List Int, ltL m (ns.map D.int)
  | [] => trivial
  | _ :: ns => ⟨trivial, ltL_int9 ns⟩
theorem mix_spec (hinj : ∀ i j, i < R + 1 → j < R + 1 → s.b i = s.b j → i = j) (B : Bd W R s) (hms : ∀ x ∈ mixI W R s, x.natAbs < 2 ^ 8000) (hs : Sht S0 st n k kb W R s)
    (hq : q (.own ((lowL (mixI W R s)).map .int)) st) : m_Sheet_mix [.ref n] st q er := by
  refine ⟨rfl, fun la ls => ?_⟩
  show a_Sheet_mix [.d (.ref n), .no, .no, .no, .no] st _
  unfold a_Sheet_mix
  have hw := B.w
  simp [-List.map_map]
  rw [s_wide hs]
  simp [-List.map_map]
  refine ⟨by omega, ?_⟩
  refine lc_of (T := fun (i : Nat) => D.int (i : Int)) (G := fun j => .int (mfI s (W + R + 1) 0 j)) (by simp) _ (fun j hj P1 P2 hp1 => by rw [show mfI s (W + R + 1) 0 j = 0 from rfl] at hp1; simpa using hp1) (by simp; omega) ?_
  simp only [List.nil_append]
  have hs0 := hs.app [C.lst ((List.range W).map fun j => D.int (mfI s (W + R + 1) 0 j))]
  rw [s_basis hs0, vw_ref hs0.b]
  refine ⟨_, rfl, ?_⟩
  rw [enum_bas, gdOf_ref hs0.b]
  refine for_rngT9 (P := fun i env st' => st' = st ++ [.lst (lnL W (mfI s (W + R + 1) i))] ∧ ∃ e2 e3 e4, env = [.d (.ref n), .d (.ref st.length), e2, e3, e4]) (fun env st' hp => ?_) (fun i env st' hi hp nx hnx => ?_) _ _ ⟨rfl, _, _, _, rfl⟩
  · obtain ⟨rfl, e2, e3, e4, rfl⟩ := hp
    refine ⟨by simp only [gdOk_one]; exact (hs.app _).b, ?_⟩
    simp [-List.map_map]
    have e : lnL W (mfI s (W + R + 1) (R + 1)) = (mixI W R s).map .int := by unfold lnL mixI; rw [List.map_map]; rfl
    rw [e]
    refine lowest_spec (ns := mixI W R s) ?_ (by simp [mixI]; omega) hms ?_
    · show itemsD (vw _ _) = _
      rw [vw_ref (l := (mixI W R s).map .int) (by simp)]; rfl
    · show exC _ _ _ _
      refine ⟨?_, .inl ⟨ltL_int9 _, ?_⟩⟩
      · simpa using ls
      · simpa using hq
  · obtain ⟨rfl, e2, e3, e4, rfl⟩ := hp
    have hs1 := hs.app [C.lst (lnL W (mfI s (W + R + 1) i))]
    refine ⟨by simp only [gdOk_one]; exact hs1.b, ?_⟩
    simp [-List.map_map]
    rw [s_wide hs1]
    simp [-List.map_map]
    by_cases hbw : s.b i < W
    · rw [if_pos hbw, s_lines hs1, vw_ref hs1.t]
      refine ⟨_, atI_lns hi, ?_⟩
      simp [-List.map_map, ln]
      refine ⟨_, atI_lnL, ?_⟩
      trace_state
      refine ⟨s.b i, ix_nat hbw, ?_⟩
      refine hnx _ _ ⟨?_, _, _, _, rfl⟩
      have e : (lnL W (mfI s (W + R + 1) i)).set (s.b i) (.int (s.T i (W + R + 1))) = lnL W (mfI s (W + R + 1) (i + 1)) := by
        apply List.ext_getElem (by simp)
        intro j h1 h2
        have hj : j < W := by simpa using h2
        rw [List.getElem_set]
        by_cases ej : s.b i = j
        · rw [if_pos ej]
          subst ej
          have z : mfI s (W + R + 1) i (s.b i) = 0 := SX.sm_zero fun m hm => if_neg fun e => by
            have := hinj m i (by omega) hi e
            omega
          have : mfI s (W + R + 1) (i + 1) (s.b i) = s.T i (W + R + 1) := by
            show mfI s (W + R + 1) i (s.b i) + (if s.b i = s.b i then s.T i (W + R + 1) else 0) = _
            rw [z, if_pos rfl]; omega
          simp [lnL, this]
        · rw [if_neg ej]
          have : mfI s (W + R + 1) (i + 1) j = mfI s (W + R + 1) i j := by
            show mfI s (W + R + 1) i j + (if s.b i = j then s.T i (W + R + 1) else 0) = _
            rw [if_neg ej]; omega
          simp [lnL, this]
      rw [e]
    · rw [if_neg hbw]
      refine hnx _ _ ⟨?_, _, _, _, rfl⟩
      rw [lnL_congr (f := mfI s (W + R + 1) (i + 1)) (g := mfI s (W + R + 1) i) fun j hj => ?_]
      show mfI s (W + R + 1) i j + (if s.b i = j then s.T i (W + R + 1) else 0) = _
      rw [if_neg (by omega)]; omega
end
end LW
set_option Elab.async false
set_option linter.all false
set_option maxRecDepth 100000
set_option maxHeartbeats 2000000
namespace LW
open PySem L2 AM
/-! ### a sheet is made -/
structure RowsIn (S0 : S) (d : D) (l : List D) (W : Nat) (row : Nat → Nat → Int) : Prop where
  it : ∀ st' : S, st'.take S0.length = S0 → itemsD (vw st' d) = some l
  gd : ∀ st1 st2 : S, st1.take S0.length = S0 → st2.take S0.length = S0 → gdOk (gdOf st1 d) st2
  row : ∀ st' : S, st'.take S0.length = S0 → ∀ i x, l[i]? = some x → itemsD (vw st' x) = some ((List.range W).map fun j => D.int (row i j))
  w : W + l.length ≤ 1000
theorem enum_get {l : List D} : enumD l = (List.range l.length).map fun (i : Nat) => D.tup [.int (i : Int), (l[i]?).getD .non] := by
  apply List.ext_getElem (by simp [enumD])
  intro i h1 h2
  have h2 : i < l.length := by simpa using h2
  simp [enumD, List.getElem?_eq_getElem h2]
theorem len_items {x : D} {l : List D} (e : itemsD x = some l) : lenD x = some l.length := by
  cases x <;> first | (cases e; done) | (cases e; rfl)
section
variable {st : S} {q : Rs → S → Prop} {er : QX} {S0 : S} {n k kb W R : Nat} {s : SX.St} {p : D → S → Prop} {f h : Nat → Int} {c : Nat} {d : D} {l : List D} {row : Nat → Nat → Int}
def lin0 (W R : Nat) (row : Nat → Nat → Int) (i : Nat) : List D := (List.range i).map fun r => ln (W + R + 2) fun c => SX.cA R W row c r
def o3 (W R L : Nat) : List (Str × D) := [("wide", .int W), ("count", .int ((W : Int) + (R : Int))), ("lines", .ref (L + 1))]
theorem set1' {α : Type} {st : List α} {a b c : α} : (st ++ [a, b]).set (st.length + 1) c = st ++ [a, c] := by rw [List.set_append_right _ _ (by omega)]; simp
theorem set1 {a b c : C} : List.set (st ++ [a, b]) (st.length + 1) c = st ++ [a, c] := set1'
theorem set0' {α : Type} {st : List α} {a b c a' : α} : (st ++ [a, b] ++ [c]).set st.length a' = st ++ [a', b, c] := by rw [List.append_assoc, List.set_append_right _ _ (by omega)]; simp
theorem set0 {a b c a' : C} : List.set (st ++ [a, b] ++ [c]) st.length a' = st ++ [a', b, c] := set0'
theorem set2' {α : Type} {st : List α} {a b c a' : α} : (st ++ [a, b, c]).set st.length a' = st ++ [a', b, c] := by rw [List.set_append_right _ _ (by omega)]; simp
theorem set2 {a b c a' : C} : List.set (st ++ [a, b, c]) st.length a' = st ++ [a', b, c] := set2'
theorem sh_init (hr : RowsIn st d l W row) (h : ∀ st', Sht st st' st.length (st.length + 1) (st.length + 2) W l.length (SX.st0 l.length W row) → q (.d .non) st') : m_Sheet___init__ [.ref st.length, d, .int (W : Int)] (st ++ [.obj "Sheet" []]) q er := by
  refine ⟨rfl, ?_⟩
  show a_Sheet___init__ [.d (.ref st.length), .d d, .d (.int (W : Int)), .no, .no, .no, .no, .no, .no, .no] _ _
  unfold a_Sheet___init__
  have hw := hr.w
  have tk : ∀ x : List C, (st ++ x).take st.length = st := fun x => by simp
  simp [-List.map_map]
  refine ⟨_, len_items (hr.it _ (tk _)), by show 1 < 1000; decide, by show 2 < 1000; decide, _, hr.it _ (tk _), ?_⟩
  generalize hR : l.length = R at *
  have h3 : putD "lines" (D.ref (st.length + 1)) (putD "count" (D.int ((W : Int) + (R : Int))) (putD "wide" (D.int W) [])) = o3 W R st.length := rfl
  rw [h3, enum_get, hR]
  refine for_rngT9 (P := fun i env st' => st' = st ++ [.obj "Sheet" (o3 W R st.length), .lst (lin0 W R row i)] ∧ ∃ e3 e4 e5 e6 e7 e8 e9, env = [.d (.ref st.length), .d d, .d (.int (W : Int)), e3, e4, e5, e6, e7, e8, e9]) (fun env st' hp => ?_) (fun i env st' hi hp nx hnx => ?_) _ _ ⟨rfl, _, _, _, _, _, _, _, rfl⟩
  · obtain ⟨rfl, e3, e4, e5, e6, e7, e8, e9, rfl⟩ := hp
    refine ⟨hr.gd _ _ (tk _) (tk _), ?_⟩
    simp [-List.map_map]
    refine ⟨by omega, ?_⟩
    refine lc_of (T := fun (i : Nat) => D.int (i : Int)) (G := fun _ => .int 1) (by simp) _ (fun j hj P1 P2 hp1 => by simpa using hp1) (by simp; omega) ?_
    simp only [List.nil_append]
    refine ⟨_, hr.it _ (tk _), ?_⟩
    refine lc_all (G := fun _ => D.int 0) gdOk_of (fun x hx P1 P2 hp1 => by simpa using hp1) (by simp; omega) ?_
    have em : l.map (fun _ => D.int 0) = (List.range R).map fun _ => D.int 0 := by rw [← hR]; simp [List.map_const']
    simp only [List.nil_append]
    rw [em]
    rw [fS (fs := o3 W R st.length) (v := .ref (st.length + 1)) (by simp) rfl]
    refine ⟨_, rfl, ⟨lin0 W R row R, by simp⟩, by simp; omega, lin0 W R row R, by simp, by simp [lin0]; omega, R, ?_⟩
    rw [set1]
    refine ⟨by rw [len_items (hr.it _ (tk _)), hR], by omega, by omega, by omega, ?_⟩
    have ec : (List.range W).map (fun _ => D.int 1) ++ ((List.range R).map (fun _ => D.int 0) ++ [D.int 1, D.int 1]) = lnL (W + R + 2) (fun c => SX.cA R W row c R) := by
      refine cat3 (fun j hj => ?_) (fun i hi => ?_) ?_ ?_
      · simp [SX.cA, hj]
      · simp [SX.cA, show ¬ W + i < W by omega, hi, show ¬ R = i by omega]
      · simp [SX.cA, show ¬ W + R < W by omega]
      · simp [SX.cA, show ¬ W + R + 1 < W by omega, show ¬ W + R + 1 < W + R by omega]
    have el : lin0 W R row R ++ [D.lst ((List.range W).map (fun _ => D.int 1) ++ ((List.range R).map (fun _ => D.int 0) ++ [D.int 1, D.int 1]))] = lin0 W R row (R + 1) := by
      unfold lin0
      rw [List.range_succ, List.map_append, ec]; rfl
    rw [el]
    rw [show ((W : Int) + (R : Int) + 1).toNat - W = R + 1 by omega]
    have hl : List.length (st ++ [C.obj "Sheet" (o3 W R st.length), C.lst (lin0 W R row R)]) = st.length + 2 := by simp
    rw [hl]
    refine ⟨o3 W R st.length, by simp, by show 3 < 1000; decide, ?_⟩
    rw [set0]
    refine ⟨putD "basis" (.ref (st.length + 2)) (o3 W R st.length), by simp, by show 4 < 1000; decide, ?_⟩
    rw [set0]
    refine lc_of (T := fun (_ : Nat) => D.int 1) (G := fun _ => D.int (-1)) (by simp) _ (fun j hj P1 P2 hp1 => by simpa using hp1) (by simp; omega) ?_
    simp only [List.nil_append]
    refine ⟨by simp; omega, putD "base" (.int 1) (putD "basis" (.ref (st.length + 2)) (o3 W R st.length)), by simp, by show 5 < 1000; decide, ?_⟩
    rw [set2]
    have ez : (List.range W).map (fun _ => D.int (-1)) ++ ((List.range R).map (fun _ => D.int 0) ++ [D.int 0, D.int (-1)]) = lnL (W + R + 2) (fun c => - SX.g1 R W c) := by
      refine cat3 (fun j hj => ?_) (fun i hi => ?_) ?_ ?_
      · simp [SX.g1, hj]
      · simp [SX.g1, show ¬ W + i < W by omega, show ¬ W + i = W + R + 1 by omega]
      · simp [SX.g1, show ¬ W + R < W by omega]
      · simp [SX.g1]
    rw [ez]
    refine h _ ⟨by simp, by omega, by omega, by omega, by omega, ?_, ?_, ?_⟩
    · simp; rfl
    · simp; rfl
    · simp [basL, SX.st0]
  · obtain ⟨rfl, e3, e4, e5, e6, e7, e8, e9, rfl⟩ := hp
    refine ⟨hr.gd _ _ (tk _) (tk _), ?_⟩
    have hx : (l[i]?).getD .non = l[i]'(by omega) := by rw [List.getElem?_eq_getElem (by omega)]; rfl
    have hrow := hr.row _ (tk [.obj "Sheet" (o3 W R st.length), .lst (lin0 W R row i)]) i _ (List.getElem?_eq_getElem (by omega))
    simp [-List.map_map]
    refine ⟨_, len_items (hr.it _ (tk _)), ?_⟩
    rw [hR]
    refine ⟨by omega, ?_⟩
    refine lc_of (T := fun (j : Nat) => D.int (j : Int)) (G := fun j => D.int (if i = j then 1 else 0)) (by simp) _ (fun j hj P1 P2 hp1 => ?_) (by simp; omega) ?_
    · simp
      have e : (if (i : Int) = (j : Int) then (1 : Int) else 0) = (if i = j then 1 else 0) := by split <;> split <;> omega
      rw [e]; exact hp1
    simp only [List.nil_append]
    rw [fS (fs := o3 W R st.length) (v := .ref (st.length + 1)) (by simp) rfl]
    refine ⟨_, rfl, ⟨lin0 W R row i, by simp⟩, ?_⟩
    rw [hx]
    refine ⟨_, hrow, ?_⟩
    refine lc_of (T := fun (j : Nat) => D.int (row i j)) (G := fun j => .int (- row i j)) gdOk_of _ (fun j hj P1 P2 hp1 => by simpa using hp1) (by simp; omega) ?_
    simp only [List.nil_append]
    refine ⟨by simp; omega, lin0 W R row i, by simp, by simp [lin0]; omega, ?_⟩
    have ec : (List.range W).map (fun j => D.int (- row i j)) ++ ((List.range R).map (fun j => D.int (if i = j then 1 else 0)) ++ [D.int 0, D.int 0]) = lnL (W + R + 2) (fun c => SX.cA R W row c i) := by
      refine cat3 (fun j hj => ?_) (fun m hm => ?_) ?_ ?_
      · simp [SX.cA, hj, hi]
      · simp [SX.cA, show ¬ W + m < W by omega, hm]
      · simp [SX.cA, show ¬ W + R < W by omega, show ¬ i = R by omega]
      · simp [SX.cA, show ¬ W + R + 1 < W by omega, show ¬ W + R + 1 < W + R by omega, show ¬ i = R by omega]
    have el : lin0 W R row i ++ [D.lst ((List.range W).map (fun j => D.int (- row i j)) ++ ((List.range R).map (fun j => D.int (if i = j then 1 else 0)) ++ [D.int 0, D.int 0]))] = lin0 W R row (i + 1) := by
      unfold lin0
      rw [List.range_succ, List.map_append, ec]; rfl
    rw [set1, el]
    exact hnx _ _ ⟨rfl, _, _, _, _, _, _, _, rfl⟩
end
end LW
set_option Elab.async false
set_option linter.all false
set_option maxRecDepth 100000
set_option maxHeartbeats 2000000
namespace LW
open PySem L2 AM
/-! ### rows and goals judged -/
structure SeenL (st : S) (d : D) : Prop where
  k : okK (vw st d)
  i : ∀ l, itemsD (vw st d) = some l → l.length ≤ 1000 ∧ ∀ x ∈ l, okK (vw st x)
structure SeenR (st : S) (d : D) : Prop where
  k : okK (vw st d)
  i : ∀ l, itemsD (vw st d) = some l → l.length ≤ 1000 ∧ ∀ x ∈ l, SeenL st x
def goalB (st : S) (g : D) : Bool := intsB st g && (lenD (vw st g) != some 0)
def rowB (st : S) (g x : D) : Bool := intsB st x && (lenD (vw st x) == lenD (vw st g))
def rowsB (st : S) (d g : D) : Bool := goalB st g && (match itemsD (vw st d) with
  | none => false
  | some l => l.all fun x => rowB st g x)
section
variable {st : S} {q : Rs → S → Prop} {er : QX} {d g : D}
theorem ints_len (h : intsB st g = true) : ∃ l, itemsD (vw st g) = some l ∧ lenD (vw st g) = some l.length := by
  unfold intsB at h
  cases hv : vw st g <;> rw [hv] at h <;> first | (cases h; done) | exact ⟨_, rfl, rfl⟩
theorem check_spec (hd : SeenR st d) (hg : SeenL st g) (h1 : rowsB st d g = true → q (.d .non) st) (h2 : rowsB st d g = false → er ⟨"BadRows", none⟩ st) : m_check_rows [d, g] st q er := by
  refine ⟨rfl, ?_⟩
  show a_check_rows [.d d, .d g, .no] st _
  unfold a_check_rows
  simp [-List.map_map]
  refine are_integers_spec hg.k (fun l e => ⟨by have := (hg.i l e).1; omega, (hg.i l e).2⟩) ?_
  by_cases hi : intsB st g = true
  · obtain ⟨l, e1, e2⟩ := ints_len hi
    rw [hi]
    simp [-List.map_map]
    rw [e2]
    refine ⟨_, rfl, ?_⟩
    by_cases hz : l.length = 0
    · rw [if_pos hz]
      exact h2 (by simp [rowsB, goalB, e2, hz])
    · rw [if_neg hz]
      have hgb : goalB st g = true := by simp [goalB, hi, e2]; exact fun e => hz (by rw [e]; rfl)
      have core : ∀ l2 : List D, itemsD (vw st d) = some l2 → sForL (gdOf st d) (agName 2)
                      (sIf (aOr (aNot (aTruth (aCall m_are_integers (aCons (aVar 2) aNil) []))) (aTest (aOp oNe (aB bLen (aCons (aVar 2) aNil)) (aB bLen (aCons (aVar 1) aNil))))) (sRaise0 (Str.ofString "BadRows")) sNext)
                      l2 [A.d d, A.d g, A.no] st { nx := fun x s => q (Rs.d D.non) s, rt := q, bk := fun x x_1 => False, ct := fun x x_1 => False, er := fun e x s => er e s } := fun l2 hl2 => by
        have hrb : rowsB st d g = l2.all fun x => rowB st g x := by simp [rowsB, hgb, hl2]
        rw [hrb] at h1 h2
        refine for_ind (P := fun xs env st' => st' = st ∧ (∃ e2, env = [.d d, .d g, e2]) ∧ (∀ x ∈ xs, SeenL st x) ∧ (l2.all fun x => rowB st g x) = xs.all fun x => rowB st g x) (fun env st' hp => ?_) (fun x xs env st' hp nx hnx => ?_) _ _ _ ⟨rfl, ⟨_, rfl⟩, (hd.i _ hl2).2, rfl⟩
        · obtain ⟨rfl, ⟨e, rfl⟩, _, hall⟩ := hp
          exact ⟨gdOk_of, h1 (by rw [hall]; rfl)⟩
        · obtain ⟨rfl, ⟨e, rfl⟩, hse, hall⟩ := hp
          refine ⟨gdOk_of, ?_⟩
          have hx := hse x (by simp)
          simp [-List.map_map]
          refine are_integers_spec hx.k (fun l e => ⟨by have := (hx.i l e).1; omega, (hx.i l e).2⟩) ?_
          have next : rowB st' g x = true → ∀ e, nx [.d d, .d g, e] st' := fun hb e => hnx _ _ ⟨rfl, ⟨_, rfl⟩, fun y hy => hse y (by simp [hy]), by rw [hall]; simp [hb]⟩
          have bad : rowB st' g x = false → er ⟨"BadRows", none⟩ st' := fun hb => h2 (by rw [hall]; simp [hb])
          by_cases hxi : intsB st' x = true
          · obtain ⟨lx, f1, f2⟩ := ints_len hxi
            rw [hxi]
            simp [-List.map_map]
            rw [f2, e2]
            simp [-List.map_map]
            by_cases he : lx.length = l.length
            · rw [if_pos (by omega)]
              exact next (by simp [rowB, hxi, f2, e2, he]) _
            · rw [if_neg (by omega)]
              exact bad (by simp [rowB, hxi, f2, e2, he])
          · have hxi : intsB st' x = false := by simpa using hxi
            rw [hxi]
            simp [-List.map_map]
            exact bad (by simp [rowB, hxi])
      have hk := hd.k
      cases hv : vw st d with
      | lst l2 =>
        simp [-List.map_map]
        exact ⟨_, by rw [hv]; rfl, core l2 (by rw [hv]; rfl)⟩
      | tup l2 =>
        simp [-List.map_map]
        exact ⟨_, by rw [hv]; rfl, core l2 (by rw [hv]; rfl)⟩
      | _ => first | (rw [hv] at hk; exact hk.elim) | (simp [-List.map_map]; exact h2 (by simp [rowsB, hv, itemsD]))
  · have hi : intsB st g = false := by simpa using hi
    rw [hi]
    simp [-List.map_map]
    exact h2 (by simp [rowsB, goalB, hi])
/-! ### the greatest mean -/
def noneD (ys : List Int) : D := .tup [.str "none", .lst (ys.map .int)]
def gI (l : List Int) (j : Nat) : Int := (l[j]?).getD 0
def bestD (W : Nat) (goal : Nat → Int) (mx : List Int) (sc : Int) (am : List Int) : D := .tup [.str "best", .lst (mx.map .int), ratD (SX.sm W fun j => goal j * gI mx j) mx.sum, .int sc, .lst (am.map .int)]
theorem map_gI {l : List Int} {W : Nat} (h : l.length = W) : l.map D.int = (List.range W).map fun j => D.int (gI l j) := by
  subst h
  apply List.ext_getElem (by simp)
  intro i h1 h2
  have h1 : i < l.length := by simpa using h1
  simp [gI, List.getElem?_eq_getElem h1]
theorem low_mul (ns : List Int) : ∃ g : Int, 0 < g ∧ ns = (lowL ns).map (fun x => g * x) := by
  unfold lowL
  by_cases hz : gcdL ns = 0
  · rw [if_pos hz]
    exact ⟨1, by decide, by simp⟩
  · rw [if_neg hz]
    have : 0 ≤ gcdL ns := by unfold gcdL; omega
    refine ⟨gcdL ns, by omega, ?_⟩
    rw [List.map_map]
    conv => lhs; rw [← List.map_id ns]
    refine List.map_congr_left fun n hn => ?_
    obtain ⟨m, hm⟩ := gcdL_dvd_mem hn
    show n = gcdL ns * n.fdiv (gcdL ns)
    have e : n.fdiv (gcdL ns) = m := by
      conv => lhs; rw [hm]
      exact Int.mul_fdiv_cancel_left m hz
    rw [e]; exact hm
theorem low_len (ns : List Int) : (lowL ns).length = ns.length := by
  unfold lowL; split <;> simp
theorem sum_mul (g : Int) : ∀ l : List Int, (l.map fun x => g * x).sum = g * l.sum
  | [] => by simp
  | x :: xs => by simp [sum_mul g xs, Int.mul_add]
theorem abs_le_mul {g x : Int} (h : 0 < g) : x.natAbs ≤ (g * x).natAbs := by
  rw [Int.natAbs_mul]
  exact Nat.le_mul_of_pos_left _ (by omega)
theorem low_abs {ns : List Int} {x : Int} (h : x ∈ lowL ns) : ∃ y ∈ ns, x.natAbs ≤ y.natAbs := by
  obtain ⟨g, hg, e⟩ := low_mul ns
  refine ⟨g * x, ?_, abs_le_mul hg⟩
  rw [e]
  exact List.mem_map.mpr ⟨x, h, rfl⟩
theorem low_sum (ns : List Int) : ((lowL ns).sum = 0 → ns.sum = 0) ∧ (lowL ns).sum.natAbs ≤ ns.sum.natAbs := by
  obtain ⟨g, hg, e⟩ := low_mul ns
  have : ns.sum = g * (lowL ns).sum := by conv => lhs; rw [e, sum_mul]
  rw [this]
  exact ⟨fun z => by rw [z]; omega, abs_le_mul hg⟩
theorem sm_sum {f : Nat → Int} : ∀ n, ((List.range n).map f).sum = SX.sm n f
  | 0 => rfl
  | n + 1 => by
    rw [List.range_succ, List.map_append, List.sum_append, sm_sum n]
    show SX.sm n f + (f n + 0) = SX.sm n f + f n
    omega
theorem zip_pair (F G : Nat → Int) (n : Nat) : zipD ((List.range n).map fun j => D.int (F j)) ((List.range n).map fun j => D.int (G j)) = (List.range n).map fun j => D.tup [.int (F j), .int (G j)] := zip_map _
end
end LW
set_option Elab.async false
set_option linter.all false
set_option maxRecDepth 100000
set_option maxHeartbeats 2000000
set_option exponentiation.threshold 5000
namespace LW
open PySem L2 AM
section
variable {st : S} {q : Rs → S → Prop} {er : QX} {S0 : S} {n k kb W R : Nat} {s : SX.St} {row : Nat → Nat → Int} {g goal : Nat → Int}
theorem fct_le {m : Nat} : ∀ {n : Nat}, n ≤ m → SX.fct n ≤ m ^ n
  | 0, _ => by simp [SX.fct]
  | n + 1, h => by
    show (n + 1) * SX.fct n ≤ m ^ (n + 1)
    rw [Nat.pow_succ, Nat.mul_comm (m ^ n)]
    exact Nat.mul_le_mul h (fct_le (by omega))
theorem fb {R : Nat} (hR : R ≤ 40) : SX.fct (R + 1) * (10 ^ 6) ^ (R + 1) ≤ 2 ^ 1066 := by
  refine Nat.le_trans (Nat.mul_le_mul_right _ (fct_le (m := 41) (by omega))) ?_
  rw [← Nat.mul_pow]
  refine Nat.le_trans (Nat.pow_le_pow_left (m := 2 ^ 26) (by decide) _) ?_
  rw [← Nat.pow_mul]
  exact Nat.pow_le_pow_right (by decide) (by omega)
theorem cA_abs (hrow : ∀ i j, i < R → j < W → (row i j).natAbs ≤ 10 ^ 6) : ∀ c i, c < W + R + 2 → i < R + 1 → (SX.cA R W row c i).natAbs ≤ 10 ^ 6 := fun c i hc hi => by
  unfold SX.cA
  split
  · split
    · rw [Int.natAbs_neg]; exact hrow _ _ (by assumption) (by assumption)
    · decide
  · split <;> split <;> decide
theorem T_b (I : SX.Inv' R W row g s) (hR : R ≤ 40) (hrow : ∀ i j, i < R → j < W → (row i j).natAbs ≤ 10 ^ 6) {k c : Nat} (hk : k < R + 1) (hc : c < W + R + 2) : (s.T k c).natAbs ≤ 2 ^ 1066 :=
  Nat.le_trans (SX.T_abs I (cA_abs hrow) hk hc) (fb hR)
theorem Bd_of (I : SX.Inv' R W row g s) (hw : W + R ≤ 1000) (hR : R ≤ 40) (hrow : ∀ i j, i < R → j < W → (row i j).natAbs ≤ 10 ^ 6) (hg : ∀ c, (g c).natAbs ≤ 10 ^ 6) : Bd W R s := by
  have p : 2 ^ 1066 < 2 ^ 3000 := Nat.pow_lt_pow_right (by decide) (by decide)
  refine ⟨hw, Nat.lt_of_le_of_lt (Nat.le_trans (SX.d_abs I (cA_abs hrow)) (fb hR)) p, by have := I.dpos; omega, fun k c hk hc => Nat.lt_of_le_of_lt (T_b I hR hrow hk hc) p, fun c hc => ?_⟩
  refine Nat.lt_of_le_of_lt (SX.z_abs I (cA_abs hrow) (G := 10 ^ 6) (fun c _ => hg c) hc) ?_
  refine Nat.lt_of_le_of_lt (Nat.mul_le_mul (show R + 2 ≤ 2 ^ 6 by omega) (Nat.mul_le_mul (show 10 ^ 6 ≤ 2 ^ 20 by decide) (fb hR))) ?_
  rw [← Nat.pow_add, ← Nat.pow_add]
  exact Nat.pow_lt_pow_right (by decide) (by decide)
theorem g1_abs (c : Nat) : (SX.g1 R W c).natAbs ≤ 10 ^ 6 := by unfold SX.g1; split <;> decide
theorem g2_abs (h : ∀ j, j < W → (goal j).natAbs ≤ 10 ^ 6) (c : Nat) : (SX.g2 W goal c).natAbs ≤ 10 ^ 6 := by
  unfold SX.g2; split
  · exact h _ (by assumption)
  · decide
theorem mix_b (I : SX.Inv' R W row g s) (hR : R ≤ 40) (hrow : ∀ i j, i < R → j < W → (row i j).natAbs ≤ 10 ^ 6) : ∀ x ∈ mixI W R s, x.natAbs < 2 ^ 3000 := fun x hx => by
  obtain ⟨j, _, rfl⟩ := List.mem_map.mp hx
  refine Nat.lt_of_le_of_lt (SX.sm_abs (B := 2 ^ 1066) fun k hk => ?_) ?_
  · split
    · exact T_b I hR hrow hk (by omega)
    · exact Nat.zero_le _
  · refine Nat.lt_of_le_of_lt (Nat.mul_le_mul_right _ (show R + 1 ≤ 2 ^ 6 by omega)) ?_
    rw [← Nat.pow_add]
    exact Nat.pow_lt_pow_right (by decide) (by decide)
theorem sx_weighed {x y : D} {F G : Nat → Int} {N : Nat} (hN : N ≤ 1000) (hx : itemsD (vw st x) = some ((List.range N).map fun j => .int (F j))) (hy : itemsD (vw st y) = some ((List.range N).map fun j => .int (G j)))
    (hF : ∀ j, j < N → (F j).natAbs < 2 ^ 3000) (hG : ∀ j, j < N → (G j).natAbs < 2 ^ 3000) (h : q (.d (.int (SX.sm N fun j => F j * G j))) st) : m_weighed [x, y] st q er := by
  refine ⟨rfl, ?_⟩
  show a_weighed [.d x, .d y, .no, .no] st _
  unfold a_weighed
  simp [-List.map_map]
  rw [zipQ_of hx hy, zip_pair]
  refine lc_of (α := Nat) (G := fun j => .int (F j * G j)) (gdOk_app gdOk_of gdOk_of) _ (fun j hj P1 P2 hp1 => ?_) (by simp; omega) ?_
  · have hj := List.mem_range.mp hj
    simp [-List.map_map]
    exact ⟨cm3 (hF j hj) (hG j hj), hp1⟩
  · refine ⟨(List.range N).map fun j => F j * G j, by simp [Function.comp_def], ?_⟩
    rw [sm_sum]; exact h
/-- what greatest tells -/
structure Rows (S0 : S) (d gd : D) (l : List D) (W R : Nat) (row : Nat → Nat → Int) (goal : Nat → Int) : Prop where
  r : RowsIn S0 d l W row
  l : l.length = R
  w1 : 1 ≤ W
  R40 : R ≤ 40
  g : ∀ st' : S, st'.take S0.length = S0 → isInts st' gd ((List.range W).map goal)
  rb : ∀ i j, i < R → j < W → (row i j).natAbs ≤ 10 ^ 6
  gb : ∀ j, j < W → (goal j).natAbs ≤ 10 ^ 6
  s1 : SeenR S0 d
  s2 : SeenL S0 gd
  ok : rowsB S0 d gd = true
theorem greatest_spec {d gd : D} {l : List D} (H : Rows st d gd l W R row goal)
    (h1 : ∀ s, SX.Inv' R W row (SX.g1 R W) s → (∀ c, c < W + R → 0 ≤ s.z c) → s.z (W + R + 1) < 0 → q (.d (noneD (lowL (amI W R s)))) st)
    (h2 : ∀ s, SX.Inv' R W row (SX.g2 W goal) s → SX.Feas (R + 1) (W + R + 1) s → (∀ k, k < R + 1 → s.b k < W + R) → (∀ c, c < W + R → 0 ≤ s.z c) → ∀ sc am, lowL (s.d :: amI W R s) = sc :: am → q (.d (bestD W goal (lowL (mixI W R s)) sc am)) st) :
    m_greatest [d, gd] st q er := by
  refine ⟨rfl, fun la ls => ?_⟩
  show a_greatest [.d d, .d gd, .no, .no, .no, .no] st _
  unfold a_greatest
  simp [-List.map_map]
  refine check_spec H.s1 H.s2 (fun _ => ?_) (fun e => by rw [H.ok] at e; cases e)
  have hgl := fun st' h => H.g st' h
  have hlen : ∀ st' : S, st'.take st.length = st → lenD (vw st' gd) = some W := fun st' h => by
    have := len_items (H.g st' h)
    simpa using this
  have hw : W + R ≤ 1000 := by have := H.r.w; rw [H.l] at this; exact this
  have tk0 : st.take st.length = st := by simp
  have B1 : ∀ s, SX.Inv' R W row (SX.g1 R W) s → Bd W R s := fun s I => Bd_of I hw H.R40 H.rb g1_abs
  have B2 : ∀ s, SX.Inv' R W row (SX.g2 W goal) s → Bd W R s := fun s I => Bd_of I hw H.R40 H.rb (g2_abs H.gb)
  have p10 : (10 : Nat) ^ 6 < 2 ^ 3000 := Nat.lt_of_lt_of_le (show (10 : Nat) ^ 6 < 2 ^ 20 by decide) (Nat.pow_le_pow_right (by decide) (by decide))
  simp [-List.map_map]
  refine ⟨_, hlen st tk0, ?_⟩
  refine sh_init H.r fun st1 hs1 => ?_
  rw [H.l] at hs1
  refine ⟨rfl, isObj_S hs1.o rfl, ?_⟩
  refine runs_spec (P := fun s => ∀ k, k < R + 1 → s.b k ≤ W + R) (fun s r c hp hr hc k hk => ?_) (fun k hk => ?_) SX.st0_inv SX.st0_feas B1 hs1 fun st2 k2 s2 hp2 I2 F2 z2 hs2 => ?_
  · show SX.up s.b r c k ≤ W + R
    unfold SX.up
    split
    · omega
    · exact hp k hk
  · show W + k ≤ W + R
    omega
  simp [-List.map_map]
  rw [s_costs hs2]
  simp [-List.map_map, ln]
  refine ⟨_, atI_lnL, ?_⟩
  simp [-List.map_map]
  have ex : ∀ {st' : S} {x : D}, st'.take st.length = st → x.lt st.length → q (.d x) st → exC st.length q (.d x) st' := fun {st' x} e hx hq => by
    refine ⟨by rw [e]; exact ls, .inl ⟨hx, by rw [e]; exact hq⟩⟩
  by_cases hz : s2.z (W + R + 1) < 0
  · rw [if_pos hz]
    refine ⟨isObj_S hs2.o rfl, ?_⟩
    refine amounts_spec hs2 ?_
    simp [-List.map_map]
    refine lowest_spec (ns := amI W R s2) rfl (by simp [amI]; omega) (fun x hx => ?_) ?_
    · obtain ⟨i, hi, rfl⟩ := List.mem_map.mp hx
      have := List.mem_range.mp hi
      exact small3 ((B1 _ I2).z _ (by omega))
    · simp only [rsQ_own]
      refine ex hs2.pre ?_ (h1 s2 I2 z2 hz)
      exact ⟨trivial, ltL_int9 _, trivial⟩
  · rw [if_neg hz]
    refine ⟨isObj_S hs2.o rfl, ?_⟩
    refine settle_spec I2 F2 hp2 (by omega) H.w1 (B1 _ I2) hs2 fun st3 k3 s3 I3 F3 hb3 hs3 => ?_
    simp [-List.map_map]
    refine ⟨isObj_S hs3.o rfl, ?_⟩
    refine charge_spec (H.g _ hs3.pre) (fun j hj => Nat.lt_of_le_of_lt (H.gb j hj) p10) (B1 _ I3) hs3 fun st4 hs4 => ?_
    simp [-List.map_map]
    refine ⟨isObj_S hs4.o rfl, ?_⟩
    refine runs_spec (s := SX.charge goal W R s3) (P := fun s => ∀ k, k < R + 1 → s.b k < W + R) (fun s r c hp hr hc k hk => ?_) hb3 (SX.charge_inv I3) F3 B2 hs4 fun st5 k5 s5 hp5 I5 F5 z5 hs5 => ?_
    · show SX.up s.b r c k < W + R
      unfold SX.up
      split
      · omega
      · exact hp k hk
    simp [-List.map_map]
    rw [s_base hs5]
    refine ⟨isObj_S hs5.o rfl, ?_⟩
    refine amounts_spec hs5 ?_
    simp [-List.map_map]
    refine ⟨by simp [amI]; omega, ?_⟩
    refine lowest_spec (ns := s5.d :: amI W R s5) rfl (by simp [amI]; omega) (fun x hx => ?_) ?_
    · rcases List.mem_cons.mp hx with rfl | hx
      · exact small3 (B2 _ I5).d
      · obtain ⟨i, hi, rfl⟩ := List.mem_map.mp hx
        have := List.mem_range.mp hi
        exact small3 ((B2 _ I5).z _ (by omega))
    rw [rsQ_own]
    cases hl : lowL (s5.d :: amI W R s5) with
    | nil =>
      have := low_len (s5.d :: amI W R s5)
      rw [hl] at this
      simp at this
    | cons sc am =>
      simp [-List.map_map]
      refine ⟨isObj_S hs5.o rfl, ?_⟩
      have hml : (lowL (mixI W R s5)).length = W := by rw [low_len]; simp [mixI]
      have hmb := mix_b I5 H.R40 H.rb
      refine mix_spec (fun i j hi hj e => SX.b_inj I5 hi hj e) (B2 _ I5) (fun x hx => small3 (hmb x hx)) hs5 ?_
      simp [-List.map_map]
      refine sx_weighed (N := W) (F := goal) (G := gI (lowL (mixI W R s5))) (by omega) ?_ ?_ (fun j hj => Nat.lt_of_le_of_lt (H.gb j hj) p10) (fun j hj => ?_) ?_
      · have := H.g _ hs5.pre
        unfold isInts at this
        simpa [Function.comp_def] using this
      · exact congrArg some (map_gI hml)
      · have e : gI (lowL (mixI W R s5)) j = (lowL (mixI W R s5))[j]'(by omega) := by unfold gI; rw [List.getElem?_eq_getElem (by omega)]; rfl
        rw [e]
        obtain ⟨y, hy, hle⟩ := low_abs (List.getElem_mem (l := lowL (mixI W R s5)) (by omega : j < _))
        exact Nat.lt_of_le_of_lt hle (hmb y hy)
      simp [-List.map_map]
      refine ⟨_, rfl, ?_⟩
      have et : (mixI W R s5).sum = s5.d := by
        unfold mixI
        rw [sm_sum]
        exact SX.mix_total I5 hp5
      obtain ⟨q1, q2⟩ := low_sum (mixI W R s5)
      rw [et] at q1 q2
      have hd := I5.dpos
      refine ratio_spec (fun e => by have := q1 e; omega) (Nat.lt_of_le_of_lt q2 (small3 (B2 _ I5).d)) ?_
      simp [-List.map_map]
      refine ex hs5.pre ?_ (h2 s5 I5 F5 hp5 z5 sc am hl)
      exact ⟨trivial, ltL_int9 _, ⟨trivial, trivial, trivial⟩, trivial, ltL_int9 _, trivial⟩
end
end LW
set_option Elab.async false
set_option linter.all false
set_option maxRecDepth 100000
set_option maxHeartbeats 2000000
namespace LW
open PySem L2 AM
section
variable {st : S} {q : Rs → S → Prop} {er : QX} {d e : D}
theorem cml {a b : Int} (ha : a.natAbs < 2 ^ 100) (hb : b.natAbs < 2 ^ 100) : CMulW a b := cmul_small (Nat.lt_of_lt_of_le ha (Nat.pow_le_pow_right (by decide) (by decide))) (Nat.lt_of_lt_of_le hb (Nat.pow_le_pow_right (by decide) (by decide)))
theorem sm100 {k : Int} {B : Nat} (h : k.natAbs ≤ B) (hB : B < 2 ^ 100) : k.natAbs < 2 ^ 8000 := Nat.lt_of_le_of_lt h (Nat.lt_of_lt_of_le hB (Nat.pow_le_pow_right (by decide) (by decide)))
theorem integers_spec {n m most cnt : Nat} {sc : List Int} (hn : st[n]? = some (.pool m sc)) (hm : m + 100 < 10 ^ 6) (hc : cnt ≤ 16) (hmost : most ≤ 1000)
    (h : ∀ (r : List Int) (m' : Nat), r.length = cnt → (∀ i ∈ r, i.natAbs ≤ most) → m ≤ m' → m' ≤ m + cnt → q (.own (iD r)) (st.set n (.pool m' sc))) : m__law_integers [.ref n, .int cnt, .int most] st q er := by
  refine ⟨rfl, ?_⟩
  show a__law_integers [.d (.ref n), .d (.int cnt), .d (.int most), .no] st _
  unfold a__law_integers
  have ebd : st.set n (.pool m sc) = st := by
    apply List.ext_getElem?
    intro j
    by_cases hj : n = j
    · subst hj; rw [List.getElem?_set_self (List.getElem?_eq_some_iff.mp hn).1, hn]
    · rw [List.getElem?_set_ne hj]
  simp [-List.map_map]
  refine And.intro (by omega) ?_
  refine lc_ind (P := fun xs acc s => ∃ (r : List Int) (m' : Nat), acc = iD r ∧ s = st.set n (.pool m' sc) ∧ r.length + xs.length = cnt ∧ (∀ i ∈ r, i.natAbs ≤ most) ∧ m ≤ m' ∧ m' + xs.length ≤ m + cnt) ?_ ?_ _ _ _ ⟨[], m, rfl, ebd.symm, by simp, by simp, by omega, by simp⟩
  · rintro acc s ⟨r, m', rfl, rfl, h1, h2, h3, h4⟩
    simp at h1 h4
    exact ⟨by simp, h r m' h1 h2 h3 h4⟩
  · rintro x xs acc s ⟨r, m', rfl, rfl, h1, h2, h3, h4⟩ P1 P2 hp _
    simp at h1 h4
    refine ⟨by simp, by simp; omega, ?_⟩
    simp
    refine ⟨cml (by decide) (Nat.lt_of_le_of_lt (m := 1000) (by omega) (by decide)), ?_⟩
    refine take_spec (set_get hn) (by omega) (Nat.lt_of_le_of_lt (m := 3000) (by omega) (Nat.lt_of_lt_of_le (m := 2 ^ 100) (by decide) (Nat.pow_le_pow_right (by decide) (by decide)))) (by omega) fun y m2 y0 y1 h5 h6 => ?_
    refine hp _ _ ⟨r ++ [y - most], m2, by simp, by simp, by simp; omega, fun i hi => ?_, by omega, by omega⟩
    rcases List.mem_append.mp hi with hi | hi
    · exact h2 i hi
    · have : i = y - most := by simpa using hi
      omega
/-! ### rows and a goal -/
def S54 (st : S) (n m : Nat) (ns : List Int) (rws : List (List Int)) : S := st.set n (.pool m ns) ++ [C.lst (rws.map rL)]
structure Rw (W i : Nat) (r : List Int) : Prop where
  l : r.length = W
  b : ∀ x ∈ r, x.natAbs ≤ 1000 * 2 ^ i
structure Rws (W : Nat) (rws : List (List Int)) : Prop where
  each : ∀ i r, rws[i]? = some r → Rw W i r
theorem Rws.snoc {W : Nat} {rws : List (List Int)} (h : Rws W rws) {r : List Int} (hr : Rw W rws.length r) : Rws W (rws ++ [r]) := ⟨fun i x hx => by
  rcases Nat.lt_or_ge i rws.length with hi | hi
  · rw [List.getElem?_append_left hi] at hx; exact h.each i x hx
  · rw [List.getElem?_append_right hi] at hx
    obtain ⟨h0, _⟩ := List.getElem?_eq_some_iff.mp hx
    have h0 : i = rws.length := by simp at h0; omega
    subst h0
    have : r = x := by simpa using hx
    subst this
    exact hr⟩
theorem S54_pool {n m : Nat} {ns : List Int} {rws : List (List Int)} (hn : n < st.length) : (S54 st n m ns rws)[n]? = some (.pool m ns) := by
  unfold S54
  rw [List.getElem?_append_left (by simpa using hn)]
  exact List.getElem?_set_self hn
theorem S54_set {n m m2 : Nat} {ns : List Int} {rws : List (List Int)} (hn : n < st.length) : List.set (S54 st n m ns rws) n (.pool m2 ns) = S54 st n m2 ns rws := by
  unfold S54
  show List.set (List.set st n (.pool m ns) ++ [C.lst (rws.map rL)]) n (.pool m2 ns) = List.set st n (.pool m2 ns) ++ [C.lst (rws.map rL)]
  rw [List.set_append_left _ _ (by simpa using hn), List.set_set]
theorem S54_cell {n m : Nat} {ns : List Int} {rws : List (List Int)} : (S54 st n m ns rws)[st.length]? = some (.lst (rws.map rL)) := by
  unfold S54
  rw [List.getElem?_append_right (by simp)]
  simp
theorem S54_put {n m : Nat} {ns : List Int} {rws rws2 : List (List Int)} : List.set (S54 st n m ns rws) st.length (.lst (rws2.map rL)) = S54 st n m ns rws2 := by
  unfold S54
  show List.set (List.set st n (.pool m ns) ++ [C.lst (rws.map rL)]) st.length (.lst (rws2.map rL)) = List.set st n (.pool m ns) ++ [C.lst (rws2.map rL)]
  rw [List.set_append_right _ _ (by simp)]
  simp
theorem at_get {α : Type} {l : List α} {k : Nat} {x : α} (h : l[k]? = some x) : atI l (k : Int) = some x := by
  obtain ⟨h1, h2⟩ := List.getElem?_eq_some_iff.mp h
  rw [at_nat h1, h2]
theorem at_gI {l : List Int} {k : Nat} (h : k < l.length) : atI (iD l) (k : Int) = some (.int (gI l k)) := at_get (by unfold gI; simp [List.getElem?_eq_getElem h])
theorem gI_mem {l : List Int} {k : Nat} (h : k < l.length) : gI l k ∈ l := by
  unfold gI
  rw [List.getElem?_eq_getElem h]
  exact List.getElem_mem h
theorem ne_nil9 {l : List D} {q : D → Prop} (h : (D.lst l).shp) : oNe (.lst l) (.lst []) q = q (.bl (!l.isEmpty)) := by
  unfold oNe
  have h0 : (D.lst []).shp := ⟨rfl, by decide⟩
  rw [D.eqv]
  have : D.eqvs l [] = l.isEmpty := by cases l <;> simp [D.eqvs]
  rw [this]
  simp [h, h0]
theorem goal_rows_spec {n m mr mc : Nat} {ns : List Int} (hn : st[n]? = some (.pool m ns)) (hm : m < 1000) (hmr : mr ≤ 8) (hmc1 : 1 ≤ mc) (hmc : mc ≤ 8)
    (h : ∀ (W : Nat) (rws : List (List Int)) (g : List Int) (m' : Nat), 1 ≤ W → W ≤ mc → rws.length ≤ mr → Rws W rws → Rw W 0 g → m' ≤ m + 300 → q (.own [.lst (rws.map rL), rL g]) (st.set n (.pool m' ns))) : m__law_goal_rows [.ref n, .int mr, .int mc] st q er := by
  refine ⟨rfl, fun la ls => ?_⟩
  show a__law_goal_rows [.d (.ref n), .d (.int mr), .d (.int mc), .no, .no, .no, .no, .no, .no, .no, .no] st _
  unfold a__law_goal_rows
  have hnl : n < st.length := (List.getElem?_eq_some_iff.mp hn).1
  simp [-List.map_map]
  refine take_spec (k := 3) hn (by decide) (sm100 (B := 3) (by decide) (by decide)) (by omega) fun x m1 x0 x1 a1 a2 => ?_
  simp [-List.map_map]
  have hat : ∃ lg : Nat, atI [D.int 2, .int 9, .int 1000] x = some (.int (lg : Int)) ∧ lg ≤ 1000 := by
    have : x = 0 ∨ x = 1 ∨ x = 2 := by omega
    rcases this with rfl | rfl | rfl
    · exact ⟨2, rfl, by omega⟩
    · exact ⟨9, rfl, by omega⟩
    · exact ⟨1000, rfl, by omega⟩
  obtain ⟨lg, hlg, hlg2⟩ := hat
  refine ⟨_, hlg, ?_⟩
  refine take_spec (k := mc) (set_get hn) (by omega) (sm100 (B := 8) (by omega) (by decide)) (by omega) fun w m2 w0 w1 b1 b2 => ?_
  obtain ⟨W0, rfl⟩ : ∃ W0 : Nat, w = W0 := ⟨w.toNat, by omega⟩
  simp [-List.map_map]
  obtain ⟨W, hW⟩ : ∃ W : Nat, W = 1 + W0 := ⟨_, rfl⟩
  have eW : (1 : Int) + (W0 : Int) = (W : Int) := by omega
  rw [eW]
  refine take_spec (k := (mr : Int) + 1) (S54_pool (rws := []) hnl) (by omega) (sm100 (B := 9) (by omega) (by decide)) (by omega) fun c m3 c0 c1 d1 d2 => ?_
  have eS : List.set (st.set n (.pool m2 ns) ++ [C.lst []]) n (.pool m3 ns) = S54 st n m3 ns [] := S54_set (rws := []) hnl
  obtain ⟨c, rfl⟩ : ∃ cc : Nat, c = cc := ⟨c.toNat, by omega⟩
  simp [-List.map_map]
  refine ⟨by omega, ?_⟩
  refine for_rng (N := c) (P := fun i env s => ∃ (m' : Nat) (rws : List (List Int)) (e6 e7 e8 e9 e10 : A), s = S54 st n m' ns rws ∧ env = [.d (.ref n), .d (.int mr), .d (.int mc), .d (.int lg), .d (.int W), .d (.ref st.length), e6, e7, e8, e9, e10] ∧ rws.length = i ∧ Rws W rws ∧ m' ≤ m + 3 + i * 20) ?_ ?_ _ _ ⟨m3, [], _, _, _, _, _, by first | exact eS | simpa using eS, rfl, rfl, ⟨fun i r h => by simp at h⟩, by omega⟩
  · rintro env s ⟨m', rws, e6, e7, e8, e9, e10, rfl, rfl, hl, hR, hm'⟩
    refine ⟨by simp, ?_⟩
    simp [-List.map_map]
    refine ⟨_, S54_cell, ?_⟩
    have him : c * 20 ≤ 8 * 20 := Nat.mul_le_mul_right _ (by omega)
    have eD : ∀ m', List.set (S54 st n m' ns rws) st.length .dead = st.set n (.pool m' ns) ++ [C.dead] := fun m' => by
      unfold S54
      show List.set (List.set st n (.pool m' ns) ++ [C.lst (rws.map rL)]) st.length .dead = List.set st n (.pool m' ns) ++ [C.dead]
      rw [List.set_append_right _ _ (by simp)]
      simp
    rw [eD]
    refine integers_spec (sc := ns) (m := m') (by show (List.set st n (.pool m' ns) ++ [C.dead])[n]? = _; rw [List.getElem?_append_left (by simpa using hnl)]; exact List.getElem?_set_self hnl) (by omega) (by omega) hlg2 fun r m4 hrl hrb h1 h2 => ?_
    have eE : List.set (st.set n (.pool m' ns) ++ [C.dead]) n (.pool m4 ns) = st.set n (.pool m4 ns) ++ [C.dead] := by
      show List.set (List.set st n (.pool m' ns) ++ [C.dead]) n (.pool m4 ns) = List.set st n (.pool m4 ns) ++ [C.dead]
      rw [List.set_append_left _ _ (by simpa using hnl), List.set_set]
    rw [eE, rsQ_own]
    have eT : List.take st.length (st.set n (.pool m4 ns) ++ [C.dead]) = st.set n (.pool m4 ns) := by
      rw [List.take_append_of_le_length (by simp), List.take_of_length_le (by simp)]
    refine ⟨?_, .inl ⟨⟨lt_rows, ltL_int9 _, trivial⟩, ?_⟩⟩
    · rw [eT]
      intro x hx
      rcases List.mem_or_eq_of_mem_set hx with h' | rfl
      · exact ls _ h'
      · trivial
    · rw [eT]
      exact h W rws r m4 (by omega) (by omega) (by omega) hR ⟨hrl, fun x hx => by have := hrb x hx; omega⟩ (by omega)
  · rintro i env s hi ⟨m', rws, e6, e7, e8, e9, e10, rfl, rfl, hl, hR, hm'⟩ nx hnx
    refine ⟨by simp, ?_⟩
    simp [-List.map_map]
    have him : i * 20 ≤ 8 * 20 := Nat.mul_le_mul_right _ (by omega)
    refine integers_spec (S54_pool hnl) (by omega) (by omega) hlg2 fun r m4 hrl hrb h1 h2 => ?_
    rw [S54_set hnl]
    simp [-List.map_map]
    refine take_spec (k := 8) (S54_pool hnl) (by decide) (sm100 (B := 8) (by decide) (by decide)) (by omega) fun y m5 y0 y1 h3 h4 => ?_
    rw [S54_set hnl]
    simp [-List.map_map]
    have r0 : Rw W rws.length r := ⟨hrl, fun x hx => by
      have := hrb x hx
      have : 1 ≤ 2 ^ rws.length := Nat.one_le_two_pow
      omega⟩
    have fin : ∀ r, Rw W rws.length r → ∀ e6 e8 e9 e10, nx [.d (.ref n), .d (.int mr), .d (.int mc), .d (.int lg), .d (.int W), .d (.ref st.length), e6, .d (rL r), e8, e9, e10] (S54 st n m5 ns (rws ++ [r])) := fun r hr e6 e8 e9 e10 =>
      hnx _ _ ⟨m5, rws ++ [r], _, _, _, _, _, rfl, rfl, by simp [hl], hR.snoc hr, by rw [Nat.add_mul]; omega⟩
    have app : ∀ r, Rw W rws.length r → ∀ e6 e8 e9 e10, (∃ x, (S54 st n m5 ns rws)[st.length]? = some (C.lst x)) ∧ ∃ l, (S54 st n m5 ns rws)[st.length]? = some (C.lst l) ∧ l.length < 100000 ∧
        nx [.d (.ref n), .d (.int mr), .d (.int mc), .d (.int lg), .d (.int W), .d (.ref st.length), e6, .d (.lst (iD r)), e8, e9, e10] (List.set (S54 st n m5 ns rws) st.length (C.lst (l ++ [D.lst (iD r)]))) := fun r hr e6 e8 e9 e10 => by
      refine ⟨⟨_, S54_cell⟩, _, S54_cell, by simp; omega, ?_⟩
      rw [show rws.map rL ++ [D.lst (iD r)] = (rws ++ [r]).map rL by simp, S54_put]
      exact fin r hr _ _ _ _
    by_cases y0 : y = 0
    · subst y0
      rw [if_pos rfl, vw_ref S54_cell, ne_nil9 shp_rows]
      cases hrw : rws with
      | nil =>
        have := app r r0 (.d (.int i)) (.d (.int 0)) e9 e10
        rw [hrw] at this
        simpa [-List.map_map] using this
      | cons ra rs =>
        rw [← hrw]
        have hra : rws[0]? = some ra := by rw [hrw]; rfl
        have hne : (rws.map rL).isEmpty = false := by rw [hrw]; rfl
        have ha := hR.each 0 ra hra
        have hlen0 : 0 < rws.length := by rw [hrw]; simp
        rw [hne]
        simp [-List.map_map]
        rw [vw_ref S54_cell]
        refine ⟨rL ra, at_get (k := 0) (by rw [List.getElem?_map, hra]; rfl), ?_⟩
        simp [-List.map_map]
        refine lc_of (T := D.int) (G := fun x => .int (-x)) (by first | exact gdOk_of | simp) ra (fun x hx P1 P2 hp1 => by simpa using hp1) (by have := ha.l; simp; omega) ?_
        have hn : Rw W rws.length (ra.map fun x => -x) := ⟨by simp [ha.l], fun x hx => by
          obtain ⟨y, hy, rfl⟩ := List.mem_map.mp hx
          have := ha.b y hy
          have : 1 ≤ 2 ^ rws.length := Nat.one_le_two_pow
          rw [Int.natAbs_neg]
          omega⟩
        have := app _ hn (.d (.int i)) (.d (.int 0)) e9 e10
        rw [show iD (ra.map fun x => -x) = ra.map fun x => D.int (-x) by simp [Function.comp_def]] at this
        simpa [-List.map_map] using this
    · rw [if_neg y0]
      by_cases y1 : y = 1
      · subst y1
        rw [if_pos rfl]
        rw [vw_ref S54_cell]
        refine ⟨_, rfl, ?_⟩
        by_cases h2 : 1 < (((rws.map rL).length : Nat) : Int)
        · rw [if_pos h2]
          have h2 : 1 < rws.length := by simp at h2; omega
          have ha := hR.each 0 rws[0] (List.getElem?_eq_getElem (by omega))
          have hb := hR.each 1 rws[1] (List.getElem?_eq_getElem h2)
          refine ⟨by omega, ?_⟩
          refine lc_of (T := fun (j : Nat) => D.int (j : Int)) (G := fun j => .int (gI rws[0] j - gI rws[1] j)) (by simp) _ (fun j hj P1 P2 hp1 => ?_) (by simp; omega) ?_
          · have hj := List.mem_range.mp hj
            simp [-List.map_map]
            rw [vw_ref S54_cell]
            refine ⟨rL rws[0], at_get (k := 0) (by rw [List.getElem?_map, List.getElem?_eq_getElem (by omega)]; rfl), ?_⟩
            simp [-List.map_map]
            refine ⟨_, at_gI (by rw [ha.l]; exact hj), ?_⟩
            simp [-List.map_map]
            refine ⟨rL rws[1], at_get (k := 1) (by rw [List.getElem?_map, List.getElem?_eq_getElem h2]; rfl), ?_⟩
            simp [-List.map_map]
            refine ⟨_, at_gI (by rw [hb.l]; exact hj), ?_⟩
            simp [-List.map_map]
            exact hp1
          · have hn : Rw W rws.length ((List.range W).map fun j => gI rws[0] j - gI rws[1] j) := ⟨by simp, fun x hx => by
              obtain ⟨j, hj, rfl⟩ := List.mem_map.mp hx
              have hj := List.mem_range.mp hj
              have f1 : (gI rws[0] j).natAbs ≤ 1000 * 2 ^ 0 := ha.b _ (gI_mem (by rw [ha.l]; exact hj))
              have f2 : (gI rws[1] j).natAbs ≤ 1000 * 2 ^ 1 := hb.b _ (gI_mem (by rw [hb.l]; exact hj))
              have : 2 ^ 2 ≤ 2 ^ rws.length := Nat.pow_le_pow_right (by decide) h2
              omega⟩
            have := app _ hn (.d (.int i)) (.d (.int 1)) e9 e10
            rw [show iD ((List.range W).map fun j => gI rws[0] j - gI rws[1] j) = (List.range W).map fun j => D.int (gI rws[0] j - gI rws[1] j) by simp [Function.comp_def]] at this
            simpa [-List.map_map] using this
        · rw [if_neg h2]
          simpa [-List.map_map] using app r r0 (.d (.int i)) (.d (.int 1)) e9 e10
      · rw [if_neg y1]
        by_cases y2 : y = 2
        · rw [if_pos y2]
          refine lc_of (T := D.int) (G := fun x => .int (-(x.natAbs : Int))) (by first | exact gdOk_of | simp) r (fun x hx P1 P2 hp1 => ?_) (by simp; omega) ?_
          · simp [abs_int]
            simpa using hp1
          · have hn : Rw W rws.length (r.map fun x => -(x.natAbs : Int)) := ⟨by simp [hrl], fun x hx => by
              obtain ⟨y, hy, rfl⟩ := List.mem_map.mp hx
              have := r0.b y hy
              omega⟩
            have := app _ hn (.d (.int i)) (.d (.int y)) e9 e10
            rw [show iD (r.map fun x => -(x.natAbs : Int)) = r.map fun x => D.int (-(x.natAbs : Int)) by simp [Function.comp_def]] at this
            simpa [-List.map_map] using this
        · rw [if_neg y2]
          exact app r r0 (.d (.int i)) (.d (.int y)) e9 e10
end
end LW
set_option Elab.async false
set_option linter.all false
set_option maxRecDepth 100000
set_option maxHeartbeats 2000000
namespace LW
open PySem L2 AM
/-! ### flat rows -/
structure Fl (x : D) : Prop where
  k : okK x
  i : ∀ l, itemsD x = some l → l.length ≤ 100 ∧ ∀ y ∈ l, okK y ∧ ∀ i, y = .int i → i.natAbs ≤ 10 ^ 6
structure FlR (d : D) : Prop where
  k : okK d
  i : ∀ l, itemsD d = some l → l.length ≤ 20 ∧ ∀ x ∈ l, Fl x
def intsP (x : D) : Bool := match itemsD x with
  | none => false
  | some l => l.all isIntB
def rowsP (d g : D) : Bool := (intsP g && (lenD g != some 0)) && (match itemsD d with
  | none => false
  | some l => l.all fun x => intsP x && (lenD x == lenD g))
section
variable {st : S} {q : Rs → S → Prop} {er : QX} {d g : D}
theorem Fl.seen {x : D} (h : Fl x) : SeenL st x := ⟨by rw [vw_okK h.k]; exact h.k, fun l e => by
  rw [vw_okK h.k] at e
  obtain ⟨h1, h2⟩ := h.i l e
  exact ⟨by omega, fun y hy => by rw [vw_okK (h2 y hy).1]; exact (h2 y hy).1⟩⟩
theorem FlR.seen (h : FlR d) : SeenR st d := ⟨by rw [vw_okK h.k]; exact h.k, fun l e => by
  rw [vw_okK h.k] at e
  obtain ⟨h1, h2⟩ := h.i l e
  exact ⟨by omega, fun y hy => (h2 y hy).seen⟩⟩
theorem all_congr9 {α : Type} {f g : α → Bool} : ∀ {l : List α}, (∀ x ∈ l, f x = g x) → l.all f = l.all g
  | [], _ => rfl
  | x :: xs, h => by rw [List.all_cons, List.all_cons, h x (by simp), all_congr9 fun y hy => h y (by simp [hy])]
theorem ints_P {x : D} (h : Fl x) : intsB st x = intsP x := by
  unfold intsB intsP
  rw [vw_okK h.k]
  cases x with
  | lst l => exact all_congr9 fun y hy => by rw [vw_okK ((h.i l rfl).2 y hy).1]
  | tup l => exact all_congr9 fun y hy => by rw [vw_okK ((h.i l rfl).2 y hy).1]
  | _ => rfl
theorem rows_P (hd : FlR d) (hg : Fl g) : rowsB st d g = rowsP d g := by
  unfold rowsB rowsP goalB
  rw [ints_P hg, vw_okK hg.k, vw_okK hd.k]
  cases hi : itemsD d with
  | none => rfl
  | some l =>
    simp only
    congr 1
    refine all_congr9 fun x hx => ?_
    have hx := (hd.i l hi).2 x hx
    unfold rowB
    rw [ints_P hx, vw_okK hx.k, vw_okK hg.k]
def vI : D → Int
  | .int i => i
  | _ => 0
theorem ints_of {x : D} (h : intsP x = true) : ∃ ns : List Int, itemsD x = some (ns.map .int) ∧ lenD x = some ns.length := by
  unfold intsP at h
  cases hi : itemsD x with
  | none => rw [hi] at h; cases h
  | some l =>
    rw [hi] at h
    have e : l = (l.map vI).map .int := by
      rw [List.map_map]
      conv => lhs; rw [← List.map_id l]
      refine List.map_congr_left fun y hy => ?_
      have := List.all_eq_true.mp h y hy
      cases y <;> first | rfl | cases this
    refine ⟨l.map vI, by rw [← e], ?_⟩
    rw [len_items hi]; simp
/-- sound rows and a sound goal, as greatest asks for -/
theorem rows_of (hd : FlR d) (hg : Fl g) (h : rowsP d g = true) : ∃ l W R row goal, Rows st d g l W R row goal := by
  have h0 := h
  unfold rowsP at h
  rw [Bool.and_eq_true, Bool.and_eq_true] at h
  obtain ⟨⟨h1, h2⟩, h3⟩ := h
  obtain ⟨gs, hgs, hgl⟩ := ints_of h1
  cases hi : itemsD d with
  | none => rw [hi] at h3; cases h3
  | some l =>
    rw [hi] at h3
    have hall := List.all_eq_true.mp h3
    have each : ∀ i x, l[i]? = some x → ∃ ns : List Int, itemsD x = some (ns.map .int) ∧ ns.length = gs.length ∧ Fl x := fun i x hx => by
      have hm := List.mem_of_getElem? hx
      have := hall x hm
      rw [Bool.and_eq_true] at this
      obtain ⟨ns, e1, e2⟩ := ints_of this.1
      refine ⟨ns, e1, ?_, (hd.i l hi).2 x hm⟩
      have h4 := this.2
      rw [e2, hgl] at h4
      simpa using h4
    have hW : gs.length ≤ 100 := by have := (hg.i _ hgs).1; simpa using this
    refine ⟨l, gs.length, l.length, fun i j => gI (((l[i]?.bind itemsD).getD []).map vI) j, gI gs, ⟨⟨fun st' _ => by rw [vw_okK hd.k]; exact hi, fun s1 s2 _ _ => ?_, fun st' _ i x hx => ?_, by have := (hd.i l hi).1; omega⟩, rfl, ?_, by have := (hd.i l hi).1; omega, fun st' _ => ?_, fun i j hi' hj => ?_, fun j hj => ?_, hd.seen, hg.seen, by rw [rows_P hd hg]; exact h0⟩⟩
    · have hk := hd.k
      cases d <;> first | exact hk.elim | simp [gdOf]
    · obtain ⟨ns, e1, e2, fx⟩ := each i x hx
      rw [vw_okK fx.k, e1]
      have : (((l[i]?.bind itemsD).getD []).map vI) = ns := by
        rw [hx]
        show (((itemsD x)).getD []).map vI = ns
        rw [e1]
        show (ns.map .int).map vI = ns
        rw [List.map_map]
        exact List.map_id'' (fun _ => rfl) ns
      simp only [this]
      exact congrArg some (map_gI e2)
    · have : gs.length ≠ 0 := fun e => by rw [hgl, e] at h2; simp at h2
      omega
    · unfold isInts
      rw [vw_okK hg.k, hgs]
      have := map_gI (l := gs) rfl
      rw [this]; simp [Function.comp_def]
    · obtain ⟨ns, e1, e2, fx⟩ := each i _ (List.getElem?_eq_getElem hi')
      have : (((l[i]?.bind itemsD).getD []).map vI) = ns := by
        rw [List.getElem?_eq_getElem hi']
        show (((itemsD l[i])).getD []).map vI = ns
        rw [e1]
        show (ns.map .int).map vI = ns
        rw [List.map_map]
        exact List.map_id'' (fun _ => rfl) ns
      simp only [this]
      exact ((fx.i _ e1).2 (.int (gI ns j)) (List.mem_map_of_mem (gI_mem (by omega)))).2 _ rfl
    · exact ((hg.i _ hgs).2 (.int (gI gs j)) (List.mem_map_of_mem (gI_mem hj))).2 _ rfl
theorem greatest_bad (hd : SeenR st d) (hg : SeenL st g) (h : rowsB st d g = false) (he : er ⟨"BadRows", none⟩ st) : m_greatest [d, g] st q er := by
  refine ⟨rfl, fun la ls => ?_⟩
  show a_greatest [.d d, .d g, .no, .no, .no, .no] st _
  unfold a_greatest
  simp [-List.map_map]
  refine check_spec hd hg (fun e => by rw [h] at e; cases e) (fun _ => ?_)
  have e : st.take st.length = st := by simp
  rw [e]
  exact ⟨trivial, ls, he⟩
theorem refused0 (hd : FlR d) (hg : Fl g) (h : q (.d (.bl (!rowsP d g))) st) : m__law_refused [d, g, .int 0] st q er := by
  refine ⟨rfl, ?_⟩
  show a__law_refused [.d d, .d g, .d (.int 0)] st _
  unfold a__law_refused sTryOnly
  simp [-List.map_map]
  cases hb : rowsP d g with
  | true =>
    rw [hb] at h
    obtain ⟨l, W, R, row, goal, H⟩ := rows_of (st := st) hd hg hb
    refine greatest_spec H (fun s I z t => ?_) (fun s I F hb z sc am hl => ?_) <;> simpa using h
  | false =>
    rw [hb] at h
    refine greatest_bad hd.seen hg.seen (by rw [rows_P hd hg]; exact hb) ?_
    exact ⟨true, rfl, fun _ => by simpa using h, fun z => by cases z⟩
theorem are_amounts_spec {l : List D} (hl : itemsD (vw st d) = some l) (h : q (.d (.bl (decide (l.length = 1)))) st) : m_are_amounts [d, .lst [.int 1]] st q er := by
  refine ⟨rfl, ?_⟩
  show a_are_amounts [.d d, .d (.lst [.int 1]), .no] st _
  unfold a_are_amounts
  simp [-List.map_map]
  refine ⟨_, len_items hl, ?_⟩
  by_cases hz : l.length = 1
  · rw [if_pos (by omega)]
    rw [decide_eq_true hz] at h
    refine lc_of (α := Int) (T := D.int) (G := fun _ => .bl true) (by simp) [1] (fun x hx P1 P2 hp1 => ?_) (by simp) ?_
    · have : x = 1 := by simpa using hx
      subst this
      simpa using hp1
    · exact ⟨[true], rfl, h⟩
  · rw [if_neg (by omega)]
    rw [decide_eq_false hz] at h
    exact h
theorem added_spec {x : D} {W : Nat} {f : Nat → Int} (hW : W ≤ 1000) (hl : itemsD (vw st d) = some [x]) (hx : itemsD (vw st x) = some ((List.range W).map fun j => .int (f j))) (hf : ∀ j, j < W → (f j).natAbs ≤ 10 ^ 6) (h : ∀ f', q (.d (ln W f')) st) : m_added [d, .lst [.int 1], .int (W : Int)] st q er := by
  refine ⟨rfl, ?_⟩
  show a_added [.d d, .d (.lst [.int 1]), .d (.int (W : Int)), .no, .no, .no, .no, .no, .no] st _
  unfold a_added
  simp [-List.map_map]
  refine ⟨by omega, ?_⟩
  refine lc_of (T := fun (i : Nat) => D.int (i : Int)) (G := fun _ => .int 0) (by simp) _ (fun j hj P1 P2 hp1 => by simpa using hp1) (by simp; omega) ?_
  rw [zipQ_of hl rfl]
  have eg : gdOk (gdOf st d ++ gdOf st (D.lst [D.int 1])) st := gdOk_app gdOk_of gdOk_of
  show sForL _ _ _ [D.tup [x, D.int 1]] _ _ _
  rw [for_cons]
  refine ⟨eg, ?_⟩
  simp [-List.map_map]
  rw [zipQ_of (xs := (List.range W).map fun _ => D.int 0) rfl hx, zip_map]
  refine lc_of (α := Nat) (G := fun j => .int (0 + 1 * f j)) (gdOk_app gdOk_of gdOk_of) _ (fun j hj P1 P2 hp1 => ?_) (by simp; omega) ?_
  · have hj := List.mem_range.mp hj
    simp [-List.map_map]
    refine ⟨cml (by decide) (Nat.lt_of_le_of_lt (hf j hj) (by decide)), ?_⟩
    simpa using hp1
  · rw [for_nil]
    refine ⟨gdOk_of, ?_⟩
    simp [-List.map_map]
    simpa [ln, lnL] using h (fun j => 0 + 1 * f j)
theorem none_eq {q : D → Prop} : oEq (.str (Str.ofString "none")) (.str (Str.ofString "none")) q = q (.bl true) := by
  have hs : (D.str (Str.ofString "none")).shp := ⟨by show PyData.strOk (Str.ofString "none") = true; decide +kernel, Nat.zero_le _⟩
  have ez : D.eqv (D.str (Str.ofString "none")) (D.str (Str.ofString "none")) = true := by rw [D.eqv]; exact beq_self_eq_true _
  unfold oEq
  rw [ez]
  exact propext ⟨fun h => h.2.2, fun h => ⟨hs, hs, h⟩⟩
theorem answer_none (hd : FlR d) (hg : Fl g) (h1 : rowsP d g = true → ∀ b, q (.d (.bl b)) st) (h2 : rowsP d g = false → er ⟨"BadRows", none⟩ st) : m_is_answer [d, g, .tup [.str (Str.ofString "none"), .lst [.int 1]]] st q er := by
  refine ⟨rfl, ?_⟩
  show a_is_answer [.d d, .d g, .d (.tup [.str (Str.ofString "none"), .lst [.int 1]]), .no, .no, .no, .no, .no, .no, .no, .no, .no] st _
  unfold a_is_answer
  simp [-List.map_map]
  refine check_spec hd.seen hg.seen (fun e => ?_) (fun e => h2 (by rw [rows_P hd hg] at e; exact e))
  rw [rows_P hd hg] at e
  have h1 := h1 e
  obtain ⟨l, W, R, row, goal, H⟩ := rows_of (st := st) hd hg e
  have tk : st.take st.length = st := by simp
  have hi := H.r.it st tk
  have hgl := len_items (H.g st tk)
  simp [-List.map_map]
  refine ⟨_, hgl, ?_⟩
  rw [none_eq]
  simp [-List.map_map]
  refine are_amounts_spec hi ?_
  by_cases hz : l.length = 1
  · rw [decide_eq_true hz]
    simp [-List.map_map]
    obtain ⟨x, rfl⟩ := List.length_eq_one_iff.mp hz
    have hR : R = 1 := by have := H.l; simpa using this.symm
    refine added_spec (f := row 0) (by have := H.r.w; omega) hi (H.r.row st tk 0 x rfl) (fun j hj => H.rb 0 j (by omega) hj) fun f' => ?_
    rw [rsQ_d]
    refine ⟨(List.range W).map f', by show [vw st (ln W f')] = _; simp [ln, lnL, Function.comp_def], by simp; exact H.w1, fun m _ _ => ?_⟩
    show oLt (D.int m) (D.int 0) fun z => q (Rs.d z) st
    simp [-List.map_map]
    exact h1 _
  · rw [decide_eq_false hz]
    simp [-List.map_map]
    exact h1 _
theorem refused1 (hd : FlR d) (hg : Fl g) (h : q (.d (.bl (!rowsP d g))) st) : m__law_refused [d, g, .int 1] st q er := by
  refine ⟨rfl, ?_⟩
  show a__law_refused [.d d, .d g, .d (.int 1)] st _
  unfold a__law_refused sTryOnly
  simp [-List.map_map]
  refine answer_none hd hg (fun e b => ?_) (fun e => ?_)
  · rw [e] at h
    simpa using h
  · rw [e] at h
    exact ⟨true, rfl, fun _ => by simpa using h, fun z => by cases z⟩
theorem number54 {x : D} (hk : okK x) (h : q (.d (.bl (isIntB x))) st) : m__law_is_number [x] st q er := by
  refine ⟨rfl, ?_⟩
  show a__law_is_number [.d x] st _
  unfold a__law_is_number
  simp
  rw [vw_okK hk]
  cases x <;> first | exact hk.elim | simpa [isIntB] using h
theorem numbers_spec {x : D} (hx : Fl x) (h : q (.d (.bl (intsP x))) st) : m__law_numbers [x] st q er := by
  refine ⟨rfl, ?_⟩
  show a__law_numbers [.d x, .no] st _
  unfold a__law_numbers
  have hk := hx.k
  have core : ∀ l, itemsD x = some l → aLcL (gdOf st x) (agName 1) aYes (aCall m__law_is_number (aCons (aVar 1) aNil) []) [A.d x, A.no] (fun l s1 => bAll [D.lst l] fun z => q (Rs.d z) s1) l [] st := fun l hl => by
    obtain ⟨h1, h2⟩ := hx.i l hl
    refine lc_all (G := fun y => .bl (isIntB y)) gdOk_of (fun y hy P1 P2 hp1 => ?_) (by simp; omega) ?_
    · simp
      exact number54 (h2 y hy).1 (by simpa using hp1)
    · refine ⟨l.map isIntB, by simp, ?_⟩
      have : intsP x = l.all isIntB := by unfold intsP; rw [hl]
      rw [this] at h
      simpa [List.all_map, Function.comp_def] using h
  simp [-List.map_map]
  rw [vw_okK hk]
  cases x with
  | lst l => simp [-List.map_map]; exact core l rfl
  | tup l => simp [-List.map_map]; exact core l rfl
  | _ => first | exact hk.elim | (simp [-List.map_map]; simpa [intsP, itemsD] using h)
end
end LW
set_option Elab.async false
set_option linter.all false
set_option maxRecDepth 100000
set_option maxHeartbeats 2000000
namespace LW
open PySem L2 AM
section
variable {st : S} {q : Rs → S → Prop} {er : QX} {d g : D}
def notT : D → Prop
  | .tup _ => False
  | _ => True
theorem sound_spec (hd : FlR d) (hg : Fl g) (nt : notT d) (h : q (.d (.bl (rowsP d g))) st) : m__law_sound [d, g] st q er := by
  refine ⟨rfl, ?_⟩
  show a__law_sound [.d d, .d g, .no] st _
  unfold a__law_sound
  simp [-List.map_map]
  refine numbers_spec hg ?_
  cases hi : intsP g with
  | false =>
    simp [-List.map_map]
    have : rowsP d g = false := by unfold rowsP; rw [hi]; rfl
    rw [this] at h; exact h
  | true =>
    obtain ⟨gs, e1, e2⟩ := ints_of hi
    simp [-List.map_map]
    rw [vw_okK hg.k, e2]
    refine ⟨_, rfl, ?_⟩
    by_cases hz : gs.length = 0
    · rw [if_pos hz]
      have : rowsP d g = false := by unfold rowsP; rw [e2, hz]; simp
      rw [this] at h; exact h
    · rw [if_neg hz]
      have hg0 : (intsP g && (lenD g != some 0)) = true := by rw [hi, e2]; simp; exact fun e => hz (by rw [e]; rfl)
      rw [vw_okK hd.k]
      have hk := hd.k
      cases d with
      | lst l =>
        simp [-List.map_map]
        obtain ⟨h1, h2⟩ := hd.i l rfl
        refine lc_all (G := fun x => .bl (intsP x && (lenD x == lenD g))) (by first | exact gdOk_of | simp) (fun x hx P1 P2 hp1 => ?_) (by simp; omega) ?_
        · have fx := h2 x hx
          simp [-List.map_map]
          refine numbers_spec fx ?_
          cases hxi : intsP x with
          | false =>
            rw [hxi] at hp1
            simpa [-List.map_map] using hp1
          | true =>
            obtain ⟨xs, f1, f2⟩ := ints_of hxi
            rw [hxi, f2, e2] at hp1
            simp [-List.map_map]
            rw [vw_okK fx.k, vw_okK hg.k, f2, e2]
            simp [-List.map_map]
            have ee : ((xs.length : Int) == (gs.length : Int)) = (some xs.length == some gs.length) := by
              rw [Bool.eq_iff_iff]; simp; omega
            first | (rw [ee]; simpa using hp1) | simpa using hp1
        · refine ⟨l.map fun x => intsP x && (lenD x == lenD g), by simp, ?_⟩
          have : rowsP (.lst l) g = l.all fun x => intsP x && (lenD x == lenD g) := by
            unfold rowsP
            rw [hg0]; rfl
          rw [this] at h
          simpa [List.all_map, Function.comp_def] using h
      | tup l => exact nt.elim
      | _ => first | exact hk.elim | (simp [-List.map_map]; simpa [rowsP, itemsD] using h)
/-- a spoiled row -/
theorem fl_int (ns : List Int) (hl : ns.length ≤ 100) (hb : ∀ x ∈ ns, x.natAbs ≤ 10 ^ 6) : Fl (rL ns) := ⟨trivial, fun l e => by
  obtain rfl : iD ns = l := Option.some.inj e
  refine ⟨by simpa using hl, fun y hy => ?_⟩
  obtain ⟨i, hi, rfl⟩ := List.mem_map.mp hy
  exact ⟨trivial, fun j e => by cases e; exact hb i hi⟩⟩
theorem fl_lst {l : List D} (hl : l.length ≤ 100) (h : ∀ y ∈ l, okK y ∧ ∀ i, y = .int i → i.natAbs ≤ 10 ^ 6) : Fl (.lst l) := ⟨trivial, fun l' e => by
  obtain rfl : l = l' := Option.some.inj e
  exact ⟨hl, h⟩⟩
theorem bent54 {n m : Nat} {ns : List Int} {r : List Int} (hn : st[n]? = some (.pool m ns)) (hm : m < 10000) (hl : r.length ≤ 20) (hb : ∀ x ∈ r, x.natAbs ≤ 10 ^ 6)
    (h : ∀ x m', Fl x → m' ≤ m + 5 → q (.d x) (st.set n (.pool m' ns))) : m__law_bent [.ref n, rL r] st q er := by
  refine ⟨rfl, ?_⟩
  show a__law_bent [.d (.ref n), .d (rL r), .no, .no, .no] st _
  unfold a__law_bent
  have oi : ∀ y ∈ iD r, okK y ∧ ∀ i, y = .int i → i.natAbs ≤ 10 ^ 6 := fun y hy => by
    obtain ⟨i, hi, rfl⟩ := List.mem_map.mp hy
    exact ⟨trivial, fun j e => by cases e; exact hb i hi⟩
  simp [-List.map_map]
  refine take_spec (k := 4) hn (by decide) (sm100 (B := 4) (by decide) (by decide)) (by omega) fun y m1 y0 y1 a1 a2 => ?_
  simp [-List.map_map]
  refine take_spec (k := (r.length : Int) + 1) (set_get hn) (by omega) (sm100 (B := 21) (by omega) (by decide)) (by omega) fun a m2 c0 c1 b1 b2 => ?_
  simp [-List.map_map]
  refine take_spec (k := 5) (set_get hn) (by decide) (sm100 (B := 5) (by decide) (by decide)) (by omega) fun w m3 w0 w1 d1 d2 => ?_
  simp [-List.map_map]
  have hw : ∃ wr, atI [D.bl true, .non, .str (Str.ofString "1"), .str (Str.ofString ""), .lst [.int 2]] w = some wr ∧ okK wr ∧ ∀ i, wr = .int i → i.natAbs ≤ 10 ^ 6 := by
    have : w = 0 ∨ w = 1 ∨ w = 2 ∨ w = 3 ∨ w = 4 := by omega
    rcases this with rfl | rfl | rfl | rfl | rfl <;> exact ⟨_, rfl, trivial, fun i e => by cases e⟩
  obtain ⟨wr, e1, e2, e3⟩ := hw
  refine ⟨wr, e1, ?_⟩
  have cl : ∀ {lo hi : Option Int}, (cutL (iD r) lo hi).length ≤ 20 := fun {lo hi} => by unfold cutL; simp; omega
  have cm : ∀ {lo hi : Option Int} {y : D}, y ∈ cutL (iD r) lo hi → okK y ∧ ∀ i, y = .int i → i.natAbs ≤ 10 ^ 6 := fun {lo hi y} hy => oi y (List.mem_of_mem_drop (List.mem_of_mem_take hy))
  have c1 := cl (lo := none) (hi := some a)
  have c2 := cl (lo := some (a + 1)) (hi := none)
  have c3 := cl (lo := some a) (hi := none)
  by_cases k0 : y = 0
  · rw [if_pos k0]
    refine ⟨by omega, ?_⟩
    refine h _ m3 (fl_lst (by rw [List.length_append]; omega) fun y hy => ?_) (by omega)
    rcases List.mem_append.mp hy with hy | hy <;> exact cm hy
  · rw [if_neg k0]
    by_cases k1 : y = 1
    · rw [if_pos k1]
      refine ⟨by omega, by omega, h _ m3 (fl_lst (by rw [List.length_append, List.length_cons]; omega) fun y hy => ?_) (by omega)⟩
      rcases List.mem_append.mp hy with hy | hy
      · exact cm hy
      · rcases List.mem_cons.mp hy with rfl | hy
        · exact ⟨e2, e3⟩
        · exact cm hy
    · rw [if_neg k1]
      by_cases k2 : y = 2
      · rw [if_pos k2]
        refine ⟨by omega, by omega, h _ m3 (fl_lst (by rw [List.length_append, List.length_cons]; omega) fun y hy => ?_) (by omega)⟩
        rcases List.mem_append.mp hy with hy | hy
        · exact cm hy
        · rcases List.mem_cons.mp hy with rfl | hy
          · exact ⟨trivial, fun i e => by cases e; decide⟩
          · exact cm hy
      · rw [if_neg k2]
        refine take_spec (k := 4) (set_get hn) (by decide) (sm100 (B := 4) (by decide) (by decide)) (by omega) fun v m4 v0 v1 f1 f2 => ?_
        have hv : ∃ wr, atI [D.non, .int 5, .str (Str.ofString "12"), .bl true] v = some wr ∧ Fl wr := by
          have : v = 0 ∨ v = 1 ∨ v = 2 ∨ v = 3 := by omega
          rcases this with rfl | rfl | rfl | rfl <;> exact ⟨_, rfl, trivial, fun l e => by cases e⟩
        obtain ⟨x, g1, g2⟩ := hv
        simp [-List.map_map]
        exact ⟨x, g1, h x m4 g2 (by omega)⟩
end
end LW
set_option Elab.async false
set_option linter.all false
set_option maxRecDepth 100000
set_option maxHeartbeats 2000000
namespace LW
open PySem L2 AM
def due54 : AS := (sSeq (sAsg (aNotV (aCall m__law_sound (aCons (aVar 5) (aCons (aVar 6) (aNil))) [])) (agName 4))
  (sRet (aAndV (aOp oEq (aCall m__law_refused (aCons (aVar 5) (aCons (aVar 6) (aCons (aC (.int 0)) (aNil)))) []) (aVar 4)) (aOp oEq (aCall m__law_refused (aCons (aVar 5) (aCons (aVar 6) (aCons (aC (.int 1)) (aNil)))) []) (aVar 4)))))
def tail54 : AS := (sSeq (sAsg (aCall m__law_take (aCons (aVar 1) (aCons (aC (.int 4)) (aNil))) []) (agName 3))
  (sSeq (sIf (aTest (aOp oEq (aVar 3) (aC (.int 0)))) (sAsg (aCall m__law_bent (aCons (aVar 1) (aCons (aVar 6) (aNil))) []) (agName 6)) (sNext))
  (sSeq (sIf (aTest (aOp oEq (aVar 3) (aC (.int 1)))) (sAsg (aOp oIxA (aLst (aCons (aC .non) (aCons (aC (.int 5)) (aCons (aC (.str "ab")) (aCons (aC (.bl true)) (aNil)))))) (aCall m__law_take (aCons (aVar 1) (aCons (aC (.int 4)) (aNil))) [])) (agName 5)) (sNext))
  (sSeq (sIf (aAnd (aTest (aOp oGt (aVar 3) (aC (.int 1)))) (aTest (aOp oNe (aVar 5) (aLst (aNil))))) (sSeq (sAsg (aCall m__law_take (aCons (aVar 1) (aCons (aB bLen (aCons (aVar 5) (aNil))) (aNil))) []) (agName 7))
  (sAsg (aOp oAdd (aOp oAdd (aSl (aVar 5) (oNo) (oAt (aVar 7))) (aLst (aCons (aCall m__law_bent (aCons (aVar 1) (aCons (aOp oIxA (aVar 5) (aVar 7)) (aNil))) []) (aNil)))) (aSl (aVar 5) (oAt (aOp oAdd (aVar 7) (aC (.int 1)))) (oNo))) (agName 5))) (sNext))
  (sSeq (sAsg (aNotV (aCall m__law_sound (aCons (aVar 5) (aCons (aVar 6) (aNil))) [])) (agName 4))
  (sRet (aAndV (aOp oEq (aCall m__law_refused (aCons (aVar 5) (aCons (aVar 6) (aCons (aC (.int 0)) (aNil)))) []) (aVar 4)) (aOp oEq (aCall m__law_refused (aCons (aVar 5) (aCons (aVar 6) (aCons (aC (.int 1)) (aNil)))) []) (aVar 4)))))))))
theorem tail54_eq : tail54 = sSeq (sAsg (aCall m__law_take (aCons (aVar 1) (aCons (aC (.int 4)) (aNil))) []) (agName 3)) (sSeq (sIf (aTest (aOp oEq (aVar 3) (aC (.int 0)))) (sAsg (aCall m__law_bent (aCons (aVar 1) (aCons (aVar 6) (aNil))) []) (agName 6)) (sNext)) (sSeq (sIf (aTest (aOp oEq (aVar 3) (aC (.int 1)))) (sAsg (aOp oIxA (aLst (aCons (aC .non) (aCons (aC (.int 5)) (aCons (aC (.str "ab")) (aCons (aC (.bl true)) (aNil)))))) (aCall m__law_take (aCons (aVar 1) (aCons (aC (.int 4)) (aNil))) [])) (agName 5)) (sNext)) (sSeq (sIf (aAnd (aTest (aOp oGt (aVar 3) (aC (.int 1)))) (aTest (aOp oNe (aVar 5) (aLst (aNil))))) (sSeq (sAsg (aCall m__law_take (aCons (aVar 1) (aCons (aB bLen (aCons (aVar 5) (aNil))) (aNil))) []) (agName 7))
  (sAsg (aOp oAdd (aOp oAdd (aSl (aVar 5) (oNo) (oAt (aVar 7))) (aLst (aCons (aCall m__law_bent (aCons (aVar 1) (aCons (aOp oIxA (aVar 5) (aVar 7)) (aNil))) []) (aNil)))) (aSl (aVar 5) (oAt (aOp oAdd (aVar 7) (aC (.int 1)))) (oNo))) (agName 5))) (sNext)) due54))) := rfl
theorem law54_eq : a_law = sSeq (sAsg (aCall m__law_goal_rows (aCons (aVar 1) (aCons (aC (.int 5)) (aCons (aC (.int 5)) (aNil)))) []) (agSeq 2 (agCons (agName 5) (agCons (agName 6) (agNil))))) (sSeq (sFor (aRng1 (aC (.int 2))) (agName 2) (sIf (aOr (aTruth (aCall m__law_refused (aCons (aVar 5) (aCons (aVar 6) (aCons (aVar 2) (aNil)))) [])) (aNot (aTruth (aCall m__law_refused (aCons (aLst (aNil)) (aCons (aLst (aNil)) (aCons (aVar 2) (aNil)))) [])))) (sRet (aC (.bl false))) (sNext))) tail54) := rfl
section
variable {st : S} {d g : D}
theorem due_ok {e0 e1 e2 e3 e4 e7 : A} (hd : FlR d) (hg : Fl g) (nt : notT d) : due54 [e0, e1, e2, e3, e4, .d d, .d g, e7] st yes := by
  unfold due54
  simp [-List.map_map]
  refine sound_spec hd hg nt ?_
  simp [-List.map_map]
  refine refused0 hd hg ?_
  have eb : ∀ (b : Bool) (p : D → Prop), p (.bl true) → oEq (.bl b) (.bl b) p := fun b p hp => by
    rw [eq_self (x := .bl b) (by cases b <;> trivial)]; exact hp
  simp [-List.map_map]
  refine eb _ _ ?_
  simp [-List.map_map]
  refine refused1 hd hg ?_
  simp only [rsQ_d]
  exact eb _ _ (by simp [yes])
theorem flr_lst {l : List D} (hl : l.length ≤ 20) (h : ∀ x ∈ l, Fl x) : FlR (.lst l) := ⟨trivial, fun l' e => by
  obtain rfl : l = l' := Option.some.inj e
  exact ⟨hl, h⟩⟩
theorem fl_rw {W : Nat} {rws : List (List Int)} (hW : W ≤ 5) (hl : rws.length ≤ 5) (h : Rws W rws) : ∀ x ∈ rws.map rL, Fl x := fun x hx => by
  obtain ⟨r, hr, rfl⟩ := List.mem_map.mp hx
  obtain ⟨i, hi, rfl⟩ := List.mem_iff_getElem.mp hr
  have := h.each i _ (List.getElem?_eq_getElem hi)
  refine fl_int _ (by rw [this.l]; omega) fun y hy => ?_
  have h1 := this.b y hy
  have : 2 ^ i ≤ 2 ^ 5 := Nat.pow_le_pow_right (by decide) (by omega)
  omega
theorem fl_g {W : Nat} {g : List Int} (hW : W ≤ 5) (h : Rw W 0 g) : Fl (rL g) :=
  fl_int _ (by rw [h.l]; omega) fun y hy => by have := h.b y hy; omega
theorem tail_ok {m W : Nat} {ns : List Int} {rws : List (List Int)} {g : List Int} {e0 e2 e3 e4 e7 : A} (hm : m < 1000) (h1 : 1 ≤ W) (hW : W ≤ 5) (hl : rws.length ≤ 5) (h : Rws W rws) (hg : Rw W 0 g) :
    tail54 [e0, .d (.ref 0), e2, e3, e4, .d (.lst (rws.map rL)), .d (rL g), e7] [.pool m ns] yes := by
  have fr := flr_lst (by rw [List.length_map]; omega) (fl_rw hW hl h)
  have fg := fl_g hW hg
  rw [tail54_eq]
  simp [-List.map_map]
  refine take_spec (k := 4) (n := 0) (m := m) (ns := ns) rfl (by decide) (sm100 (B := 4) (by decide) (by decide)) (by omega) fun y m1 y0 y1 a1 a2 => ?_
  simp [-List.map_map]
  have : y = 0 ∨ y = 1 ∨ y = 2 ∨ y = 3 := by omega
  by_cases k0 : y = 0
  · subst k0
    simp [-List.map_map]
    refine bent54 (n := 0) (m := m1) (ns := ns) rfl (by omega) (by rw [hg.l]; omega) (fun x hx => by have := hg.b x hx; omega) fun x m2 hx _ => ?_
    simp [-List.map_map]
    exact due_ok fr hx trivial
  · rw [if_neg k0]
    by_cases k1 : y = 1
    · subst k1
      simp [-List.map_map]
      refine take_spec (k := 4) (n := 0) (m := m1) (ns := ns) rfl (by decide) (sm100 (B := 4) (by decide) (by decide)) (by omega) fun v m2 v0 v1 b1 b2 => ?_
      have hv : ∃ x, atI [D.non, .int 5, .str (Str.ofString "ab"), .bl true] v = some x ∧ FlR x ∧ notT x := by
        have : v = 0 ∨ v = 1 ∨ v = 2 ∨ v = 3 := by omega
        rcases this with rfl | rfl | rfl | rfl <;> exact ⟨_, rfl, ⟨trivial, fun l e => by cases e⟩, trivial⟩
      obtain ⟨x, e1, e2, e3⟩ := hv
      simp [-List.map_map]
      exact ⟨x, e1, due_ok e2 fg e3⟩
    · rw [if_neg k1]
      have k2 : 1 < y := by omega
      simp [-List.map_map, k2]
      rw [ne_nil9 shp_rows]
      have he : (rws.map rL).isEmpty = rws.isEmpty := by cases rws <;> rfl
      rw [he]
      cases hr : rws.isEmpty with
      | true =>
        simp [-List.map_map]
        exact due_ok fr fg trivial
      | false =>
        have h0 : rws.length ≠ 0 := fun e => by cases rws with
          | nil => cases hr
          | cons a b => cases e
        simp [-List.map_map]
        refine take_spec (k := (rws.length : Int)) (n := 0) (m := m1) (ns := ns) rfl (by omega) (sm100 (B := 5) (by omega) (by decide)) (by omega) fun v m2 v0 v1 b1 b2 => ?_
        obtain ⟨c, rfl⟩ : ∃ c : Nat, v = c := ⟨v.toNat, by omega⟩
        have hc : c < rws.length := by omega
        have rc := h.each c _ (List.getElem?_eq_getElem hc)
        simp [-List.map_map]
        refine ⟨rL rws[c], at_get (k := c) (by rw [List.getElem?_map, List.getElem?_eq_getElem hc]; rfl), ?_⟩
        have p5 : 2 ^ c ≤ 2 ^ 5 := Nat.pow_le_pow_right (by decide) (by omega)
        refine bent54 (n := 0) (m := m2) (ns := ns) rfl (by omega) (by rw [rc.l]; omega) (fun x hx => by have := rc.b x hx; omega) fun x m3 hx _ => ?_
        simp [-List.map_map]
        have cl : ∀ {lo hi : Option Int}, (cutL (rws.map rL) lo hi).length ≤ 5 := fun {lo hi} => by unfold cutL; simp; omega
        have cm : ∀ {lo hi : Option Int} {y : D}, y ∈ cutL (rws.map rL) lo hi → Fl y := fun {lo hi y} hy => fl_rw hW hl h y (List.mem_of_mem_drop (List.mem_of_mem_take hy))
        have c1 := cl (lo := none) (hi := some (c : Int))
        have c2 := cl (lo := some ((c : Int) + 1)) (hi := none)
        refine ⟨by omega, by omega, due_ok (flr_lst ?_ fun y hy => ?_) fg trivial⟩
        · simp; omega
        · rcases List.mem_append.mp hy with hy | hy
          · exact cm hy
          · rcases List.mem_cons.mp hy with rfl | hy
            · exact hx
            · exact cm hy
end
theorem law_true (ns : List Int) (hns : ns.length ≤ 63) : a_law (.d (.scr ns) :: .d (.ref 0) :: List.replicate 6 .no) [.pool 0 ns] yes := by
  show a_law [.d (.scr ns), .d (.ref 0), .no, .no, .no, .no, .no, .no] [.pool 0 ns] yes
  rw [law54_eq]
  simp [-List.map_map]
  refine goal_rows_spec (n := 0) (m := 0) (ns := ns) (mr := 5) (mc := 5) rfl (by decide) (by decide) (by decide) (by decide) fun W rws g m' h1 hW hl h hg hm => ?_
  simp [-List.map_map]
  have fr := flr_lst (by rw [List.length_map]; omega) (fl_rw hW hl h)
  have fg := fl_g hW hg
  have rp : rowsP (.lst (rws.map rL)) (rL g) = true := by
    have ii : ∀ l : List Int, intsP (rL l) = true := fun l => by
      show (l.map D.int).all isIntB = true
      simp [List.all_map, Function.comp_def, isIntB]
    have e1 : lenD (rL g) = some W := by show some (iD g).length = _; rw [List.length_map, hg.l]
    unfold rowsP
    rw [ii, e1]
    simp only [Bool.true_and, Bool.and_eq_true]
    refine ⟨by simp; omega, ?_⟩
    show (rws.map rL).all _ = true
    rw [List.all_eq_true]
    intro x hx
    obtain ⟨r, hr, rfl⟩ := List.mem_map.mp hx
    obtain ⟨i, hi, rfl⟩ := List.mem_iff_getElem.mp hr
    have e2 : lenD (rL rws[i]) = some W := by show some (iD rws[i]).length = _; rw [List.length_map, (h.each i _ (List.getElem?_eq_getElem hi)).l]
    rw [ii, e2]; simp
  have rn : rowsP (.lst []) (.lst []) = false := rfl
  have f0 : FlR (.lst []) := flr_lst (by simp) fun x hx => by cases hx
  have g0 : Fl (.lst []) := fl_lst (by simp) fun x hx => by cases hx
  refine for_rng (N := 2) (P := fun k env st => st = [.pool m' ns] ∧ ∃ e2, env = [.d (.scr ns), .d (.ref 0), e2, .no, .no, .d (.lst (rws.map rL)), .d (rL g), .no]) (fun env st hp => ?_) (fun k env st hk hp nx hnx => ?_) _ _ ⟨rfl, _, rfl⟩
  · obtain ⟨rfl, e2, rfl⟩ := hp
    exact ⟨by simp, tail_ok (by omega) h1 hW hl h hg⟩
  · obtain ⟨rfl, e2, rfl⟩ := hp
    refine ⟨by simp, ?_⟩
    simp [-List.map_map]
    have : k = 0 ∨ k = 1 := by omega
    rcases this with rfl | rfl
    · refine refused0 fr fg ?_
      rw [rp]
      simp [-List.map_map]
      refine refused0 f0 g0 ?_
      rw [rn]
      simp [-List.map_map]
      exact hnx _ _ ⟨rfl, _, rfl⟩
    · refine refused1 fr fg ?_
      rw [rp]
      simp [-List.map_map]
      refine refused1 f0 g0 ?_
      rw [rn]
      simp [-List.map_map]
      exact hnx _ _ ⟨rfl, _, rfl⟩
end LW
set_option Elab.async false
set_option linter.all false
set_option maxRecDepth 100000
set_option maxHeartbeats 0
namespace LW
open PySem PySem.Spec PyProof.Rows L2 AM
def top (i : Nat) : Stmt := PySem.Challenge.pw_everyhint_k54_rows_refused.main.body.getD i (.Pass ⟨0, 0, 0, 0⟩)
abbrev s__law_pool : Stmt := top 20
abbrev s__law_take : Stmt := top 21
abbrev s__law_integers : Stmt := top 23
abbrev s__law_goal_rows : Stmt := top 24
abbrev s_is_integer : Stmt := top 5
abbrev s_are_integers : Stmt := top 6
abbrev s_check_rows : Stmt := top 11
abbrev s_Sheet___init__ : Stmt := inClass (top 14) 0
abbrev s_Sheet_leaving : Stmt := inClass (top 14) 3
abbrev s_Sheet_reduced_line : Stmt := inClass (top 14) 1
abbrev s_Sheet_turn : Stmt := inClass (top 14) 2
abbrev s_Sheet_run : Stmt := inClass (top 14) 4
abbrev s_Sheet_amounts : Stmt := inClass (top 14) 8
abbrev s_divisor : Stmt := top 7
abbrev s_lowest : Stmt := top 8
abbrev s_Sheet_settle : Stmt := inClass (top 14) 5
abbrev s_Sheet_charge : Stmt := inClass (top 14) 6
abbrev s_Sheet_mix : Stmt := inClass (top 14) 7
abbrev s_weighed : Stmt := top 12
abbrev s_ratio : Stmt := top 9
abbrev s_greatest : Stmt := top 15
abbrev s_are_amounts : Stmt := top 16
abbrev s_added : Stmt := top 13
abbrev s_is_allowed : Stmt := top 17
abbrev s_is_answer : Stmt := top 18
abbrev s__law_refused : Stmt := top 25
abbrev s__law_bent : Stmt := top 28
abbrev s__law_is_number : Stmt := top 22
abbrev s__law_numbers : Stmt := top 26
abbrev s__law_sound : Stmt := top 27
abbrev s_law : Stmt := top 29
abbrev sx_BadRatio : Stmt := inClass (top 2) 0
abbrev sx_BadRows : Stmt := inClass (top 3) 0
structure Fcs (P : Program) (K : PySem.W.Frag) (mg : Str → Option Value) : Prop where
  g__law_pool : mg "_law_pool" = some (.ref (He.ga K "_law_pool"))
  F__law_pool : FunD K "_law_pool" "_law_pool" (defArgs s__law_pool) (defBody s__law_pool) (defScope s__law_pool) [] [] (He.ga K "_law_pool") (fdAt K (He.ga K "_law_pool"))
  g__law_take : mg "_law_take" = some (.ref (He.ga K "_law_take"))
  F__law_take : FunD K "_law_take" "_law_take" (defArgs s__law_take) (defBody s__law_take) (defScope s__law_take) [] [] (He.ga K "_law_take") (fdAt K (He.ga K "_law_take"))
  g__law_integers : mg "_law_integers" = some (.ref (He.ga K "_law_integers"))
  F__law_integers : FunD K "_law_integers" "_law_integers" (defArgs s__law_integers) (defBody s__law_integers) (defScope s__law_integers) [] [] (He.ga K "_law_integers") (fdAt K (He.ga K "_law_integers"))
  g__law_goal_rows : mg "_law_goal_rows" = some (.ref (He.ga K "_law_goal_rows"))
  F__law_goal_rows : FunD K "_law_goal_rows" "_law_goal_rows" (defArgs s__law_goal_rows) (defBody s__law_goal_rows) (defScope s__law_goal_rows) [] [] (He.ga K "_law_goal_rows") (fdAt K (He.ga K "_law_goal_rows"))
  g_is_integer : mg "is_integer" = some (.ref (He.ga K "is_integer"))
  F_is_integer : FunD K "is_integer" "is_integer" (defArgs s_is_integer) (defBody s_is_integer) (defScope s_is_integer) [] [] (He.ga K "is_integer") (fdAt K (He.ga K "is_integer"))
  g_are_integers : mg "are_integers" = some (.ref (He.ga K "are_integers"))
  F_are_integers : FunD K "are_integers" "are_integers" (defArgs s_are_integers) (defBody s_are_integers) (defScope s_are_integers) [] [] (He.ga K "are_integers") (fdAt K (He.ga K "are_integers"))
  g_check_rows : mg "check_rows" = some (.ref (He.ga K "check_rows"))
  F_check_rows : FunD K "check_rows" "check_rows" (defArgs s_check_rows) (defBody s_check_rows) (defScope s_check_rows) [] [] (He.ga K "check_rows") (fdAt K (He.ga K "check_rows"))
  F_Sheet___init__ : FunD K "__init__" "Sheet.__init__" (defArgs s_Sheet___init__) (defBody s_Sheet___init__) (defScope s_Sheet___init__) [] [] (He.ma K (He.ga K "Sheet") "__init__") (fdAt K (He.ma K (He.ga K "Sheet") "__init__"))
  F_Sheet_leaving : FunD K "leaving" "Sheet.leaving" (defArgs s_Sheet_leaving) (defBody s_Sheet_leaving) (defScope s_Sheet_leaving) [] [] (He.ma K (He.ga K "Sheet") "leaving") (fdAt K (He.ma K (He.ga K "Sheet") "leaving"))
  F_Sheet_reduced_line : FunD K "reduced_line" "Sheet.reduced_line" (defArgs s_Sheet_reduced_line) (defBody s_Sheet_reduced_line) (defScope s_Sheet_reduced_line) [] [] (He.ma K (He.ga K "Sheet") "reduced_line") (fdAt K (He.ma K (He.ga K "Sheet") "reduced_line"))
  F_Sheet_turn : FunD K "turn" "Sheet.turn" (defArgs s_Sheet_turn) (defBody s_Sheet_turn) (defScope s_Sheet_turn) [] [] (He.ma K (He.ga K "Sheet") "turn") (fdAt K (He.ma K (He.ga K "Sheet") "turn"))
  F_Sheet_run : FunD K "run" "Sheet.run" (defArgs s_Sheet_run) (defBody s_Sheet_run) (defScope s_Sheet_run) [] [] (He.ma K (He.ga K "Sheet") "run") (fdAt K (He.ma K (He.ga K "Sheet") "run"))
  F_Sheet_amounts : FunD K "amounts" "Sheet.amounts" (defArgs s_Sheet_amounts) (defBody s_Sheet_amounts) (defScope s_Sheet_amounts) [] [] (He.ma K (He.ga K "Sheet") "amounts") (fdAt K (He.ma K (He.ga K "Sheet") "amounts"))
  g_divisor : mg "divisor" = some (.ref (He.ga K "divisor"))
  F_divisor : FunD K "divisor" "divisor" (defArgs s_divisor) (defBody s_divisor) (defScope s_divisor) [] [] (He.ga K "divisor") (fdAt K (He.ga K "divisor"))
  g_lowest : mg "lowest" = some (.ref (He.ga K "lowest"))
  F_lowest : FunD K "lowest" "lowest" (defArgs s_lowest) (defBody s_lowest) (defScope s_lowest) [] [] (He.ga K "lowest") (fdAt K (He.ga K "lowest"))
  F_Sheet_settle : FunD K "settle" "Sheet.settle" (defArgs s_Sheet_settle) (defBody s_Sheet_settle) (defScope s_Sheet_settle) [] [] (He.ma K (He.ga K "Sheet") "settle") (fdAt K (He.ma K (He.ga K "Sheet") "settle"))
  F_Sheet_charge : FunD K "charge" "Sheet.charge" (defArgs s_Sheet_charge) (defBody s_Sheet_charge) (defScope s_Sheet_charge) [] [] (He.ma K (He.ga K "Sheet") "charge") (fdAt K (He.ma K (He.ga K "Sheet") "charge"))
  F_Sheet_mix : FunD K "mix" "Sheet.mix" (defArgs s_Sheet_mix) (defBody s_Sheet_mix) (defScope s_Sheet_mix) [] [] (He.ma K (He.ga K "Sheet") "mix") (fdAt K (He.ma K (He.ga K "Sheet") "mix"))
  g_weighed : mg "weighed" = some (.ref (He.ga K "weighed"))
  F_weighed : FunD K "weighed" "weighed" (defArgs s_weighed) (defBody s_weighed) (defScope s_weighed) [] [] (He.ga K "weighed") (fdAt K (He.ga K "weighed"))
  g_ratio : mg "ratio" = some (.ref (He.ga K "ratio"))
  F_ratio : FunD K "ratio" "ratio" (defArgs s_ratio) (defBody s_ratio) (defScope s_ratio) [.int 1] [] (He.ga K "ratio") (fdAt K (He.ga K "ratio"))
  g_greatest : mg "greatest" = some (.ref (He.ga K "greatest"))
  F_greatest : FunD K "greatest" "greatest" (defArgs s_greatest) (defBody s_greatest) (defScope s_greatest) [] [] (He.ga K "greatest") (fdAt K (He.ga K "greatest"))
  g_are_amounts : mg "are_amounts" = some (.ref (He.ga K "are_amounts"))
  F_are_amounts : FunD K "are_amounts" "are_amounts" (defArgs s_are_amounts) (defBody s_are_amounts) (defScope s_are_amounts) [] [] (He.ga K "are_amounts") (fdAt K (He.ga K "are_amounts"))
  g_added : mg "added" = some (.ref (He.ga K "added"))
  F_added : FunD K "added" "added" (defArgs s_added) (defBody s_added) (defScope s_added) [] [] (He.ga K "added") (fdAt K (He.ga K "added"))
  g_is_allowed : mg "is_allowed" = some (.ref (He.ga K "is_allowed"))
  F_is_allowed : FunD K "is_allowed" "is_allowed" (defArgs s_is_allowed) (defBody s_is_allowed) (defScope s_is_allowed) [] [] (He.ga K "is_allowed") (fdAt K (He.ga K "is_allowed"))
  g_is_answer : mg "is_answer" = some (.ref (He.ga K "is_answer"))
  F_is_answer : FunD K "is_answer" "is_answer" (defArgs s_is_answer) (defBody s_is_answer) (defScope s_is_answer) [] [] (He.ga K "is_answer") (fdAt K (He.ga K "is_answer"))
  g__law_refused : mg "_law_refused" = some (.ref (He.ga K "_law_refused"))
  F__law_refused : FunD K "_law_refused" "_law_refused" (defArgs s__law_refused) (defBody s__law_refused) (defScope s__law_refused) [] [] (He.ga K "_law_refused") (fdAt K (He.ga K "_law_refused"))
  g__law_bent : mg "_law_bent" = some (.ref (He.ga K "_law_bent"))
  F__law_bent : FunD K "_law_bent" "_law_bent" (defArgs s__law_bent) (defBody s__law_bent) (defScope s__law_bent) [] [] (He.ga K "_law_bent") (fdAt K (He.ga K "_law_bent"))
  g__law_is_number : mg "_law_is_number" = some (.ref (He.ga K "_law_is_number"))
  F__law_is_number : FunD K "_law_is_number" "_law_is_number" (defArgs s__law_is_number) (defBody s__law_is_number) (defScope s__law_is_number) [] [] (He.ga K "_law_is_number") (fdAt K (He.ga K "_law_is_number"))
  g__law_numbers : mg "_law_numbers" = some (.ref (He.ga K "_law_numbers"))
  F__law_numbers : FunD K "_law_numbers" "_law_numbers" (defArgs s__law_numbers) (defBody s__law_numbers) (defScope s__law_numbers) [] [] (He.ga K "_law_numbers") (fdAt K (He.ga K "_law_numbers"))
  g__law_sound : mg "_law_sound" = some (.ref (He.ga K "_law_sound"))
  F__law_sound : FunD K "_law_sound" "_law_sound" (defArgs s__law_sound) (defBody s__law_sound) (defScope s__law_sound) [] [] (He.ga K "_law_sound") (fdAt K (He.ga K "_law_sound"))
  g_law : mg "law" = some (.ref (He.ga K "law"))
  F_law : FunD K "law" "law" (defArgs s_law) (defBody s_law) (defScope s_law) [] [] (He.ga K "law") (fdAt K (He.ga K "law"))
  n_list : mg "list" = none
  n_int : mg "int" = none
  n_len : mg "len" = none
  n_max : mg "max" = none
  n_range : mg "range" = none
  n_abs : mg "abs" = none
  n_isinstance : mg "isinstance" = none
  n_bool : mg "bool" = none
  n_tuple : mg "tuple" = none
  n_all : mg "all" = none
  g_BadRows : mg "BadRows" = some (.ref (He.ga K "BadRows"))
  X_BadRows : XC P K mg (He.ga K "BadRows") (He.ma K (He.ga K "BadRows") "__init__") (fdAt K (He.ma K (He.ga K "BadRows") "__init__")) (defArgs sx_BadRows) (defBody sx_BadRows) (defScope sx_BadRows)
  C_Sheet : Cls K (He.ga K "Sheet")
  NA_Sheet_costs : NoAttr K (He.ga K "Sheet") "costs"
  NA_Sheet_base : NoAttr K (He.ga K "Sheet") "base"
  NA_Sheet_basis : NoAttr K (He.ga K "Sheet") "basis"
  NA_Sheet_lines : NoAttr K (He.ga K "Sheet") "lines"
  n_enumerate : mg "enumerate" = none
  NA_Sheet_count : NoAttr K (He.ga K "Sheet") "count"
  NA_Sheet_wide : NoAttr K (He.ga K "Sheet") "wide"
  n_zip : mg "zip" = none
  Me_Sheet_reduced_line : Meth K (He.ga K "Sheet") "reduced_line" (He.ma K (He.ga K "Sheet") "reduced_line")
  Me_Sheet_turn : Meth K (He.ga K "Sheet") "turn" (He.ma K (He.ga K "Sheet") "turn")
  Me_Sheet_leaving : Meth K (He.ga K "Sheet") "leaving" (He.ma K (He.ga K "Sheet") "leaving")
  n_sum : mg "sum" = none
  g_BadRatio : mg "BadRatio" = some (.ref (He.ga K "BadRatio"))
  X_BadRatio : XC P K mg (He.ga K "BadRatio") (He.ma K (He.ga K "BadRatio") "__init__") (fdAt K (He.ma K (He.ga K "BadRatio") "__init__")) (defArgs sx_BadRatio) (defBody sx_BadRatio) (defScope sx_BadRatio)
  NX_BadRatio : PySem.W.findIn K (.ref (He.ga K "BadRatio")) "bottom" = some none
  Me_Sheet_mix : Meth K (He.ga K "Sheet") "mix" (He.ma K (He.ga K "Sheet") "mix")
  Me_Sheet_amounts : Meth K (He.ga K "Sheet") "amounts" (He.ma K (He.ga K "Sheet") "amounts")
  Me_Sheet_run : Meth K (He.ga K "Sheet") "run" (He.ma K (He.ga K "Sheet") "run")
  Me_Sheet_charge : Meth K (He.ga K "Sheet") "charge" (He.ma K (He.ga K "Sheet") "charge")
  Me_Sheet_settle : Meth K (He.ga K "Sheet") "settle" (He.ma K (He.ga K "Sheet") "settle")
  Me_Sheet___init__ : Meth K (He.ga K "Sheet") "__init__" (He.ma K (He.ga K "Sheet") "__init__")
  Mk_Sheet : Mk K (He.ga K "Sheet") (He.ma K (He.ga K "Sheet") "__init__")
  g_Sheet : mg "Sheet" = some (.ref (He.ga K "Sheet"))
  n_min : mg "min" = none
  M_BadRows_BadRows : PySem.W.exmOne K (.ref (He.ga K "BadRows")) (.ref (He.ga K "BadRows")) = some true
  M_BadRatio_BadRows : PySem.W.exmOne K (.ref (He.ga K "BadRatio")) (.ref (He.ga K "BadRows")) = some false
section
variable {P : Program} {w : World} {K : PySem.W.Frag} {mg : Str → Option Value} {base : Heap}
theorem okx_BadRows (T : Fcs P K mg) : FnOk P w K mg base CX0 1 (He.ma K (He.ga K "BadRows") "__init__") (fdAt K (He.ma K (He.ga K "BadRows") "__init__")) ["self"] (spX0 (He.ga K "BadRows")) := xfn0 T.X_BadRows (fun env => ⟨_, rfl⟩) rfl rfl rfl rfl rfl rfl (by decide +kernel) rfl rfl
theorem bx_BadRows (T : Fcs P K mg) : Binds K (fdAt K (He.ma K (He.ga K "BadRows") "__init__")) ["self"] [] := T.X_BadRows.binds fun _ _ _ _ _ _ _ _ us hl => match us, hl with | [_], _ => rfl
theorem okx_BadRatio (T : Fcs P K mg) : FnOk P w K mg base CX0 1 (He.ma K (He.ga K "BadRatio") "__init__") (fdAt K (He.ma K (He.ga K "BadRatio") "__init__")) ["self", "bottom"] (spX1 (He.ga K "BadRatio") "bottom") := xfn1 T.X_BadRatio (fun env => ⟨_, rfl⟩) rfl rfl rfl rfl rfl rfl rfl (by decide +kernel) rfl rfl T.NX_BadRatio (by decide) (by decide) (fun _ => rfl)
theorem bx_BadRatio (T : Fcs P K mg) : Binds K (fdAt K (He.ma K (He.ga K "BadRatio") "__init__")) ["self", "bottom"] [] := T.X_BadRatio.binds fun _ _ _ _ _ _ _ _ us hl => match us, hl with | [_, _], _ => rfl
theorem xm_BadRows_ok (T : Fcs P K mg) : ∀ c b, xm_BadRows c = some b → PySem.W.exmOne K (.ref (He.ga K c)) (.ref (He.ga K "BadRows")) = some b := fun c b h => by
  unfold xm_BadRows at h
  split at h
  · rename_i e; subst e; rw [T.M_BadRows_BadRows]; exact h
  split at h
  · rename_i e; subst e; rw [T.M_BadRatio_BadRows]; exact h
  cases h
theorem b__law_take_0 (T : Fcs P K mg) : BindsD K (fdAt K (He.ga K "_law_take")) ["_law_pool_here", "_law_many"] [] := .no (T.F__law_take.bindsN fun _ _ _ _ _ _ us hl => match us, hl with | [_, _], _ => rfl)
theorem b__law_integers_0 (T : Fcs P K mg) : BindsD K (fdAt K (He.ga K "_law_integers")) ["_law_pool_here", "_law_many", "_law_most"] [] := .no (T.F__law_integers.bindsN fun _ _ _ _ _ _ us hl => match us, hl with | [_, _, _], _ => rfl)
theorem b_is_integer_0 (T : Fcs P K mg) : BindsD K (fdAt K (He.ga K "is_integer")) ["value"] [] := .no (T.F_is_integer.bindsN fun _ _ _ _ _ _ us hl => match us, hl with | [_], _ => rfl)
theorem b_are_integers_0 (T : Fcs P K mg) : BindsD K (fdAt K (He.ga K "are_integers")) ["value"] [] := .no (T.F_are_integers.bindsN fun _ _ _ _ _ _ us hl => match us, hl with | [_], _ => rfl)
theorem b_Sheet_reduced_line_0 (T : Fcs P K mg) : BindsD K (fdAt K (He.ma K (He.ga K "Sheet") "reduced_line")) ["self", "line", "chosen", "column"] [] := .no (T.F_Sheet_reduced_line.bindsN fun _ _ _ _ _ _ us hl => match us, hl with | [_, _, _, _], _ => rfl)
theorem b_Sheet_turn_0 (T : Fcs P K mg) : BindsD K (fdAt K (He.ma K (He.ga K "Sheet") "turn")) ["self", "at", "column"] [] := .no (T.F_Sheet_turn.bindsN fun _ _ _ _ _ _ us hl => match us, hl with | [_, _, _], _ => rfl)
theorem b_Sheet_leaving_0 (T : Fcs P K mg) : BindsD K (fdAt K (He.ma K (He.ga K "Sheet") "leaving")) ["self", "column"] [] := .no (T.F_Sheet_leaving.bindsN fun _ _ _ _ _ _ us hl => match us, hl with | [_, _], _ => rfl)
theorem b_divisor_0 (T : Fcs P K mg) : BindsD K (fdAt K (He.ga K "divisor")) ["numbers"] [] := .no (T.F_divisor.bindsN fun _ _ _ _ _ _ us hl => match us, hl with | [_], _ => rfl)
theorem b_lowest_0 (T : Fcs P K mg) : BindsD K (fdAt K (He.ga K "lowest")) ["numbers"] [] := .no (T.F_lowest.bindsN fun _ _ _ _ _ _ us hl => match us, hl with | [_], _ => rfl)
theorem b_weighed_0 (T : Fcs P K mg) : BindsD K (fdAt K (He.ga K "weighed")) ["numbers", "others"] [] := .no (T.F_weighed.bindsN fun _ _ _ _ _ _ us hl => match us, hl with | [_, _], _ => rfl)
theorem b_ratio_0 (T : Fcs P K mg) : BindsD K (fdAt K (He.ga K "ratio")) ["top", "bottom"] [] := T.F_ratio.binds1 2 1 (fun z => nomatch z) rfl fun _ _ _ _ _ _ _ us its h1 h2 => match us, its, h1, h2 with | [_, _], [_], _, _ => ⟨_, rfl, rfl⟩
theorem b_Sheet_mix_0 (T : Fcs P K mg) : BindsD K (fdAt K (He.ma K (He.ga K "Sheet") "mix")) ["self"] [] := .no (T.F_Sheet_mix.bindsN fun _ _ _ _ _ _ us hl => match us, hl with | [_], _ => rfl)
theorem b_Sheet_amounts_0 (T : Fcs P K mg) : BindsD K (fdAt K (He.ma K (He.ga K "Sheet") "amounts")) ["self"] [] := .no (T.F_Sheet_amounts.bindsN fun _ _ _ _ _ _ us hl => match us, hl with | [_], _ => rfl)
theorem b_Sheet_run_0 (T : Fcs P K mg) : BindsD K (fdAt K (He.ma K (He.ga K "Sheet") "run")) ["self"] [] := .no (T.F_Sheet_run.bindsN fun _ _ _ _ _ _ us hl => match us, hl with | [_], _ => rfl)
theorem b_Sheet_charge_0 (T : Fcs P K mg) : BindsD K (fdAt K (He.ma K (He.ga K "Sheet") "charge")) ["self", "goal"] [] := .no (T.F_Sheet_charge.bindsN fun _ _ _ _ _ _ us hl => match us, hl with | [_, _], _ => rfl)
theorem b_Sheet_settle_0 (T : Fcs P K mg) : BindsD K (fdAt K (He.ma K (He.ga K "Sheet") "settle")) ["self"] [] := .no (T.F_Sheet_settle.bindsN fun _ _ _ _ _ _ us hl => match us, hl with | [_], _ => rfl)
theorem b_Sheet___init___0 (T : Fcs P K mg) : BindsD K (fdAt K (He.ma K (He.ga K "Sheet") "__init__")) ["self", "rows", "wide"] [] := .no (T.F_Sheet___init__.bindsN fun _ _ _ _ _ _ us hl => match us, hl with | [_, _, _], _ => rfl)
theorem b_check_rows_0 (T : Fcs P K mg) : BindsD K (fdAt K (He.ga K "check_rows")) ["rows", "goal"] [] := .no (T.F_check_rows.bindsN fun _ _ _ _ _ _ us hl => match us, hl with | [_, _], _ => rfl)
theorem b_added_0 (T : Fcs P K mg) : BindsD K (fdAt K (He.ga K "added")) ["rows", "amounts", "wide"] [] := .no (T.F_added.bindsN fun _ _ _ _ _ _ us hl => match us, hl with | [_, _, _], _ => rfl)
theorem b_are_amounts_0 (T : Fcs P K mg) : BindsD K (fdAt K (He.ga K "are_amounts")) ["rows", "amounts"] [] := .no (T.F_are_amounts.bindsN fun _ _ _ _ _ _ us hl => match us, hl with | [_, _], _ => rfl)
theorem b_is_allowed_0 (T : Fcs P K mg) : BindsD K (fdAt K (He.ga K "is_allowed")) ["rows", "mix", "wide"] [] := .no (T.F_is_allowed.bindsN fun _ _ _ _ _ _ us hl => match us, hl with | [_, _, _], _ => rfl)
theorem b_greatest_0 (T : Fcs P K mg) : BindsD K (fdAt K (He.ga K "greatest")) ["rows", "goal"] [] := .no (T.F_greatest.bindsN fun _ _ _ _ _ _ us hl => match us, hl with | [_, _], _ => rfl)
theorem b_is_answer_0 (T : Fcs P K mg) : BindsD K (fdAt K (He.ga K "is_answer")) ["rows", "goal", "answer"] [] := .no (T.F_is_answer.bindsN fun _ _ _ _ _ _ us hl => match us, hl with | [_, _, _], _ => rfl)
theorem b__law_is_number_0 (T : Fcs P K mg) : BindsD K (fdAt K (He.ga K "_law_is_number")) ["_law_thing"] [] := .no (T.F__law_is_number.bindsN fun _ _ _ _ _ _ us hl => match us, hl with | [_], _ => rfl)
theorem b__law_numbers_0 (T : Fcs P K mg) : BindsD K (fdAt K (He.ga K "_law_numbers")) ["_law_value"] [] := .no (T.F__law_numbers.bindsN fun _ _ _ _ _ _ us hl => match us, hl with | [_], _ => rfl)
theorem b__law_refused_0 (T : Fcs P K mg) : BindsD K (fdAt K (He.ga K "_law_refused")) ["_law_rows", "_law_goal", "_law_kind"] [] := .no (T.F__law_refused.bindsN fun _ _ _ _ _ _ us hl => match us, hl with | [_, _, _], _ => rfl)
theorem b__law_sound_0 (T : Fcs P K mg) : BindsD K (fdAt K (He.ga K "_law_sound")) ["_law_rows", "_law_goal"] [] := .no (T.F__law_sound.bindsN fun _ _ _ _ _ _ us hl => match us, hl with | [_, _], _ => rfl)
theorem b__law_bent_0 (T : Fcs P K mg) : BindsD K (fdAt K (He.ga K "_law_bent")) ["_law_pool_here", "_law_numbers_here"] [] := .no (T.F__law_bent.bindsN fun _ _ _ _ _ _ us hl => match us, hl with | [_, _], _ => rfl)
theorem b__law_goal_rows_0 (T : Fcs P K mg) : BindsD K (fdAt K (He.ga K "_law_goal_rows")) ["_law_pool_here", "_law_most_rows", "_law_most_columns"] [] := .no (T.F__law_goal_rows.bindsN fun _ _ _ _ _ _ us hl => match us, hl with | [_, _, _], _ => rfl)
theorem b__law_pool_0 (T : Fcs P K mg) : BindsD K (fdAt K (He.ga K "_law_pool")) ["_law_script"] [] := .no (T.F__law_pool.bindsN fun _ _ _ _ _ _ us hl => match us, hl with | [_], _ => rfl)
theorem sc__law_pool : FnScope ["_law_script"] ["_law_script"] (defScope s__law_pool) := ⟨rfl, rfl, rfl, by decide +kernel, rfl, by decide +kernel, by decide +kernel⟩
theorem ok__law_pool (T : Fcs P K mg) : FnOk P w K mg base (L2N.CX P w) 1 (He.ga K "_law_pool") (fdAt K (He.ga K "_law_pool")) ["_law_script"] (SpA K m__law_pool) :=
  fn_ok (k := 0) T.F__law_pool sc__law_pool leadsP fun cdv A outer s H E C =>
    axb_one (axs_retF (axf_lst (axa_cons (ax_int) (axa_cons (ax_int) (axa_cons (ax_listScr 0 T.n_list) (axa_nil))))))
theorem sc__law_take : FnScope ["_law_pool_here", "_law_many", "_law_digit", "_law_at", "_law_drawn", "_law_mixed"] ["_law_pool_here", "_law_many"] (defScope s__law_take) := ⟨rfl, rfl, rfl, by decide +kernel, rfl, by decide +kernel, by decide +kernel⟩
theorem ok__law_take (T : Fcs P K mg) : FnOk P w K mg base (L2N.CX P w) 1 (He.ga K "_law_take") (fdAt K (He.ga K "_law_take")) ["_law_pool_here", "_law_many"] (SpA K m__law_take) :=
  FnOk.weak (m := fnP 2 6 aTake) (fn_ok (k := 0) T.F__law_take sc__law_take leadsP fun cdv A outer s H E C =>
    axb_cons (axs_if (axt_cmp (op_Eq C.toCxE) (ax_poolIx (c := 1) 0) (ax_int)) (axb_cons (axs_set (i := 3) C.nd (ax_poolIx (c := 0) 0))
    (axb_cons (axs_poolSet (c := 0) 0 (ax_op op_Add (ax_var 3) (ax_int)))
    (axb_cons (axs_set (i := 4) C.nd (ax_ix op_Ix (ax_op op_Add (ax_poolIx (c := 2) 0) (ax_lst (axa_cons (ax_int) (axa_nil)))) (ax_op op_Mod (ax_callTy cb_int T.n_int rfl (axa_cons (ax_var 3) (axa_nil))) (ax_callB (cb_max2 C.toCxE) T.n_max rfl (axa_cons (ax_int) (axa_cons (ax_callB cb_len T.n_len rfl (axa_cons (ax_poolIx (c := 2) 0) (axa_nil))) (axa_nil)))))))
    (axb_cons (axs_set (i := 5) C.nd (ax_op op_Mod (ax_op op_Pow (ax_op op_Add (ax_op op_Add (ax_op op_Mod (ax_callTy cb_int T.n_int rfl (axa_cons (ax_var 4) (axa_nil))) (ax_int)) (ax_op op_Mul (ax_int) (ax_var 3))) (ax_int)) (ax_int)) (ax_int)))
    (axb_cons (axs_set (i := 5) C.nd (ax_op op_Mod (ax_op op_Pow (ax_op op_Add (ax_op op_Add (ax_var 5) (ax_op op_Mul (ax_int) (ax_var 3))) (ax_int)) (ax_int)) (ax_int)))
    (axb_cons (axs_if (axt_cmp op_Lt (ax_var 4) (ax_op op_Pow (ax_int) (ax_int))) (axb_one (axs_ret (ax_op op_Mod (ax_op op_Fdiv (ax_var 5) (ax_int)) (ax_var 1)))) (axb_nil))
    (axb_one (axs_poolSet (c := 1) 0 (ax_var 4))))))))) (axb_nil))
    (axb_cons (axs_set (i := 2) C.nd (ax_op op_Mod (ax_callTy cb_int T.n_int rfl (axa_cons (ax_poolIx (c := 1) 0) (axa_nil))) (ax_var 1)))
    (axb_cons (axs_poolSet (c := 1) 0 (ax_op op_Fdiv (ax_poolIx (c := 1) 0) (ax_var 1)))
    (axb_one (axs_ret (ax_var 2)))))) take_ok
theorem sc__law_integers : FnScope ["_law_pool_here", "_law_many", "_law_most", "_law_k"] ["_law_pool_here", "_law_many", "_law_most"] (defScope s__law_integers) := ⟨rfl, rfl, rfl, by decide +kernel, rfl, by decide +kernel, by decide +kernel⟩
theorem ok__law_integers (T : Fcs P K mg) : FnOk P w K mg base (L2N.CX P w) 2 (He.ga K "_law_integers") (fdAt K (He.ga K "_law_integers")) ["_law_pool_here", "_law_many", "_law_most"] (SpA K m__law_integers) :=
  fn_ok (k := 1) T.F__law_integers sc__law_integers leadsP fun cdv A outer s H E C =>
    axb_one (axs_retF (axf_lc [("_law_k", 3)] C.toCxE (blk_of rfl) (axi_rng1 T.n_range (ax_var 1)) (fun s0 H0 _ _ fp0 => axgc_name (i := 3) (CxE.blk C.toCxE s0 H0 _ _ fp0).nd) (fun s0 H0 _ _ fp0 => axts_nil) (fun s0 H0 _ _ fp0 => ax_op op_Sub (ax_call (CxE.blk C.toCxE s0 H0 _ _ fp0) (ok__law_take T) T.g__law_take T.F__law_take.kp (b__law_take_0 T) (fun _ => .nil) (axa_cons (ax_var 0) (axa_cons (ax_op op_Add (ax_op op_Mul (ax_int) (ax_var 2)) (ax_int)) (axa_nil))) (by decide)) (ax_var 2))))
theorem sc__law_goal_rows : FnScope ["_law_pool_here", "_law_most_rows", "_law_most_columns", "_law_large", "_law_wide", "_law_rows", "_law_k", "_law_row", "_law_kind", "_law_item", "_law_at"] ["_law_pool_here", "_law_most_rows", "_law_most_columns"] (defScope s__law_goal_rows) := ⟨rfl, rfl, rfl, by decide +kernel, rfl, by decide +kernel, by decide +kernel⟩
theorem ok__law_goal_rows (T : Fcs P K mg) : FnOk P w K mg base (L2N.CX P w) 3 (He.ga K "_law_goal_rows") (fdAt K (He.ga K "_law_goal_rows")) ["_law_pool_here", "_law_most_rows", "_law_most_columns"] (SpA K m__law_goal_rows) :=
  fn_ok (k := 2) T.F__law_goal_rows sc__law_goal_rows leadsC fun cdv A outer s H E C =>
    axb_cons (axs_set (i := 3) C.nd (ax_ix (op_IxA C.toCxE) (ax_lst (axa_cons (ax_int) (axa_cons (ax_int) (axa_cons (ax_int) (axa_nil))))) (ax_call C.toCxE (ok__law_take T) T.g__law_take T.F__law_take.kp (b__law_take_0 T) (fun _ => .nil) (axa_cons (ax_var 0) (axa_cons (ax_int) (axa_nil))) (by decide))))
    (axb_cons (axs_set (i := 4) C.nd (ax_op op_Add (ax_int) (ax_call C.toCxE (ok__law_take T) T.g__law_take T.F__law_take.kp (b__law_take_0 T) (fun _ => .nil) (axa_cons (ax_var 0) (axa_cons (ax_var 2) (axa_nil))) (by decide))))
    (axb_cons (axs_cell (i := 5) C.nd (axf_lst (axa_nil)))
    (axb_cons (axs_for C (axi_rng1 T.n_range (ax_call C.toCxE (ok__law_take T) T.g__law_take T.F__law_take.kp (b__law_take_0 T) (fun _ => .nil) (axa_cons (ax_var 0) (axa_cons (ax_op op_Add (ax_var 1) (ax_int)) (axa_nil))) (by decide))) (axg_name (i := 6) C.toCxE.nd) (axb_cons (axs_set (i := 7) C.nd (ax_call C.toCxE (ok__law_integers T) T.g__law_integers T.F__law_integers.kp (b__law_integers_0 T) (fun _ => .nil) (axa_cons (ax_var 0) (axa_cons (ax_var 4) (axa_cons (ax_var 3) (axa_nil)))) (by decide)))
    (axb_cons (axs_set (i := 8) C.nd (ax_call C.toCxE (ok__law_take T) T.g__law_take T.F__law_take.kp (b__law_take_0 T) (fun _ => .nil) (axa_cons (ax_var 0) (axa_cons (ax_int) (axa_nil))) (by decide)))
    (axb_cons (axs_if (axt_w (axw_and (axt_cmp (op_Eq C.toCxE) (ax_var 8) (ax_int)) (axw_and1 (axt_cmp (op_Ne C.toCxE) (ax_var 5) (ax_lst (axa_nil)))))) (axb_one ((axs_setLc (i := 7) [("_law_item", 9)] C.toCxE (blk_of rfl) (axi_seq (ax_ix (op_IxA C.toCxE) (ax_var 5) (ax_int))) (fun s0 H0 _ _ fp0 => axgc_name (i := 9) (CxE.blk C.toCxE s0 H0 _ _ fp0).nd) (fun s0 H0 _ _ fp0 => axts_nil) (fun s0 H0 _ _ fp0 => ax_op op_Sub (ax_int) (ax_var 9))).1)) (axb_nil))
    (axb_cons (axs_if (axt_w (axw_and (axt_cmp (op_Eq C.toCxE) (ax_var 8) (ax_int)) (axw_and1 (axt_cmp op_Gt (ax_callB cb_len T.n_len rfl (axa_cons (ax_var 5) (axa_nil))) (ax_int))))) (axb_one ((axs_setLc (i := 7) [("_law_at", 10)] C.toCxE (blk_of rfl) (axi_rng1 T.n_range (ax_var 4)) (fun s0 H0 _ _ fp0 => axgc_name (i := 10) (CxE.blk C.toCxE s0 H0 _ _ fp0).nd) (fun s0 H0 _ _ fp0 => axts_nil) (fun s0 H0 _ _ fp0 => ax_op op_Sub (ax_ix (op_IxA (CxE.blk C.toCxE s0 H0 _ _ fp0)) (ax_ix (op_IxA (CxE.blk C.toCxE s0 H0 _ _ fp0)) (ax_var 5) (ax_int)) (ax_var 10)) (ax_ix (op_IxA (CxE.blk C.toCxE s0 H0 _ _ fp0)) (ax_ix (op_IxA (CxE.blk C.toCxE s0 H0 _ _ fp0)) (ax_var 5) (ax_int)) (ax_var 10)))).1)) (axb_nil))
    (axb_cons (axs_if (axt_cmp (op_Eq C.toCxE) (ax_var 8) (ax_int)) (axb_one ((axs_setLc (i := 7) [("_law_item", 9)] C.toCxE (blk_of rfl) (axi_seq (ax_var 7)) (fun s0 H0 _ _ fp0 => axgc_name (i := 9) (CxE.blk C.toCxE s0 H0 _ _ fp0).nd) (fun s0 H0 _ _ fp0 => axts_nil) (fun s0 H0 _ _ fp0 => ax_op op_Sub (ax_int) (ax_callB cb_abs T.n_abs rfl (axa_cons (ax_var 9) (axa_nil))))).1)) (axb_nil))
    (axb_one (axs_expr (ax_app (ax_var 5) (ax_var 7))))))))))
    (axb_one (axs_frz 5 (axs_retF (axf_lst (axa_cons (ax_var 5) (axa_cons (ax_call C.toCxE (ok__law_integers T) T.g__law_integers T.F__law_integers.kp (b__law_integers_0 T) (fun _ => .nil) (axa_cons (ax_var 0) (axa_cons (ax_var 4) (axa_cons (ax_var 3) (axa_nil)))) (by decide)) (axa_nil))))))))))
theorem sc_is_integer : FnScope ["value"] ["value"] (defScope s_is_integer) := ⟨rfl, rfl, rfl, by decide +kernel, rfl, by decide +kernel, by decide +kernel⟩
theorem ok_is_integer (T : Fcs P K mg) : FnOk P w K mg base (L2N.CX P w) 1 (He.ga K "is_integer") (fdAt K (He.ga K "is_integer")) ["value"] (SpA K m_is_integer) :=
  fn_ok (k := 0) T.F_is_integer sc_is_integer leadsP fun cdv A outer s H E C =>
    axb_one (axs_ret (ax_and (ax_callB cb_isi T.n_isinstance rfl (axa_cons (ax_var 0) (axa_cons (ax_ty T.n_int rfl) (axa_nil)))) (ax_one (ax_not (ax_callB cb_isi T.n_isinstance rfl (axa_cons (ax_var 0) (axa_cons (ax_ty T.n_bool rfl) (axa_nil))))))))
theorem sc_are_integers : FnScope ["value", "item"] ["value"] (defScope s_are_integers) := ⟨rfl, rfl, rfl, by decide +kernel, rfl, by decide +kernel, by decide +kernel⟩
theorem ok_are_integers (T : Fcs P K mg) : FnOk P w K mg base (L2N.CX P w) 2 (He.ga K "are_integers") (fdAt K (He.ga K "are_integers")) ["value"] (SpA K m_are_integers) :=
  fn_ok (k := 1) T.F_are_integers sc_are_integers leadsP fun cdv A outer s H E C =>
    axb_one (axs_ret (ax_and (ax_callB cb_isi T.n_isinstance rfl (axa_cons (ax_var 0) (axa_cons (ax_tup (axa_cons (ax_ty T.n_list rfl) (axa_cons (ax_ty T.n_tuple rfl) (axa_nil)))) (axa_nil)))) (ax_one (ax_callB (cb_all C.toCxE) T.n_all rfl (axa_cons (axf_e (axf_lc [("item", 1)] C.toCxE (blk_of rfl) (axi_seq (ax_var 0)) (fun s0 H0 _ _ fp0 => axgc_name (i := 1) (CxE.blk C.toCxE s0 H0 _ _ fp0).nd) (fun s0 H0 _ _ fp0 => axts_nil) (fun s0 H0 _ _ fp0 => ax_call (CxE.blk C.toCxE s0 H0 _ _ fp0) (ok_is_integer T) T.g_is_integer T.F_is_integer.kp (b_is_integer_0 T) (fun _ => .nil) (axa_cons (ax_var 1) (axa_nil)) (by decide)))) (axa_nil))))))
theorem sc_check_rows : FnScope ["rows", "goal", "row"] ["rows", "goal"] (defScope s_check_rows) := ⟨rfl, rfl, rfl, by decide +kernel, rfl, by decide +kernel, by decide +kernel⟩
theorem ok_check_rows (T : Fcs P K mg) : FnOk P w K mg base (L2N.CX P w) 3 (He.ga K "check_rows") (fdAt K (He.ga K "check_rows")) ["rows", "goal"] (SpA K m_check_rows) :=
  fn_ok (k := 2) T.F_check_rows sc_check_rows leadsP fun cdv A outer s H E C =>
    axb_cons (axs_if (axt_w (axw_or (axt_not (axt_val (ax_call C.toCxE (ok_are_integers T) T.g_are_integers T.F_are_integers.kp (b_are_integers_0 T) (fun _ => .nil) (axa_cons (ax_var 1) (axa_nil)) (by decide)))) (axw_or (axt_cmp (op_Eq C.toCxE) (ax_callB cb_len T.n_len rfl (axa_cons (ax_var 1) (axa_nil))) (ax_int)) (axw_or1 (axt_not (axt_val (ax_callB cb_isi T.n_isinstance rfl (axa_cons (ax_var 0) (axa_cons (ax_tup (axa_cons (ax_ty T.n_list rfl) (axa_cons (ax_ty T.n_tuple rfl) (axa_nil)))) (axa_nil)))))))))) (axb_one (axs_raise0 (k := 1) (C.mono (by decide)) T.X_BadRows.ox T.X_BadRows.ini T.X_BadRows.tyf (okx_BadRows T) (bx_BadRows T) T.g_BadRows)) (axb_nil))
    (axb_one (axs_for C (axi_seq (ax_var 0)) (axg_name (i := 2) C.toCxE.nd) (axb_one (axs_if (axt_w (axw_or (axt_not (axt_val (ax_call C.toCxE (ok_are_integers T) T.g_are_integers T.F_are_integers.kp (b_are_integers_0 T) (fun _ => .nil) (axa_cons (ax_var 2) (axa_nil)) (by decide)))) (axw_or1 (axt_cmp (op_Ne C.toCxE) (ax_callB cb_len T.n_len rfl (axa_cons (ax_var 2) (axa_nil))) (ax_callB cb_len T.n_len rfl (axa_cons (ax_var 1) (axa_nil))))))) (axb_one (axs_raise0 (k := 1) (C.mono (by decide)) T.X_BadRows.ox T.X_BadRows.ini T.X_BadRows.tyf (okx_BadRows T) (bx_BadRows T) T.g_BadRows)) (axb_nil)))))
theorem sc_Sheet___init__ : FnScope ["self", "rows", "wide", "parts", "rests", "at", "row", "other", "part", "item"] ["self", "rows", "wide"] (defScope s_Sheet___init__) := ⟨rfl, rfl, rfl, by decide +kernel, rfl, by decide +kernel, by decide +kernel⟩
theorem ok_Sheet___init__ (T : Fcs P K mg) : FnOk P w K mg base (L2N.CX P w) 1 (He.ma K (He.ga K "Sheet") "__init__") (fdAt K (He.ma K (He.ga K "Sheet") "__init__")) ["self", "rows", "wide"] (SpA K m_Sheet___init__) :=
  fn_ok (k := 0) T.F_Sheet___init__ sc_Sheet___init__ leadsP fun cdv A outer s H E C =>
    axb_cons (axs_fld (ax_var 0) (ax_var 2) T.C_Sheet T.NA_Sheet_wide)
    (axb_cons (axs_fld (ax_var 0) (ax_op op_Add (ax_var 2) (ax_callB cb_len T.n_len rfl (axa_cons (ax_var 1) (axa_nil)))) T.C_Sheet T.NA_Sheet_count)
    (axb_cons (axs_fld (ax_var 0) (ax_cellL (axf_lst (axa_nil))) T.C_Sheet T.NA_Sheet_lines)
    (axb_cons (axs_for C (axi_enum T.n_enumerate (ax_var 1)) (axg_tup (n := 2) C.toCxE.calm (axgs_cons (axg_name (i := 5) C.toCxE.nd) (axgs_cons (axg_name (i := 6) C.toCxE.nd) (axgs_nil)))) (axb_cons ((axs_setLc (i := 4) [("other", 7)] C.toCxE (blk_of rfl) (axi_rng1 T.n_range (ax_callB cb_len T.n_len rfl (axa_cons (ax_var 1) (axa_nil)))) (fun s0 H0 _ _ fp0 => axgc_name (i := 7) (CxE.blk C.toCxE s0 H0 _ _ fp0).nd) (fun s0 H0 _ _ fp0 => axts_nil) (fun s0 H0 _ _ fp0 => ax_callTy cb_int T.n_int rfl (axa_cons (ax_cmp (op_Eq (CxE.blk C.toCxE s0 H0 _ _ fp0)) (ax_var 5) (ax_var 7)) (axa_nil)))).1)
    (axb_one (axs_expr (ax_app (ax_fld (ax_var 0) (List.forall_mem_cons.mpr ⟨⟨T.C_Sheet, T.NA_Sheet_lines⟩, fun _ h => by cases h⟩)) (ax_lst (axa_star (axf_e (axf_lc [("item", 9)] C.toCxE (blk_of rfl) (axi_seq (ax_var 6)) (fun s0 H0 _ _ fp0 => axgc_name (i := 9) (CxE.blk C.toCxE s0 H0 _ _ fp0).nd) (fun s0 H0 _ _ fp0 => axts_nil) (fun s0 H0 _ _ fp0 => ax_un op_Neg (ax_var 9)))) (axa_star (ax_var 4) (axa_cons (ax_int) (axa_cons (ax_int) (axa_nil)))))))))))
    (axb_cons ((axs_setLc (i := 3) [("at", 5)] C.toCxE (blk_of rfl) (axi_rng1 T.n_range (ax_var 2)) (fun s0 H0 _ _ fp0 => axgc_name (i := 5) (CxE.blk C.toCxE s0 H0 _ _ fp0).nd) (fun s0 H0 _ _ fp0 => axts_nil) (fun s0 H0 _ _ fp0 => ax_int)).1)
    (axb_cons ((axs_setLc (i := 4) [("row", 6)] C.toCxE (blk_of rfl) (axi_seq (ax_var 1)) (fun s0 H0 _ _ fp0 => axgc_name (i := 6) (CxE.blk C.toCxE s0 H0 _ _ fp0).nd) (fun s0 H0 _ _ fp0 => axts_nil) (fun s0 H0 _ _ fp0 => ax_int)).1)
    (axb_cons (axs_expr (ax_app (ax_fld (ax_var 0) (List.forall_mem_cons.mpr ⟨⟨T.C_Sheet, T.NA_Sheet_lines⟩, fun _ h => by cases h⟩)) (ax_lst (axa_star (ax_var 3) (axa_star (ax_var 4) (axa_cons (ax_int) (axa_cons (ax_int) (axa_nil))))))))
    (axb_cons (axs_fld (ax_var 0) (ax_cellL (axf_lrng2 C.toCxE T.n_list T.n_range (ax_var 2) (ax_op op_Add (ax_op op_Add (ax_var 2) (ax_callB cb_len T.n_len rfl (axa_cons (ax_var 1) (axa_nil)))) (ax_int)))) T.C_Sheet T.NA_Sheet_basis)
    (axb_cons (axs_fld (ax_var 0) (ax_int) T.C_Sheet T.NA_Sheet_base)
    (axb_one (axs_fld (ax_var 0) (ax_lst (axa_star (axf_e (axf_lc [("part", 8)] C.toCxE (blk_of rfl) (axi_seq (ax_var 3)) (fun s0 H0 _ _ fp0 => axgc_name (i := 8) (CxE.blk C.toCxE s0 H0 _ _ fp0).nd) (fun s0 H0 _ _ fp0 => axts_nil) (fun s0 H0 _ _ fp0 => ax_un op_Neg (ax_int)))) (axa_star (ax_var 4) (axa_cons (ax_int) (axa_cons (ax_un op_Neg (ax_int)) (axa_nil)))))) T.C_Sheet T.NA_Sheet_costs))))))))))
theorem sc_Sheet_leaving : FnScope ["self", "column", "best", "at", "basic", "part", "amount", "here", "there"] ["self", "column"] (defScope s_Sheet_leaving) := ⟨rfl, rfl, rfl, by decide +kernel, rfl, by decide +kernel, by decide +kernel⟩
theorem ok_Sheet_leaving (T : Fcs P K mg) : FnOk P w K mg base (L2N.CX P w) 1 (He.ma K (He.ga K "Sheet") "leaving") (fdAt K (He.ma K (He.ga K "Sheet") "leaving")) ["self", "column"] (SpA K m_Sheet_leaving) :=
  fn_ok (k := 0) T.F_Sheet_leaving sc_Sheet_leaving leadsP fun cdv A outer s H E C =>
    axb_cons (axs_set (i := 2) C.nd (ax_non))
    (axb_cons (axs_for C (axi_enum T.n_enumerate (ax_fld (ax_var 0) (List.forall_mem_cons.mpr ⟨⟨T.C_Sheet, T.NA_Sheet_basis⟩, fun _ h => by cases h⟩))) (axg_tup (n := 2) C.toCxE.calm (axgs_cons (axg_name (i := 3) C.toCxE.nd) (axgs_cons (axg_name (i := 4) C.toCxE.nd) (axgs_nil)))) (axb_cons (axs_par (i := 5) (j := 6) C.calm C.nd (axa_cons (ax_ix (op_IxA C.toCxE) (ax_ix (op_IxA C.toCxE) (ax_fld (ax_var 0) (List.forall_mem_cons.mpr ⟨⟨T.C_Sheet, T.NA_Sheet_lines⟩, fun _ h => by cases h⟩)) (ax_var 3)) (ax_var 1)) (axa_cons (ax_ix (op_IxA C.toCxE) (ax_ix (op_IxA C.toCxE) (ax_fld (ax_var 0) (List.forall_mem_cons.mpr ⟨⟨T.C_Sheet, T.NA_Sheet_lines⟩, fun _ h => by cases h⟩)) (ax_var 3)) (ax_un op_Neg (ax_int))) (axa_nil))))
    (axb_one (axs_if (axt_cmp op_Gt (ax_var 5) (ax_int)) (axb_cons (axs_if (axt_cmp op_Is (ax_var 2) (ax_non)) (axb_cons (axs_set (i := 2) C.nd (ax_var 3))
    (axb_one (axs_cont))) (axb_nil))
    (axb_cons (axs_par (i := 7) (j := 8) C.calm C.nd (axa_cons (ax_op op_Mul (ax_var 6) (ax_ix (op_IxA C.toCxE) (ax_ix (op_IxA C.toCxE) (ax_fld (ax_var 0) (List.forall_mem_cons.mpr ⟨⟨T.C_Sheet, T.NA_Sheet_lines⟩, fun _ h => by cases h⟩)) (ax_var 2)) (ax_var 1))) (axa_cons (ax_op op_Mul (ax_ix (op_IxA C.toCxE) (ax_ix (op_IxA C.toCxE) (ax_fld (ax_var 0) (List.forall_mem_cons.mpr ⟨⟨T.C_Sheet, T.NA_Sheet_lines⟩, fun _ h => by cases h⟩)) (ax_var 2)) (ax_un op_Neg (ax_int))) (ax_var 5)) (axa_nil))))
    (axb_one (axs_if (axt_w (axw_or (axt_cmp op_Lt (ax_var 7) (ax_var 8)) (axw_or1 (axt_w (axw_and (axt_cmp (op_Eq C.toCxE) (ax_var 7) (ax_var 8)) (axw_and1 (axt_cmp op_Lt (ax_var 4) (ax_ix (op_IxA C.toCxE) (ax_fld (ax_var 0) (List.forall_mem_cons.mpr ⟨⟨T.C_Sheet, T.NA_Sheet_basis⟩, fun _ h => by cases h⟩)) (ax_var 2))))))))) (axb_one (axs_set (i := 2) C.nd (ax_var 3))) (axb_nil))))) (axb_nil)))))
    (axb_one (axs_ret (ax_var 2))))
theorem sc_Sheet_reduced_line : FnScope ["self", "line", "chosen", "column", "part", "lead", "item", "other"] ["self", "line", "chosen", "column"] (defScope s_Sheet_reduced_line) := ⟨rfl, rfl, rfl, by decide +kernel, rfl, by decide +kernel, by decide +kernel⟩
theorem ok_Sheet_reduced_line (T : Fcs P K mg) : FnOk P w K mg base (L2N.CX P w) 1 (He.ma K (He.ga K "Sheet") "reduced_line") (fdAt K (He.ma K (He.ga K "Sheet") "reduced_line")) ["self", "line", "chosen", "column"] (SpA K m_Sheet_reduced_line) :=
  fn_ok (k := 0) T.F_Sheet_reduced_line sc_Sheet_reduced_line leadsP fun cdv A outer s H E C =>
    axb_cons (axs_asg (ax_tup (axa_cons (ax_ix (op_IxA C.toCxE) (ax_var 1) (ax_var 3)) (axa_cons (ax_ix (op_IxA C.toCxE) (ax_var 2) (ax_var 3)) (axa_nil)))) (axg_tup (n := 2) C.toCxE.calm (axgs_cons (axg_name (i := 4) C.toCxE.nd) (axgs_cons (axg_name (i := 5) C.toCxE.nd) (axgs_nil)))))
    (axb_one (axs_retF (axf_lc [("item", 6), ("other", 7)] C.toCxE (blk_of rfl) (axi_zip T.n_zip (ax_var 1) (ax_var 2)) (fun s0 H0 _ _ fp0 => axgc_tup (n := 2) (CxE.blk C.toCxE s0 H0 _ _ fp0).calm (axgcs_cons (axgc_name (i := 6) (CxE.blk C.toCxE s0 H0 _ _ fp0).nd) (axgcs_cons (axgc_name (i := 7) (CxE.blk C.toCxE s0 H0 _ _ fp0).nd) (axgcs_nil)))) (fun s0 H0 _ _ fp0 => axts_nil) (fun s0 H0 _ _ fp0 => ax_op op_Fdiv (ax_op op_Sub (ax_op op_Mul (ax_var 6) (ax_var 5)) (ax_op op_Mul (ax_var 4) (ax_var 7))) (ax_fld (ax_var 0) (List.forall_mem_cons.mpr ⟨⟨T.C_Sheet, T.NA_Sheet_base⟩, fun _ h => by cases h⟩))))))
theorem sc_Sheet_turn : FnScope ["self", "at", "column", "chosen", "found", "line", "item"] ["self", "at", "column"] (defScope s_Sheet_turn) := ⟨rfl, rfl, rfl, by decide +kernel, rfl, by decide +kernel, by decide +kernel⟩
theorem ok_Sheet_turn (T : Fcs P K mg) : FnOk P w K mg base (L2N.CX P w) 2 (He.ma K (He.ga K "Sheet") "turn") (fdAt K (He.ma K (He.ga K "Sheet") "turn")) ["self", "at", "column"] (SpA K m_Sheet_turn) :=
  fn_ok (k := 1) T.F_Sheet_turn sc_Sheet_turn leadsP fun cdv A outer s H E C =>
    axb_cons (axs_set (i := 3) C.nd (ax_ix (op_IxA C.toCxE) (ax_fld (ax_var 0) (List.forall_mem_cons.mpr ⟨⟨T.C_Sheet, T.NA_Sheet_lines⟩, fun _ h => by cases h⟩)) (ax_var 1)))
    (axb_cons (axs_if (axt_cmp op_Lt (ax_ix (op_IxA C.toCxE) (ax_var 3) (ax_var 2)) (ax_int)) (axb_one (axs_set (i := 3) C.nd (axf_e (axf_lc [("item", 6)] C.toCxE (blk_of rfl) (axi_seq (ax_var 3)) (fun s0 H0 _ _ fp0 => axgc_name (i := 6) (CxE.blk C.toCxE s0 H0 _ _ fp0).nd) (fun s0 H0 _ _ fp0 => axts_nil) (fun s0 H0 _ _ fp0 => ax_un op_Neg (ax_var 6)))))) (axb_nil))
    (axb_cons ((axs_setLc (i := 4) [("line", 5)] C.toCxE (blk_of rfl) (axi_seq (ax_fld (ax_var 0) (List.forall_mem_cons.mpr ⟨⟨T.C_Sheet, T.NA_Sheet_lines⟩, fun _ h => by cases h⟩))) (fun s0 H0 _ _ fp0 => axgc_name (i := 5) (CxE.blk C.toCxE s0 H0 _ _ fp0).nd) (fun s0 H0 _ _ fp0 => axts_nil) (fun s0 H0 _ _ fp0 => ax_methV (CxE.blk C.toCxE s0 H0 _ _ fp0) (ax_var 0) T.C_Sheet T.Me_Sheet_reduced_line (ok_Sheet_reduced_line T) (b_Sheet_reduced_line_0 T) (fun _ => .nil) (axa_cons (ax_var 5) (axa_cons (ax_var 3) (axa_cons (ax_var 2) (axa_nil)))) (by decide))).2)
    (axb_cons (axs_setIx (ax_var 3) (ax_var 4) (ax_var 1))
    (axb_cons (axs_fld (ax_var 0) (ax_methV C.toCxE (ax_var 0) T.C_Sheet T.Me_Sheet_reduced_line (ok_Sheet_reduced_line T) (b_Sheet_reduced_line_0 T) (fun _ => .nil) (axa_cons (ax_fld (ax_var 0) (List.forall_mem_cons.mpr ⟨⟨T.C_Sheet, T.NA_Sheet_costs⟩, fun _ h => by cases h⟩)) (axa_cons (ax_var 3) (axa_cons (ax_var 2) (axa_nil)))) (by decide)) T.C_Sheet T.NA_Sheet_costs)
    (axb_cons (axs_fld (ax_var 0) (ax_var 4) T.C_Sheet T.NA_Sheet_lines)
    (axb_cons (axs_setIx (ax_var 2) (ax_fld (ax_var 0) (List.forall_mem_cons.mpr ⟨⟨T.C_Sheet, T.NA_Sheet_basis⟩, fun _ h => by cases h⟩)) (ax_var 1))
    (axb_one (axs_fld (ax_var 0) (ax_ix (op_IxA C.toCxE) (ax_var 3) (ax_var 2)) T.C_Sheet T.NA_Sheet_base))))))))
theorem sc_Sheet_run : FnScope ["self", "lower", "column"] ["self"] (defScope s_Sheet_run) := ⟨rfl, rfl, rfl, by decide +kernel, rfl, by decide +kernel, by decide +kernel⟩
theorem ok_Sheet_run (T : Fcs P K mg) : FnOk P w K mg base (L2N.CX P w) 3 (He.ma K (He.ga K "Sheet") "run") (fdAt K (He.ma K (He.ga K "Sheet") "run")) ["self"] (SpA K m_Sheet_run) :=
  fn_ok (k := 2) T.F_Sheet_run sc_Sheet_run leadsP fun cdv A outer s H E C =>
    axb_cons ((axs_setLc (i := 1) [("column", 2)] C.toCxE (blk_of rfl) (axi_rng1 T.n_range (ax_fld (ax_var 0) (List.forall_mem_cons.mpr ⟨⟨T.C_Sheet, T.NA_Sheet_count⟩, fun _ h => by cases h⟩))) (fun s0 H0 _ _ fp0 => axgc_name (i := 2) (CxE.blk C.toCxE s0 H0 _ _ fp0).nd) (fun s0 H0 _ _ fp0 => axts_one (axt_cmp op_Lt (ax_ix (op_IxA (CxE.blk C.toCxE s0 H0 _ _ fp0)) (ax_fld (ax_var 0) (List.forall_mem_cons.mpr ⟨⟨T.C_Sheet, T.NA_Sheet_costs⟩, fun _ h => by cases h⟩)) (ax_var 2)) (ax_int))) (fun s0 H0 _ _ fp0 => ax_var 2)).1)
    (axb_one (axs_while C (axt_val (ax_var 1)) (axb_cons (axs_expr (ax_methV C.toCxE (ax_var 0) T.C_Sheet T.Me_Sheet_turn (ok_Sheet_turn T) (b_Sheet_turn_0 T) (fun _ => .nil) (axa_cons (ax_methV C.toCxE (ax_var 0) T.C_Sheet T.Me_Sheet_leaving (ok_Sheet_leaving T) (b_Sheet_leaving_0 T) (fun _ => .nil) (axa_cons (ax_ix (op_IxA C.toCxE) (ax_var 1) (ax_int)) (axa_nil)) (by decide)) (axa_cons (ax_ix (op_IxA C.toCxE) (ax_var 1) (ax_int)) (axa_nil))) (by decide)))
    (axb_one ((axs_setLc (i := 1) [("column", 2)] C.toCxE (blk_of rfl) (axi_rng1 T.n_range (ax_fld (ax_var 0) (List.forall_mem_cons.mpr ⟨⟨T.C_Sheet, T.NA_Sheet_count⟩, fun _ h => by cases h⟩))) (fun s0 H0 _ _ fp0 => axgc_name (i := 2) (CxE.blk C.toCxE s0 H0 _ _ fp0).nd) (fun s0 H0 _ _ fp0 => axts_one (axt_cmp op_Lt (ax_ix (op_IxA (CxE.blk C.toCxE s0 H0 _ _ fp0)) (ax_fld (ax_var 0) (List.forall_mem_cons.mpr ⟨⟨T.C_Sheet, T.NA_Sheet_costs⟩, fun _ h => by cases h⟩)) (ax_var 2)) (ax_int))) (fun s0 H0 _ _ fp0 => ax_var 2)).1)))))
theorem sc_Sheet_amounts : FnScope ["self"] ["self"] (defScope s_Sheet_amounts) := ⟨rfl, rfl, rfl, by decide +kernel, rfl, by decide +kernel, by decide +kernel⟩
theorem ok_Sheet_amounts (T : Fcs P K mg) : FnOk P w K mg base (L2N.CX P w) 1 (He.ma K (He.ga K "Sheet") "amounts") (fdAt K (He.ma K (He.ga K "Sheet") "amounts")) ["self"] (SpA K m_Sheet_amounts) :=
  fn_ok (k := 0) T.F_Sheet_amounts sc_Sheet_amounts leadsP fun cdv A outer s H E C =>
    axb_one (axs_ret (ax_sl (ax_fld (ax_var 0) (List.forall_mem_cons.mpr ⟨⟨T.C_Sheet, T.NA_Sheet_costs⟩, fun _ h => by cases h⟩)) (axp_at (ax_fld (ax_var 0) (List.forall_mem_cons.mpr ⟨⟨T.C_Sheet, T.NA_Sheet_wide⟩, fun _ h => by cases h⟩))) (axp_at (ax_fld (ax_var 0) (List.forall_mem_cons.mpr ⟨⟨T.C_Sheet, T.NA_Sheet_count⟩, fun _ h => by cases h⟩)))))
theorem sc_divisor : FnScope ["numbers", "found", "number", "one", "other"] ["numbers"] (defScope s_divisor) := ⟨rfl, rfl, rfl, by decide +kernel, rfl, by decide +kernel, by decide +kernel⟩
theorem ok_divisor (T : Fcs P K mg) : FnOk P w K mg base (L2N.CX P w) 1 (He.ga K "divisor") (fdAt K (He.ga K "divisor")) ["numbers"] (SpA K m_divisor) :=
  fn_ok (k := 0) T.F_divisor sc_divisor leadsP fun cdv A outer s H E C =>
    axb_cons (axs_set (i := 1) C.nd (ax_int))
    (axb_cons (axs_for C (axi_seq (ax_var 0)) (axg_name (i := 2) C.toCxE.nd) (axb_cons (axs_par (i := 3) (j := 4) C.calm C.nd (axa_cons (ax_callB cb_abs T.n_abs rfl (axa_cons (ax_var 2) (axa_nil))) (axa_cons (ax_var 1) (axa_nil))))
    (axb_cons (axs_while C (axt_val (ax_var 4)) (axb_one (axs_par (i := 3) (j := 4) C.calm C.nd (axa_cons (ax_var 4) (axa_cons (ax_op op_Mod (ax_var 3) (ax_var 4)) (axa_nil))))))
    (axb_one (axs_set (i := 1) C.nd (ax_var 3))))))
    (axb_one (axs_ret (ax_var 1))))
theorem sc_lowest : FnScope ["numbers", "part", "number"] ["numbers"] (defScope s_lowest) := ⟨rfl, rfl, rfl, by decide +kernel, rfl, by decide +kernel, by decide +kernel⟩
theorem ok_lowest (T : Fcs P K mg) : FnOk P w K mg base (L2N.CX P w) 2 (He.ga K "lowest") (fdAt K (He.ga K "lowest")) ["numbers"] (SpA K m_lowest) :=
  fn_ok (k := 1) T.F_lowest sc_lowest leadsP fun cdv A outer s H E C =>
    axb_cons (axs_set (i := 1) C.nd (ax_call C.toCxE (ok_divisor T) T.g_divisor T.F_divisor.kp (b_divisor_0 T) (fun _ => .nil) (axa_cons (ax_var 0) (axa_nil)) (by decide)))
    (axb_one (axs_retF (axf_if (axt_val (ax_var 1)) (axf_lc [("number", 2)] C.toCxE (blk_of rfl) (axi_seq (ax_var 0)) (fun s0 H0 _ _ fp0 => axgc_name (i := 2) (CxE.blk C.toCxE s0 H0 _ _ fp0).nd) (fun s0 H0 _ _ fp0 => axts_nil) (fun s0 H0 _ _ fp0 => ax_op op_Fdiv (ax_var 2) (ax_var 1))) (axf_list T.n_list (ax_var 0)))))
theorem sc_Sheet_settle : FnScope ["self", "at", "column"] ["self"] (defScope s_Sheet_settle) := ⟨rfl, rfl, rfl, by decide +kernel, rfl, by decide +kernel, by decide +kernel⟩
theorem ok_Sheet_settle (T : Fcs P K mg) : FnOk P w K mg base (L2N.CX P w) 3 (He.ma K (He.ga K "Sheet") "settle") (fdAt K (He.ma K (He.ga K "Sheet") "settle")) ["self"] (SpA K m_Sheet_settle) :=
  fn_ok (k := 2) T.F_Sheet_settle sc_Sheet_settle leadsP fun cdv A outer s H E C =>
    axb_one (axs_if (axt_cmp (op_In C.toCxE) (ax_fld (ax_var 0) (List.forall_mem_cons.mpr ⟨⟨T.C_Sheet, T.NA_Sheet_count⟩, fun _ h => by cases h⟩)) (ax_fld (ax_var 0) (List.forall_mem_cons.mpr ⟨⟨T.C_Sheet, T.NA_Sheet_basis⟩, fun _ h => by cases h⟩))) (axb_cons (axs_set (i := 1) C.nd (ax_idx C.toCxE (ax_fld (ax_var 0) (List.forall_mem_cons.mpr ⟨⟨T.C_Sheet, T.NA_Sheet_basis⟩, fun _ h => by cases h⟩)) (ax_fld (ax_var 0) (List.forall_mem_cons.mpr ⟨⟨T.C_Sheet, T.NA_Sheet_count⟩, fun _ h => by cases h⟩))))
    (axb_one (axs_expr (ax_methV C.toCxE (ax_var 0) T.C_Sheet T.Me_Sheet_turn (ok_Sheet_turn T) (b_Sheet_turn_0 T) (fun _ => .nil) (axa_cons (ax_var 1) (axa_cons (ax_ix (op_IxA C.toCxE) (axf_e (axf_lc [("column", 2)] C.toCxE (blk_of rfl) (axi_rng1 T.n_range (ax_fld (ax_var 0) (List.forall_mem_cons.mpr ⟨⟨T.C_Sheet, T.NA_Sheet_count⟩, fun _ h => by cases h⟩))) (fun s0 H0 _ _ fp0 => axgc_name (i := 2) (CxE.blk C.toCxE s0 H0 _ _ fp0).nd) (fun s0 H0 _ _ fp0 => axts_one (axt_cmp (op_Ne (CxE.blk C.toCxE s0 H0 _ _ fp0)) (ax_ix (op_IxA (CxE.blk C.toCxE s0 H0 _ _ fp0)) (ax_ix (op_IxA (CxE.blk C.toCxE s0 H0 _ _ fp0)) (ax_fld (ax_var 0) (List.forall_mem_cons.mpr ⟨⟨T.C_Sheet, T.NA_Sheet_lines⟩, fun _ h => by cases h⟩)) (ax_var 1)) (ax_var 2)) (ax_int))) (fun s0 H0 _ _ fp0 => ax_var 2))) (ax_int)) (axa_nil))) (by decide))))) (axb_nil))
theorem sc_Sheet_charge : FnScope ["self", "goal", "rests", "line", "at", "basic", "column", "cost", "item", "part"] ["self", "goal"] (defScope s_Sheet_charge) := ⟨rfl, rfl, rfl, by decide +kernel, rfl, by decide +kernel, by decide +kernel⟩
theorem ok_Sheet_charge (T : Fcs P K mg) : FnOk P w K mg base (L2N.CX P w) 1 (He.ma K (He.ga K "Sheet") "charge") (fdAt K (He.ma K (He.ga K "Sheet") "charge")) ["self", "goal"] (SpA K m_Sheet_charge) :=
  fn_ok (k := 0) T.F_Sheet_charge sc_Sheet_charge leadsP fun cdv A outer s H E C =>
    axb_cons ((axs_setLc (i := 2) [("column", 6)] C.toCxE (blk_of rfl) (axi_rng2 T.n_range (ax_fld (ax_var 0) (List.forall_mem_cons.mpr ⟨⟨T.C_Sheet, T.NA_Sheet_wide⟩, fun _ h => by cases h⟩)) (ax_fld (ax_var 0) (List.forall_mem_cons.mpr ⟨⟨T.C_Sheet, T.NA_Sheet_count⟩, fun _ h => by cases h⟩))) (fun s0 H0 _ _ fp0 => axgc_name (i := 6) (CxE.blk C.toCxE s0 H0 _ _ fp0).nd) (fun s0 H0 _ _ fp0 => axts_nil) (fun s0 H0 _ _ fp0 => ax_int)).1)
    (axb_cons ((axs_setLc (i := 3) [("cost", 7)] C.toCxE (blk_of rfl) (axi_seq (ax_lst (axa_star (axf_e (axf_lc [("item", 8)] C.toCxE (blk_of rfl) (axi_seq (ax_var 1)) (fun s0 H0 _ _ fp0 => axgc_name (i := 8) (CxE.blk C.toCxE s0 H0 _ _ fp0).nd) (fun s0 H0 _ _ fp0 => axts_nil) (fun s0 H0 _ _ fp0 => ax_un op_Neg (ax_var 8)))) (axa_star (ax_var 2) (axa_cons (ax_int) (axa_cons (ax_int) (axa_nil))))))) (fun s0 H0 _ _ fp0 => axgc_name (i := 7) (CxE.blk C.toCxE s0 H0 _ _ fp0).nd) (fun s0 H0 _ _ fp0 => axts_nil) (fun s0 H0 _ _ fp0 => ax_op op_Mul (ax_fld (ax_var 0) (List.forall_mem_cons.mpr ⟨⟨T.C_Sheet, T.NA_Sheet_base⟩, fun _ h => by cases h⟩)) (ax_var 7))).1)
    (axb_cons (axs_for C (axi_enum T.n_enumerate (ax_fld (ax_var 0) (List.forall_mem_cons.mpr ⟨⟨T.C_Sheet, T.NA_Sheet_basis⟩, fun _ h => by cases h⟩))) (axg_tup (n := 2) C.toCxE.calm (axgs_cons (axg_name (i := 4) C.toCxE.nd) (axgs_cons (axg_name (i := 5) C.toCxE.nd) (axgs_nil)))) (axb_one (axs_if (axt_cmp op_Lt (ax_var 5) (ax_fld (ax_var 0) (List.forall_mem_cons.mpr ⟨⟨T.C_Sheet, T.NA_Sheet_wide⟩, fun _ h => by cases h⟩))) (axb_one ((axs_setLc (i := 3) [("item", 8), ("part", 9)] C.toCxE (blk_of rfl) (axi_zip T.n_zip (ax_var 3) (ax_ix (op_IxA C.toCxE) (ax_fld (ax_var 0) (List.forall_mem_cons.mpr ⟨⟨T.C_Sheet, T.NA_Sheet_lines⟩, fun _ h => by cases h⟩)) (ax_var 4))) (fun s0 H0 _ _ fp0 => axgc_tup (n := 2) (CxE.blk C.toCxE s0 H0 _ _ fp0).calm (axgcs_cons (axgc_name (i := 8) (CxE.blk C.toCxE s0 H0 _ _ fp0).nd) (axgcs_cons (axgc_name (i := 9) (CxE.blk C.toCxE s0 H0 _ _ fp0).nd) (axgcs_nil)))) (fun s0 H0 _ _ fp0 => axts_nil) (fun s0 H0 _ _ fp0 => ax_op op_Add (ax_var 8) (ax_op op_Mul (ax_ix (op_IxA (CxE.blk C.toCxE s0 H0 _ _ fp0)) (ax_var 1) (ax_var 5)) (ax_var 9)))).1)) (axb_nil))))
    (axb_one (axs_fld (ax_var 0) (ax_var 3) T.C_Sheet T.NA_Sheet_costs))))
theorem sc_Sheet_mix : FnScope ["self", "found", "at", "basic", "column"] ["self"] (defScope s_Sheet_mix) := ⟨rfl, rfl, rfl, by decide +kernel, rfl, by decide +kernel, by decide +kernel⟩
theorem ok_Sheet_mix (T : Fcs P K mg) : FnOk P w K mg base (L2N.CX P w) 3 (He.ma K (He.ga K "Sheet") "mix") (fdAt K (He.ma K (He.ga K "Sheet") "mix")) ["self"] (SpA K m_Sheet_mix) :=
  fn_ok (k := 2) T.F_Sheet_mix sc_Sheet_mix leadsC fun cdv A outer s H E C =>
    axb_cons ((axs_setLc (i := 1) [("column", 4)] C.toCxE (blk_of rfl) (axi_rng1 T.n_range (ax_fld (ax_var 0) (List.forall_mem_cons.mpr ⟨⟨T.C_Sheet, T.NA_Sheet_wide⟩, fun _ h => by cases h⟩))) (fun s0 H0 _ _ fp0 => axgc_name (i := 4) (CxE.blk C.toCxE s0 H0 _ _ fp0).nd) (fun s0 H0 _ _ fp0 => axts_nil) (fun s0 H0 _ _ fp0 => ax_int)).2)
    (axb_cons (axs_for C (axi_enum T.n_enumerate (ax_fld (ax_var 0) (List.forall_mem_cons.mpr ⟨⟨T.C_Sheet, T.NA_Sheet_basis⟩, fun _ h => by cases h⟩))) (axg_tup (n := 2) C.toCxE.calm (axgs_cons (axg_name (i := 2) C.toCxE.nd) (axgs_cons (axg_name (i := 3) C.toCxE.nd) (axgs_nil)))) (axb_one (axs_if (axt_cmp op_Lt (ax_var 3) (ax_fld (ax_var 0) (List.forall_mem_cons.mpr ⟨⟨T.C_Sheet, T.NA_Sheet_wide⟩, fun _ h => by cases h⟩))) (axb_one (axs_setIx (ax_ix (op_IxA C.toCxE) (ax_ix (op_IxA C.toCxE) (ax_fld (ax_var 0) (List.forall_mem_cons.mpr ⟨⟨T.C_Sheet, T.NA_Sheet_lines⟩, fun _ h => by cases h⟩)) (ax_var 2)) (ax_un op_Neg (ax_int))) (ax_var 1) (ax_var 3))) (axb_nil))))
    (axb_one (axs_retF (axf_call C.toCxE (ok_lowest T) T.g_lowest T.F_lowest.kp (b_lowest_0 T) (fun _ => .nil) (axa_cons (ax_var 1) (axa_nil)) (by decide)))))
theorem sc_weighed : FnScope ["numbers", "others", "number", "other"] ["numbers", "others"] (defScope s_weighed) := ⟨rfl, rfl, rfl, by decide +kernel, rfl, by decide +kernel, by decide +kernel⟩
theorem ok_weighed (T : Fcs P K mg) : FnOk P w K mg base (L2N.CX P w) 1 (He.ga K "weighed") (fdAt K (He.ga K "weighed")) ["numbers", "others"] (SpA K m_weighed) :=
  fn_ok (k := 0) T.F_weighed sc_weighed leadsP fun cdv A outer s H E C =>
    axb_one (axs_ret (ax_callB (cb_sum C.toCxE) T.n_sum rfl (axa_cons (axf_e (axf_lc [("number", 2), ("other", 3)] C.toCxE (blk_of rfl) (axi_zip T.n_zip (ax_var 0) (ax_var 1)) (fun s0 H0 _ _ fp0 => axgc_tup (n := 2) (CxE.blk C.toCxE s0 H0 _ _ fp0).calm (axgcs_cons (axgc_name (i := 2) (CxE.blk C.toCxE s0 H0 _ _ fp0).nd) (axgcs_cons (axgc_name (i := 3) (CxE.blk C.toCxE s0 H0 _ _ fp0).nd) (axgcs_nil)))) (fun s0 H0 _ _ fp0 => axts_nil) (fun s0 H0 _ _ fp0 => ax_op op_Mul (ax_var 2) (ax_var 3)))) (axa_nil))))
theorem sc_ratio : FnScope ["top", "bottom", "part"] ["top", "bottom"] (defScope s_ratio) := ⟨rfl, rfl, rfl, by decide +kernel, rfl, by decide +kernel, by decide +kernel⟩
theorem ok_ratio (T : Fcs P K mg) : FnOk P w K mg base (L2N.CX P w) 3 (He.ga K "ratio") (fdAt K (He.ga K "ratio")) ["top", "bottom"] (SpA K m_ratio) :=
  fn_ok (k := 2) T.F_ratio sc_ratio leadsP fun cdv A outer s H E C =>
    axb_cons (axs_if (axt_cmp (op_Eq C.toCxE) (ax_var 1) (ax_int)) (axb_one (axs_raise1 (k := 1) (C.mono (by decide)) T.X_BadRatio.ox T.X_BadRatio.ini T.X_BadRatio.tyf (okx_BadRatio T) (bx_BadRatio T) T.g_BadRatio (ax_var 1))) (axb_nil))
    (axb_cons (axs_set (i := 2) C.nd (ax_call C.toCxE (ok_divisor T) T.g_divisor T.F_divisor.kp (b_divisor_0 T) (fun _ => .nil) (axa_cons (ax_lst (axa_cons (ax_var 0) (axa_cons (ax_var 1) (axa_nil)))) (axa_nil)) (by decide)))
    (axb_cons (axs_if (axt_cmp op_Lt (ax_var 1) (ax_int)) (axb_one (axs_set (i := 2) C.nd (ax_un op_Neg (ax_var 2)))) (axb_nil))
    (axb_one (axs_ret (ax_tup (axa_cons (ax_op op_Fdiv (ax_var 0) (ax_var 2)) (axa_cons (ax_op op_Fdiv (ax_var 1) (ax_var 2)) (axa_nil))))))))
theorem sc_greatest : FnScope ["rows", "goal", "sheet", "mix", "scale", "amounts"] ["rows", "goal"] (defScope s_greatest) := ⟨rfl, rfl, rfl, by decide +kernel, rfl, by decide +kernel, by decide +kernel⟩
theorem ok_greatest (T : Fcs P K mg) : FnOk P w K mg base (L2N.CX P w) 4 (He.ga K "greatest") (fdAt K (He.ga K "greatest")) ["rows", "goal"] (SpA K m_greatest) :=
  fn_ok (k := 3) T.F_greatest sc_greatest leadsC fun cdv A outer s H E C =>
    axb_cons (axs_expr (ax_call C.toCxE (ok_check_rows T) T.g_check_rows T.F_check_rows.kp (b_check_rows_0 T) (fun _ => .nil) (axa_cons (ax_var 0) (axa_cons (ax_var 1) (axa_nil))) (by decide)))
    (axb_cons (axs_set (i := 2) C.nd (ax_newC C.toCxE T.Mk_Sheet (ok_Sheet___init__ T) T.g_Sheet (b_Sheet___init___0 T) (fun _ => .nil) (axa_cons (ax_var 0) (axa_cons (ax_callB cb_len T.n_len rfl (axa_cons (ax_var 1) (axa_nil))) (axa_nil))) (by decide)))
    (axb_cons (axs_expr (ax_meth0V C.toCxE (ax_var 2) T.C_Sheet T.Me_Sheet_run (ok_Sheet_run T) (b_Sheet_run_0 T) (fun _ => .nil) (by decide)))
    (axb_cons (axs_if (axt_cmp op_Lt (ax_ix (op_IxA C.toCxE) (ax_fld (ax_var 2) (List.forall_mem_cons.mpr ⟨⟨T.C_Sheet, T.NA_Sheet_costs⟩, fun _ h => by cases h⟩)) (ax_un op_Neg (ax_int))) (ax_int)) (axb_one (axs_ret (ax_tup (axa_cons (ax_str) (axa_cons (ax_call C.toCxE (ok_lowest T) T.g_lowest T.F_lowest.kp (b_lowest_0 T) (fun _ => .nil) (axa_cons (ax_meth0V C.toCxE (ax_var 2) T.C_Sheet T.Me_Sheet_amounts (ok_Sheet_amounts T) (b_Sheet_amounts_0 T) (fun _ => .nil) (by decide)) (axa_nil)) (by decide)) (axa_nil)))))) (axb_nil))
    (axb_cons (axs_expr (ax_meth0V C.toCxE (ax_var 2) T.C_Sheet T.Me_Sheet_settle (ok_Sheet_settle T) (b_Sheet_settle_0 T) (fun _ => .nil) (by decide)))
    (axb_cons (axs_expr (ax_methV C.toCxE (ax_var 2) T.C_Sheet T.Me_Sheet_charge (ok_Sheet_charge T) (b_Sheet_charge_0 T) (fun _ => .nil) (axa_cons (ax_var 1) (axa_nil)) (by decide)))
    (axb_cons (axs_expr (ax_meth0V C.toCxE (ax_var 2) T.C_Sheet T.Me_Sheet_run (ok_Sheet_run T) (b_Sheet_run_0 T) (fun _ => .nil) (by decide)))
    (axb_cons (axs_unp1 (i := 4) (j := 5) C.toCxE (ax_call C.toCxE (ok_lowest T) T.g_lowest T.F_lowest.kp (b_lowest_0 T) (fun _ => .nil) (axa_cons (ax_lst (axa_cons (ax_fld (ax_var 2) (List.forall_mem_cons.mpr ⟨⟨T.C_Sheet, T.NA_Sheet_base⟩, fun _ h => by cases h⟩)) (axa_star (ax_meth0V C.toCxE (ax_var 2) T.C_Sheet T.Me_Sheet_amounts (ok_Sheet_amounts T) (b_Sheet_amounts_0 T) (fun _ => .nil) (by decide)) (axa_nil)))) (axa_nil)) (by decide)))
    (axb_cons (axs_set (i := 3) C.nd (ax_meth0V C.toCxE (ax_var 2) T.C_Sheet T.Me_Sheet_mix (ok_Sheet_mix T) (b_Sheet_mix_0 T) (fun _ => .nil) (by decide)))
    (axb_one (axs_ret (ax_tup (axa_cons (ax_str) (axa_cons (ax_var 3) (axa_cons (ax_call C.toCxE (ok_ratio T) T.g_ratio T.F_ratio.kp (b_ratio_0 T) (fun _ => .nil) (axa_cons (ax_call C.toCxE (ok_weighed T) T.g_weighed T.F_weighed.kp (b_weighed_0 T) (fun _ => .nil) (axa_cons (ax_var 1) (axa_cons (ax_var 3) (axa_nil))) (by decide)) (axa_cons (ax_callB (cb_sum C.toCxE) T.n_sum rfl (axa_cons (ax_var 3) (axa_nil))) (axa_nil))) (by decide)) (axa_cons (ax_var 4) (axa_cons (ax_var 5) (axa_nil)))))))))))))))))
theorem sc_are_amounts : FnScope ["rows", "amounts", "amount"] ["rows", "amounts"] (defScope s_are_amounts) := ⟨rfl, rfl, rfl, by decide +kernel, rfl, by decide +kernel, by decide +kernel⟩
theorem ok_are_amounts (T : Fcs P K mg) : FnOk P w K mg base (L2N.CX P w) 1 (He.ga K "are_amounts") (fdAt K (He.ga K "are_amounts")) ["rows", "amounts"] (SpA K m_are_amounts) :=
  fn_ok (k := 0) T.F_are_amounts sc_are_amounts leadsP fun cdv A outer s H E C =>
    axb_one (axs_ret (ax_and (ax_cmp (op_Eq C.toCxE) (ax_callB cb_len T.n_len rfl (axa_cons (ax_var 1) (axa_nil))) (ax_callB cb_len T.n_len rfl (axa_cons (ax_var 0) (axa_nil)))) (ax_one (ax_callB (cb_all C.toCxE) T.n_all rfl (axa_cons (axf_e (axf_lc [("amount", 2)] C.toCxE (blk_of rfl) (axi_seq (ax_var 1)) (fun s0 H0 _ _ fp0 => axgc_name (i := 2) (CxE.blk C.toCxE s0 H0 _ _ fp0).nd) (fun s0 H0 _ _ fp0 => axts_nil) (fun s0 H0 _ _ fp0 => ax_cmp op_Ge (ax_var 2) (ax_int)))) (axa_nil))))))
theorem sc_added : FnScope ["rows", "amounts", "wide", "found", "row", "amount", "at", "one", "item"] ["rows", "amounts", "wide"] (defScope s_added) := ⟨rfl, rfl, rfl, by decide +kernel, rfl, by decide +kernel, by decide +kernel⟩
theorem ok_added (T : Fcs P K mg) : FnOk P w K mg base (L2N.CX P w) 1 (He.ga K "added") (fdAt K (He.ga K "added")) ["rows", "amounts", "wide"] (SpA K m_added) :=
  fn_ok (k := 0) T.F_added sc_added leadsP fun cdv A outer s H E C =>
    axb_cons ((axs_setLc (i := 3) [("at", 6)] C.toCxE (blk_of rfl) (axi_rng1 T.n_range (ax_var 2)) (fun s0 H0 _ _ fp0 => axgc_name (i := 6) (CxE.blk C.toCxE s0 H0 _ _ fp0).nd) (fun s0 H0 _ _ fp0 => axts_nil) (fun s0 H0 _ _ fp0 => ax_int)).1)
    (axb_cons (axs_for C (axi_zip T.n_zip (ax_var 0) (ax_var 1)) (axg_tup (n := 2) C.toCxE.calm (axgs_cons (axg_name (i := 4) C.toCxE.nd) (axgs_cons (axg_name (i := 5) C.toCxE.nd) (axgs_nil)))) (axb_one ((axs_setLc (i := 3) [("one", 7), ("item", 8)] C.toCxE (blk_of rfl) (axi_zip T.n_zip (ax_var 3) (ax_var 4)) (fun s0 H0 _ _ fp0 => axgc_tup (n := 2) (CxE.blk C.toCxE s0 H0 _ _ fp0).calm (axgcs_cons (axgc_name (i := 7) (CxE.blk C.toCxE s0 H0 _ _ fp0).nd) (axgcs_cons (axgc_name (i := 8) (CxE.blk C.toCxE s0 H0 _ _ fp0).nd) (axgcs_nil)))) (fun s0 H0 _ _ fp0 => axts_nil) (fun s0 H0 _ _ fp0 => ax_op op_Add (ax_var 7) (ax_op op_Mul (ax_var 5) (ax_var 8)))).1)))
    (axb_one (axs_ret (ax_var 3))))
theorem sc_is_allowed : FnScope ["rows", "mix", "wide", "row"] ["rows", "mix", "wide"] (defScope s_is_allowed) := ⟨rfl, rfl, rfl, by decide +kernel, rfl, by decide +kernel, by decide +kernel⟩
theorem ok_is_allowed (T : Fcs P K mg) : FnOk P w K mg base (L2N.CX P w) 2 (He.ga K "is_allowed") (fdAt K (He.ga K "is_allowed")) ["rows", "mix", "wide"] (SpA K m_is_allowed) :=
  fn_ok (k := 1) T.F_is_allowed sc_is_allowed leadsP fun cdv A outer s H E C =>
    axb_cons (axs_if (axt_w (axw_or (axt_cmp (op_Ne C.toCxE) (ax_callB cb_len T.n_len rfl (axa_cons (ax_var 1) (axa_nil))) (ax_var 2)) (axw_or (axt_cmp op_Lt (ax_callB (cb_minA C.toCxE) T.n_min rfl (axa_cons (ax_var 1) (axa_nil))) (ax_int)) (axw_or1 (axt_cmp (op_Eq C.toCxE) (ax_callB (cb_sumA C.toCxE) T.n_sum rfl (axa_cons (ax_var 1) (axa_nil))) (ax_int)))))) (axb_one (axs_ret (ax_bl))) (axb_nil))
    (axb_one (axs_ret (ax_callB (cb_all C.toCxE) T.n_all rfl (axa_cons (axf_e (axf_lc [("row", 3)] C.toCxE (blk_of rfl) (axi_seq (ax_var 0)) (fun s0 H0 _ _ fp0 => axgc_name (i := 3) (CxE.blk C.toCxE s0 H0 _ _ fp0).nd) (fun s0 H0 _ _ fp0 => axts_nil) (fun s0 H0 _ _ fp0 => ax_cmp op_Ge (ax_call (CxE.blk C.toCxE s0 H0 _ _ fp0) (ok_weighed T) T.g_weighed T.F_weighed.kp (b_weighed_0 T) (fun _ => .nil) (axa_cons (ax_var 3) (axa_cons (ax_var 1) (axa_nil))) (by decide)) (ax_int)))) (axa_nil)))))
theorem sc_is_answer : FnScope ["rows", "goal", "answer", "wide", "sums", "word", "mix", "value", "scale", "amounts", "item", "part"] ["rows", "goal", "answer"] (defScope s_is_answer) := ⟨rfl, rfl, rfl, by decide +kernel, rfl, by decide +kernel, by decide +kernel⟩
theorem ok_is_answer (T : Fcs P K mg) : FnOk P w K mg base (L2N.CX P w) 4 (He.ga K "is_answer") (fdAt K (He.ga K "is_answer")) ["rows", "goal", "answer"] (SpA K m_is_answer) :=
  fn_ok (k := 3) T.F_is_answer sc_is_answer leadsP fun cdv A outer s H E C =>
    axb_cons (axs_expr (ax_call C.toCxE (ok_check_rows T) T.g_check_rows T.F_check_rows.kp (b_check_rows_0 T) (fun _ => .nil) (axa_cons (ax_var 0) (axa_cons (ax_var 1) (axa_nil))) (by decide)))
    (axb_cons (axs_set (i := 3) C.nd (ax_callB cb_len T.n_len rfl (axa_cons (ax_var 1) (axa_nil))))
    (axb_cons (axs_if (axt_cmp (op_Eq C.toCxE) (ax_ix (op_IxA C.toCxE) (ax_var 2) (ax_int)) (ax_str)) (axb_one (axs_ret (ax_and (ax_call C.toCxE (ok_are_amounts T) T.g_are_amounts T.F_are_amounts.kp (b_are_amounts_0 T) (fun _ => .nil) (axa_cons (ax_var 0) (axa_cons (ax_ix (op_IxA C.toCxE) (ax_var 2) (ax_int)) (axa_nil))) (by decide)) (ax_one (ax_cmp op_Lt (ax_callB (cb_max1 C.toCxE) T.n_max rfl (axa_cons (ax_call C.toCxE (ok_added T) T.g_added T.F_added.kp (b_added_0 T) (fun _ => .nil) (axa_cons (ax_var 0) (axa_cons (ax_ix (op_IxA C.toCxE) (ax_var 2) (ax_int)) (axa_cons (ax_var 3) (axa_nil)))) (by decide)) (axa_nil))) (ax_int)))))) (axb_nil))
    (axb_cons (axs_asg (ax_var 2) (axg_tup (n := 5) C.toCxE.calm (axgs_cons (axg_name (i := 5) C.toCxE.nd) (axgs_cons (axg_name (i := 6) C.toCxE.nd) (axgs_cons (axg_name (i := 7) C.toCxE.nd) (axgs_cons (axg_name (i := 8) C.toCxE.nd) (axgs_cons (axg_name (i := 9) C.toCxE.nd) (axgs_nil))))))))
    (axb_cons (axs_if (axt_w (axw_or (axt_not (axt_val (ax_call C.toCxE (ok_is_allowed T) T.g_is_allowed T.F_is_allowed.kp (b_is_allowed_0 T) (fun _ => .nil) (axa_cons (ax_var 0) (axa_cons (ax_var 6) (axa_cons (ax_var 3) (axa_nil)))) (by decide)))) (axw_or1 (axt_cmp (op_Ne C.toCxE) (ax_call C.toCxE (ok_ratio T) T.g_ratio T.F_ratio.kp (b_ratio_0 T) (fun _ => .nil) (axa_cons (ax_call C.toCxE (ok_weighed T) T.g_weighed T.F_weighed.kp (b_weighed_0 T) (fun _ => .nil) (axa_cons (ax_var 1) (axa_cons (ax_var 6) (axa_nil))) (by decide)) (axa_cons (ax_callB (cb_sumA C.toCxE) T.n_sum rfl (axa_cons (ax_var 6) (axa_nil))) (axa_nil))) (by decide)) (ax_var 7))))) (axb_one (axs_ret (ax_bl))) (axb_nil))
    (axb_cons (axs_if (axt_w (axw_or (axt_cmp op_Lt (ax_var 8) (ax_int)) (axw_or1 (axt_not (axt_val (ax_call C.toCxE (ok_are_amounts T) T.g_are_amounts T.F_are_amounts.kp (b_are_amounts_0 T) (fun _ => .nil) (axa_cons (ax_var 0) (axa_cons (ax_var 9) (axa_nil))) (by decide))))))) (axb_one (axs_ret (ax_bl))) (axb_nil))
    (axb_cons (axs_set (i := 4) C.nd (ax_call C.toCxE (ok_added T) T.g_added T.F_added.kp (b_added_0 T) (fun _ => .nil) (axa_cons (ax_var 0) (axa_cons (ax_var 9) (axa_cons (ax_var 3) (axa_nil)))) (by decide)))
    (axb_one (axs_ret (ax_callB (cb_all C.toCxE) T.n_all rfl (axa_cons (axf_e (axf_lc [("item", 10), ("part", 11)] C.toCxE (blk_of rfl) (axi_zip T.n_zip (ax_var 1) (ax_var 4)) (fun s0 H0 _ _ fp0 => axgc_tup (n := 2) (CxE.blk C.toCxE s0 H0 _ _ fp0).calm (axgcs_cons (axgc_name (i := 10) (CxE.blk C.toCxE s0 H0 _ _ fp0).nd) (axgcs_cons (axgc_name (i := 11) (CxE.blk C.toCxE s0 H0 _ _ fp0).nd) (axgcs_nil)))) (fun s0 H0 _ _ fp0 => axts_nil) (fun s0 H0 _ _ fp0 => ax_cmp op_Le (ax_op op_Mul (ax_op op_Add (ax_op op_Mul (ax_var 8) (ax_var 10)) (ax_var 11)) (ax_ix (op_IxA (CxE.blk C.toCxE s0 H0 _ _ fp0)) (ax_var 7) (ax_int))) (ax_op op_Mul (ax_var 8) (ax_ix (op_IxA (CxE.blk C.toCxE s0 H0 _ _ fp0)) (ax_var 7) (ax_int)))))) (axa_nil)))))))))))
theorem sc__law_refused : FnScope ["_law_rows", "_law_goal", "_law_kind"] ["_law_rows", "_law_goal", "_law_kind"] (defScope s__law_refused) := ⟨rfl, rfl, rfl, by decide +kernel, rfl, by decide +kernel, by decide +kernel⟩
theorem ok__law_refused (T : Fcs P K mg) : FnOk P w K mg base (L2N.CX P w) 5 (He.ga K "_law_refused") (fdAt K (He.ga K "_law_refused")) ["_law_rows", "_law_goal", "_law_kind"] (SpA K m__law_refused) :=
  fn_ok (k := 4) T.F__law_refused sc__law_refused leadsP fun cdv A outer s H E C =>
    axb_cons (axs_tryOnly C (fun _ _ _ C1 => axb_one (axs_if (axt_cmp (op_Eq C1.toCxE) (ax_var 2) (ax_int)) (axb_one (axs_expr (ax_call C1.toCxE (ok_greatest T) T.g_greatest T.F_greatest.kp (b_greatest_0 T) (fun _ => .nil) (axa_cons (ax_var 0) (axa_cons (ax_var 1) (axa_nil))) (by decide)))) (axb_one (axs_expr (ax_call C1.toCxE (ok_is_answer T) T.g_is_answer T.F_is_answer.kp (b_is_answer_0 T) (fun _ => .nil) (axa_cons (ax_var 0) (axa_cons (ax_var 1) (axa_cons (ax_tup (axa_cons (ax_str) (axa_cons (ax_lst (axa_cons (ax_int) (axa_nil))) (axa_nil)))) (axa_nil)))) (by decide)))))) (axh_cons T.g_BadRows (xm_BadRows_ok T) (fun a oe c d pn hz hf => axb_one (axs_ret (ax_bl))) (axh_nil)))
    (axb_one (axs_ret (ax_bl)))
theorem sc__law_bent : FnScope ["_law_pool_here", "_law_numbers_here", "_law_kind", "_law_at", "_law_wrong"] ["_law_pool_here", "_law_numbers_here"] (defScope s__law_bent) := ⟨rfl, rfl, rfl, by decide +kernel, rfl, by decide +kernel, by decide +kernel⟩
theorem ok__law_bent (T : Fcs P K mg) : FnOk P w K mg base (L2N.CX P w) 2 (He.ga K "_law_bent") (fdAt K (He.ga K "_law_bent")) ["_law_pool_here", "_law_numbers_here"] (SpA K m__law_bent) :=
  fn_ok (k := 1) T.F__law_bent sc__law_bent leadsP fun cdv A outer s H E C =>
    axb_cons (axs_set (i := 2) C.nd (ax_call C.toCxE (ok__law_take T) T.g__law_take T.F__law_take.kp (b__law_take_0 T) (fun _ => .nil) (axa_cons (ax_var 0) (axa_cons (ax_int) (axa_nil))) (by decide)))
    (axb_cons (axs_set (i := 3) C.nd (ax_call C.toCxE (ok__law_take T) T.g__law_take T.F__law_take.kp (b__law_take_0 T) (fun _ => .nil) (axa_cons (ax_var 0) (axa_cons (ax_op op_Add (ax_callB cb_len T.n_len rfl (axa_cons (ax_var 1) (axa_nil))) (ax_int)) (axa_nil))) (by decide)))
    (axb_cons (axs_set (i := 4) C.nd (ax_ix (op_IxA C.toCxE) (ax_lst (axa_cons (ax_bl) (axa_cons (ax_non) (axa_cons (ax_str) (axa_cons (ax_str) (axa_cons (ax_lst (axa_cons (ax_int) (axa_nil))) (axa_nil))))))) (ax_call C.toCxE (ok__law_take T) T.g__law_take T.F__law_take.kp (b__law_take_0 T) (fun _ => .nil) (axa_cons (ax_var 0) (axa_cons (ax_int) (axa_nil))) (by decide))))
    (axb_cons (axs_if (axt_cmp (op_Eq C.toCxE) (ax_var 2) (ax_int)) (axb_one (axs_ret (ax_op op_Add (ax_sl (ax_var 1) (axp_no) (axp_at (ax_var 3))) (ax_sl (ax_var 1) (axp_at (ax_op op_Add (ax_var 3) (ax_int))) (axp_no))))) (axb_nil))
    (axb_cons (axs_if (axt_cmp (op_Eq C.toCxE) (ax_var 2) (ax_int)) (axb_one (axs_ret (ax_op op_Add (ax_op op_Add (ax_sl (ax_var 1) (axp_no) (axp_at (ax_var 3))) (ax_lst (axa_cons (ax_var 4) (axa_nil)))) (ax_sl (ax_var 1) (axp_at (ax_op op_Add (ax_var 3) (ax_int))) (axp_no))))) (axb_nil))
    (axb_cons (axs_if (axt_cmp (op_Eq C.toCxE) (ax_var 2) (ax_int)) (axb_one (axs_ret (ax_op op_Add (ax_op op_Add (ax_sl (ax_var 1) (axp_no) (axp_at (ax_var 3))) (ax_lst (axa_cons (ax_int) (axa_nil)))) (ax_sl (ax_var 1) (axp_at (ax_var 3)) (axp_no))))) (axb_nil))
    (axb_one (axs_ret (ax_ix (op_IxA C.toCxE) (ax_lst (axa_cons (ax_non) (axa_cons (ax_int) (axa_cons (ax_str) (axa_cons (ax_bl) (axa_nil)))))) (ax_call C.toCxE (ok__law_take T) T.g__law_take T.F__law_take.kp (b__law_take_0 T) (fun _ => .nil) (axa_cons (ax_var 0) (axa_cons (ax_int) (axa_nil))) (by decide))))))))))
theorem sc__law_is_number : FnScope ["_law_thing"] ["_law_thing"] (defScope s__law_is_number) := ⟨rfl, rfl, rfl, by decide +kernel, rfl, by decide +kernel, by decide +kernel⟩
theorem ok__law_is_number (T : Fcs P K mg) : FnOk P w K mg base (L2N.CX P w) 1 (He.ga K "_law_is_number") (fdAt K (He.ga K "_law_is_number")) ["_law_thing"] (SpA K m__law_is_number) :=
  fn_ok (k := 0) T.F__law_is_number sc__law_is_number leadsP fun cdv A outer s H E C =>
    axb_one (axs_ret (ax_and (ax_callB cb_isi T.n_isinstance rfl (axa_cons (ax_var 0) (axa_cons (ax_ty T.n_int rfl) (axa_nil)))) (ax_one (ax_not (ax_callB cb_isi T.n_isinstance rfl (axa_cons (ax_var 0) (axa_cons (ax_ty T.n_bool rfl) (axa_nil))))))))
theorem sc__law_numbers : FnScope ["_law_value", "_law_item"] ["_law_value"] (defScope s__law_numbers) := ⟨rfl, rfl, rfl, by decide +kernel, rfl, by decide +kernel, by decide +kernel⟩
theorem ok__law_numbers (T : Fcs P K mg) : FnOk P w K mg base (L2N.CX P w) 2 (He.ga K "_law_numbers") (fdAt K (He.ga K "_law_numbers")) ["_law_value"] (SpA K m__law_numbers) :=
  fn_ok (k := 1) T.F__law_numbers sc__law_numbers leadsP fun cdv A outer s H E C =>
    axb_cons (axs_if (axt_w (axw_and (axt_not (axt_val (ax_callB cb_isi T.n_isinstance rfl (axa_cons (ax_var 0) (axa_cons (ax_ty T.n_list rfl) (axa_nil)))))) (axw_and1 (axt_not (axt_val (ax_callB cb_isi T.n_isinstance rfl (axa_cons (ax_var 0) (axa_cons (ax_ty T.n_tuple rfl) (axa_nil))))))))) (axb_one (axs_ret (ax_bl))) (axb_nil))
    (axb_one (axs_ret (ax_callB (cb_all C.toCxE) T.n_all rfl (axa_cons (axf_e (axf_lc [("_law_item", 1)] C.toCxE (blk_of rfl) (axi_seq (ax_var 0)) (fun s0 H0 _ _ fp0 => axgc_name (i := 1) (CxE.blk C.toCxE s0 H0 _ _ fp0).nd) (fun s0 H0 _ _ fp0 => axts_nil) (fun s0 H0 _ _ fp0 => ax_call (CxE.blk C.toCxE s0 H0 _ _ fp0) (ok__law_is_number T) T.g__law_is_number T.F__law_is_number.kp (b__law_is_number_0 T) (fun _ => .nil) (axa_cons (ax_var 1) (axa_nil)) (by decide)))) (axa_nil)))))
theorem sc__law_sound : FnScope ["_law_rows", "_law_goal", "_law_row"] ["_law_rows", "_law_goal"] (defScope s__law_sound) := ⟨rfl, rfl, rfl, by decide +kernel, rfl, by decide +kernel, by decide +kernel⟩
theorem ok__law_sound (T : Fcs P K mg) : FnOk P w K mg base (L2N.CX P w) 3 (He.ga K "_law_sound") (fdAt K (He.ga K "_law_sound")) ["_law_rows", "_law_goal"] (SpA K m__law_sound) :=
  fn_ok (k := 2) T.F__law_sound sc__law_sound leadsP fun cdv A outer s H E C =>
    axb_cons (axs_if (axt_w (axw_or (axt_not (axt_val (ax_call C.toCxE (ok__law_numbers T) T.g__law_numbers T.F__law_numbers.kp (b__law_numbers_0 T) (fun _ => .nil) (axa_cons (ax_var 1) (axa_nil)) (by decide)))) (axw_or (axt_cmp (op_Eq C.toCxE) (ax_callB cb_len T.n_len rfl (axa_cons (ax_var 1) (axa_nil))) (ax_int)) (axw_or1 (axt_not (axt_val (ax_callB cb_isi T.n_isinstance rfl (axa_cons (ax_var 0) (axa_cons (ax_ty T.n_list rfl) (axa_nil)))))))))) (axb_one (axs_ret (ax_bl))) (axb_nil))
    (axb_one (axs_ret (ax_callB (cb_all C.toCxE) T.n_all rfl (axa_cons (axf_e (axf_lc [("_law_row", 2)] C.toCxE (blk_of rfl) (axi_seq (ax_var 0)) (fun s0 H0 _ _ fp0 => axgc_name (i := 2) (CxE.blk C.toCxE s0 H0 _ _ fp0).nd) (fun s0 H0 _ _ fp0 => axts_nil) (fun s0 H0 _ _ fp0 => ax_and (ax_call (CxE.blk C.toCxE s0 H0 _ _ fp0) (ok__law_numbers T) T.g__law_numbers T.F__law_numbers.kp (b__law_numbers_0 T) (fun _ => .nil) (axa_cons (ax_var 2) (axa_nil)) (by decide)) (ax_one (ax_cmp (op_Eq (CxE.blk C.toCxE s0 H0 _ _ fp0)) (ax_callB cb_len T.n_len rfl (axa_cons (ax_var 2) (axa_nil))) (ax_callB cb_len T.n_len rfl (axa_cons (ax_var 1) (axa_nil)))))))) (axa_nil)))))
theorem sc_law : FnScope ["_law_script", "_law_pool_here", "_law_k", "_law_kind", "_law_due", "_law_rows", "_law_goal", "_law_at"] ["_law_script"] (defScope s_law) := ⟨rfl, rfl, rfl, by decide +kernel, rfl, by decide +kernel, by decide +kernel⟩
theorem ok_law (T : Fcs P K mg) (hm : ∀ (ns : List Int), ns.length ≤ 63 → a_law (.d (.scr ns) :: .d (.ref 0) :: List.replicate 6 .no) [.pool 0 ns] yes) : FnOk P w K mg base (L2N.CX P w) 6 (He.ga K "law") (fdAt K (He.ga K "law")) ["_law_script"] (spLaw K) :=
  law_fn (k := 5) T.F_law sc_law (fun cdv A outer s H E C => ⟨axs_cell (i := 1) C.nd (axf_call C.toCxE (ok__law_pool T) T.g__law_pool T.F__law_pool.kp (b__law_pool_0 T) (fun _ => .nil) (axa_cons (ax_var 0) (axa_nil)) (by decide)),
    axb_cons (axs_asg (ax_call C.toCxE (ok__law_goal_rows T) T.g__law_goal_rows T.F__law_goal_rows.kp (b__law_goal_rows_0 T) (fun _ => .nil) (axa_cons (ax_var 1) (axa_cons (ax_int) (axa_cons (ax_int) (axa_nil)))) (by decide)) (axg_seq (n := 2) C.toCxE.calm (axgs_cons (axg_name (i := 5) C.toCxE.nd) (axgs_cons (axg_name (i := 6) C.toCxE.nd) (axgs_nil)))))
    (axb_cons (axs_for C (axi_rng1 T.n_range (ax_int)) (axg_name (i := 2) C.toCxE.nd) (axb_one (axs_if (axt_w (axw_or (axt_val (ax_call C.toCxE (ok__law_refused T) T.g__law_refused T.F__law_refused.kp (b__law_refused_0 T) (fun _ => .nil) (axa_cons (ax_var 5) (axa_cons (ax_var 6) (axa_cons (ax_var 2) (axa_nil)))) (by decide))) (axw_or1 (axt_not (axt_val (ax_call C.toCxE (ok__law_refused T) T.g__law_refused T.F__law_refused.kp (b__law_refused_0 T) (fun _ => .nil) (axa_cons (ax_lst (axa_nil)) (axa_cons (ax_lst (axa_nil)) (axa_cons (ax_var 2) (axa_nil)))) (by decide))))))) (axb_one (axs_ret (ax_bl))) (axb_nil))))
    (axb_cons (axs_set (i := 3) C.nd (ax_call C.toCxE (ok__law_take T) T.g__law_take T.F__law_take.kp (b__law_take_0 T) (fun _ => .nil) (axa_cons (ax_var 1) (axa_cons (ax_int) (axa_nil))) (by decide)))
    (axb_cons (axs_if (axt_cmp (op_Eq C.toCxE) (ax_var 3) (ax_int)) (axb_one (axs_set (i := 6) C.nd (ax_call C.toCxE (ok__law_bent T) T.g__law_bent T.F__law_bent.kp (b__law_bent_0 T) (fun _ => .nil) (axa_cons (ax_var 1) (axa_cons (ax_var 6) (axa_nil))) (by decide)))) (axb_nil))
    (axb_cons (axs_if (axt_cmp (op_Eq C.toCxE) (ax_var 3) (ax_int)) (axb_one (axs_set (i := 5) C.nd (ax_ix (op_IxA C.toCxE) (ax_lst (axa_cons (ax_non) (axa_cons (ax_int) (axa_cons (ax_str) (axa_cons (ax_bl) (axa_nil)))))) (ax_call C.toCxE (ok__law_take T) T.g__law_take T.F__law_take.kp (b__law_take_0 T) (fun _ => .nil) (axa_cons (ax_var 1) (axa_cons (ax_int) (axa_nil))) (by decide))))) (axb_nil))
    (axb_cons (axs_if (axt_w (axw_and (axt_cmp op_Gt (ax_var 3) (ax_int)) (axw_and1 (axt_cmp (op_Ne C.toCxE) (ax_var 5) (ax_lst (axa_nil)))))) (axb_cons (axs_set (i := 7) C.nd (ax_call C.toCxE (ok__law_take T) T.g__law_take T.F__law_take.kp (b__law_take_0 T) (fun _ => .nil) (axa_cons (ax_var 1) (axa_cons (ax_callB cb_len T.n_len rfl (axa_cons (ax_var 5) (axa_nil))) (axa_nil))) (by decide)))
    (axb_one (axs_set (i := 5) C.nd (ax_op op_Add (ax_op op_Add (ax_sl (ax_var 5) (axp_no) (axp_at (ax_var 7))) (ax_lst (axa_cons (ax_call C.toCxE (ok__law_bent T) T.g__law_bent T.F__law_bent.kp (b__law_bent_0 T) (fun _ => .nil) (axa_cons (ax_var 1) (axa_cons (ax_ix (op_IxA C.toCxE) (ax_var 5) (ax_var 7)) (axa_nil))) (by decide)) (axa_nil)))) (ax_sl (ax_var 5) (axp_at (ax_op op_Add (ax_var 7) (ax_int))) (axp_no)))))) (axb_nil))
    (axb_cons (axs_set (i := 4) C.nd (ax_not (ax_call C.toCxE (ok__law_sound T) T.g__law_sound T.F__law_sound.kp (b__law_sound_0 T) (fun _ => .nil) (axa_cons (ax_var 5) (axa_cons (ax_var 6) (axa_nil))) (by decide))))
    (axb_one (axs_ret (ax_and (ax_cmp (op_Eq C.toCxE) (ax_call C.toCxE (ok__law_refused T) T.g__law_refused T.F__law_refused.kp (b__law_refused_0 T) (fun _ => .nil) (axa_cons (ax_var 5) (axa_cons (ax_var 6) (axa_cons (ax_int) (axa_nil)))) (by decide)) (ax_var 4)) (ax_one (ax_cmp (op_Eq C.toCxE) (ax_call C.toCxE (ok__law_refused T) T.g__law_refused T.F__law_refused.kp (b__law_refused_0 T) (fun _ => .nil) (axa_cons (ax_var 5) (axa_cons (ax_var 6) (axa_cons (ax_int) (axa_nil)))) (by decide)) (ax_var 4))))))))))))⟩) hm
end
end LW
set_option Elab.async false
set_option linter.all false
set_option maxRecDepth 100000
set_option maxHeartbeats 0
namespace LW
open PySem PySem.Spec PyProof.Rows L2 AM
def d0 : He.DefD := ⟨("_law_pool", none), "_law_pool", "_law_pool", defArgs s__law_pool, defBody s__law_pool, defScope s__law_pool, [], []⟩
def d1 : He.DefD := ⟨("_law_take", none), "_law_take", "_law_take", defArgs s__law_take, defBody s__law_take, defScope s__law_take, [], []⟩
def d2 : He.DefD := ⟨("_law_integers", none), "_law_integers", "_law_integers", defArgs s__law_integers, defBody s__law_integers, defScope s__law_integers, [], []⟩
def d3 : He.DefD := ⟨("_law_goal_rows", none), "_law_goal_rows", "_law_goal_rows", defArgs s__law_goal_rows, defBody s__law_goal_rows, defScope s__law_goal_rows, [], []⟩
def d4 : He.DefD := ⟨("is_integer", none), "is_integer", "is_integer", defArgs s_is_integer, defBody s_is_integer, defScope s_is_integer, [], []⟩
def d5 : He.DefD := ⟨("are_integers", none), "are_integers", "are_integers", defArgs s_are_integers, defBody s_are_integers, defScope s_are_integers, [], []⟩
def d6 : He.DefD := ⟨("check_rows", none), "check_rows", "check_rows", defArgs s_check_rows, defBody s_check_rows, defScope s_check_rows, [], []⟩
def d7 : He.DefD := ⟨("Sheet", some "__init__"), "__init__", "Sheet.__init__", defArgs s_Sheet___init__, defBody s_Sheet___init__, defScope s_Sheet___init__, [], []⟩
def d8 : He.DefD := ⟨("Sheet", some "leaving"), "leaving", "Sheet.leaving", defArgs s_Sheet_leaving, defBody s_Sheet_leaving, defScope s_Sheet_leaving, [], []⟩
def d9 : He.DefD := ⟨("Sheet", some "reduced_line"), "reduced_line", "Sheet.reduced_line", defArgs s_Sheet_reduced_line, defBody s_Sheet_reduced_line, defScope s_Sheet_reduced_line, [], []⟩
def d10 : He.DefD := ⟨("Sheet", some "turn"), "turn", "Sheet.turn", defArgs s_Sheet_turn, defBody s_Sheet_turn, defScope s_Sheet_turn, [], []⟩
def d11 : He.DefD := ⟨("Sheet", some "run"), "run", "Sheet.run", defArgs s_Sheet_run, defBody s_Sheet_run, defScope s_Sheet_run, [], []⟩
def d12 : He.DefD := ⟨("Sheet", some "amounts"), "amounts", "Sheet.amounts", defArgs s_Sheet_amounts, defBody s_Sheet_amounts, defScope s_Sheet_amounts, [], []⟩
def d13 : He.DefD := ⟨("divisor", none), "divisor", "divisor", defArgs s_divisor, defBody s_divisor, defScope s_divisor, [], []⟩
def d14 : He.DefD := ⟨("lowest", none), "lowest", "lowest", defArgs s_lowest, defBody s_lowest, defScope s_lowest, [], []⟩
def d15 : He.DefD := ⟨("Sheet", some "settle"), "settle", "Sheet.settle", defArgs s_Sheet_settle, defBody s_Sheet_settle, defScope s_Sheet_settle, [], []⟩
def d16 : He.DefD := ⟨("Sheet", some "charge"), "charge", "Sheet.charge", defArgs s_Sheet_charge, defBody s_Sheet_charge, defScope s_Sheet_charge, [], []⟩
def d17 : He.DefD := ⟨("Sheet", some "mix"), "mix", "Sheet.mix", defArgs s_Sheet_mix, defBody s_Sheet_mix, defScope s_Sheet_mix, [], []⟩
def d18 : He.DefD := ⟨("weighed", none), "weighed", "weighed", defArgs s_weighed, defBody s_weighed, defScope s_weighed, [], []⟩
def d19 : He.DefD := ⟨("ratio", none), "ratio", "ratio", defArgs s_ratio, defBody s_ratio, defScope s_ratio, [.int 1], []⟩
def d20 : He.DefD := ⟨("greatest", none), "greatest", "greatest", defArgs s_greatest, defBody s_greatest, defScope s_greatest, [], []⟩
def d21 : He.DefD := ⟨("are_amounts", none), "are_amounts", "are_amounts", defArgs s_are_amounts, defBody s_are_amounts, defScope s_are_amounts, [], []⟩
def d22 : He.DefD := ⟨("added", none), "added", "added", defArgs s_added, defBody s_added, defScope s_added, [], []⟩
def d23 : He.DefD := ⟨("is_allowed", none), "is_allowed", "is_allowed", defArgs s_is_allowed, defBody s_is_allowed, defScope s_is_allowed, [], []⟩
def d24 : He.DefD := ⟨("is_answer", none), "is_answer", "is_answer", defArgs s_is_answer, defBody s_is_answer, defScope s_is_answer, [], []⟩
def d25 : He.DefD := ⟨("_law_refused", none), "_law_refused", "_law_refused", defArgs s__law_refused, defBody s__law_refused, defScope s__law_refused, [], []⟩
def d26 : He.DefD := ⟨("_law_bent", none), "_law_bent", "_law_bent", defArgs s__law_bent, defBody s__law_bent, defScope s__law_bent, [], []⟩
def d27 : He.DefD := ⟨("_law_is_number", none), "_law_is_number", "_law_is_number", defArgs s__law_is_number, defBody s__law_is_number, defScope s__law_is_number, [], []⟩
def d28 : He.DefD := ⟨("_law_numbers", none), "_law_numbers", "_law_numbers", defArgs s__law_numbers, defBody s__law_numbers, defScope s__law_numbers, [], []⟩
def d29 : He.DefD := ⟨("_law_sound", none), "_law_sound", "_law_sound", defArgs s__law_sound, defBody s__law_sound, defScope s__law_sound, [], []⟩
def d30 : He.DefD := ⟨("law", none), "law", "law", defArgs s_law, defBody s_law, defScope s_law, [], []⟩
def x_BadRows : XD := ⟨"BadRows", defArgs sx_BadRows, defBody sx_BadRows, defScope sx_BadRows⟩
def x_BadRatio : XD := ⟨"BadRatio", defArgs sx_BadRatio, defBody sx_BadRatio, defScope sx_BadRatio⟩
def fnL0 : List He.DefD := [d0, d1, d2, d3, d4, d5, d6, d7, d8, d9, d10, d11, d12, d13, d14, d15, d16, d17, d18, d19]
def fnL1 : List He.DefD := [d20, d21, d22, d23, d24, d25, d26, d27, d28, d29, d30]
def fnL : List He.DefD := fnL0 ++ fnL1
def faL0 : List He.Fa := [.glo "_law_pool", .glo "_law_take", .glo "_law_integers", .glo "_law_goal_rows", .glo "is_integer", .glo "are_integers", .glo "check_rows", .glo "divisor", .glo "lowest", .glo "weighed", .glo "ratio", .glo "greatest", .glo "are_amounts", .glo "added", .glo "is_allowed", .glo "is_answer", .glo "_law_refused", .glo "_law_bent", .glo "_law_is_number", .glo "_law_numbers"]
def faL1 : List He.Fa := [.glo "_law_sound", .glo "law", .free "list", .free "int", .free "len", .free "max", .free "range", .free "abs", .free "isinstance", .free "bool", .free "tuple", .free "all", .glo "BadRows", .free "super", .cls "Sheet", .noat "Sheet" "costs", .noat "Sheet" "base", .noat "Sheet" "basis", .noat "Sheet" "lines", .free "enumerate"]
def faL2 : List He.Fa := [.noat "Sheet" "count", .noat "Sheet" "wide", .free "zip", .meth "Sheet" "reduced_line", .meth "Sheet" "turn", .meth "Sheet" "leaving", .free "sum", .glo "BadRatio", .noat "BadRatio" "bottom", .meth "Sheet" "mix", .meth "Sheet" "amounts", .meth "Sheet" "run", .meth "Sheet" "charge", .meth "Sheet" "settle", .meth "Sheet" "__init__", .mkr "Sheet", .glo "Sheet", .free "min", .exm "BadRows" "BadRows" true, .exm "BadRatio" "BadRows" false]
def faL : List He.Fa := faL0 ++ faL1 ++ faL2
def exL0 : List (PySem.W.Frag → Bool) := [fun K => xcB K PySem.Challenge.pw_everyhint_k54_rows_refused.main.file "BadRows", fun K => xcB K PySem.Challenge.pw_everyhint_k54_rows_refused.main.file "BadRatio"]
def exL : List (PySem.W.Frag → Bool) := exL0
def xsL0 : List XD := [x_BadRows, x_BadRatio]
def xsL : List XD := xsL0
def loose0 : List Str := ["__name__", "HintError", "BadRatio", "BadRows", "is_integer", "are_integers", "divisor", "lowest", "ratio", "check_rows", "weighed", "added", "Sheet", "greatest", "are_amounts", "is_allowed", "is_answer", "_law_pool", "_law_take", "_law_is_number"]
def loose1 : List Str := ["_law_integers", "_law_goal_rows", "_law_refused", "_law_numbers", "_law_sound", "_law_bent"]
def loose : List Str := loose0 ++ loose1
abbrev R : PySem.W.OpenRow := PySem.W.OpenLaw.row PySem.Challenge.rw_everyhint_k54_rows_refused
abbrev hk : PySem.W.Hook := hookX 5 faL fnL exL xsL
def ob (s : PySem.W.SharedT) : AlX := obsXG 5 faL fnL exL xsL (HandSHeadRun.getT s)
theorem ob_eq (s : PySem.W.SharedT) : ob s = hk.obs s.abs := obsXG_eq (HandSHeadRun.getT_eq s)
theorem run (w : World) : HandSHeadRun.RunEq R (PySem.W.view R.prog [29]) hk ob 20000 loose w := by
  intro os
  kernel_rfl
theorem facts {K : PySem.W.Frag} {h : Heap} {mg : Str → Option Value} (X : K.In h) (G : h.Ns mainGlobals mg) (c : SaysX faL fnL exL xsL K) : Fcs PySem.Challenge.pw_everyhint_k54_rows_refused K mg where
  g__law_pool := He.glo_ok X G (c.d.fact 0 (f := .glo "_law_pool") rfl)
  F__law_pool := fdAt_of (c.d.def_ 0 (d := d0) rfl).choose_spec
  g__law_take := He.glo_ok X G (c.d.fact 1 (f := .glo "_law_take") rfl)
  F__law_take := fdAt_of (c.d.def_ 1 (d := d1) rfl).choose_spec
  g__law_integers := He.glo_ok X G (c.d.fact 2 (f := .glo "_law_integers") rfl)
  F__law_integers := fdAt_of (c.d.def_ 2 (d := d2) rfl).choose_spec
  g__law_goal_rows := He.glo_ok X G (c.d.fact 3 (f := .glo "_law_goal_rows") rfl)
  F__law_goal_rows := fdAt_of (c.d.def_ 3 (d := d3) rfl).choose_spec
  g_is_integer := He.glo_ok X G (c.d.fact 4 (f := .glo "is_integer") rfl)
  F_is_integer := fdAt_of (c.d.def_ 4 (d := d4) rfl).choose_spec
  g_are_integers := He.glo_ok X G (c.d.fact 5 (f := .glo "are_integers") rfl)
  F_are_integers := fdAt_of (c.d.def_ 5 (d := d5) rfl).choose_spec
  g_check_rows := He.glo_ok X G (c.d.fact 6 (f := .glo "check_rows") rfl)
  F_check_rows := fdAt_of (c.d.def_ 6 (d := d6) rfl).choose_spec
  F_Sheet___init__ := fdAt_of (c.d.def_ 7 (d := d7) rfl).choose_spec
  F_Sheet_leaving := fdAt_of (c.d.def_ 8 (d := d8) rfl).choose_spec
  F_Sheet_reduced_line := fdAt_of (c.d.def_ 9 (d := d9) rfl).choose_spec
  F_Sheet_turn := fdAt_of (c.d.def_ 10 (d := d10) rfl).choose_spec
  F_Sheet_run := fdAt_of (c.d.def_ 11 (d := d11) rfl).choose_spec
  F_Sheet_amounts := fdAt_of (c.d.def_ 12 (d := d12) rfl).choose_spec
  g_divisor := He.glo_ok X G (c.d.fact 7 (f := .glo "divisor") rfl)
  F_divisor := fdAt_of (c.d.def_ 13 (d := d13) rfl).choose_spec
  g_lowest := He.glo_ok X G (c.d.fact 8 (f := .glo "lowest") rfl)
  F_lowest := fdAt_of (c.d.def_ 14 (d := d14) rfl).choose_spec
  F_Sheet_settle := fdAt_of (c.d.def_ 15 (d := d15) rfl).choose_spec
  F_Sheet_charge := fdAt_of (c.d.def_ 16 (d := d16) rfl).choose_spec
  F_Sheet_mix := fdAt_of (c.d.def_ 17 (d := d17) rfl).choose_spec
  g_weighed := He.glo_ok X G (c.d.fact 9 (f := .glo "weighed") rfl)
  F_weighed := fdAt_of (c.d.def_ 18 (d := d18) rfl).choose_spec
  g_ratio := He.glo_ok X G (c.d.fact 10 (f := .glo "ratio") rfl)
  F_ratio := fdAt_of (c.d.def_ 19 (d := d19) rfl).choose_spec
  g_greatest := He.glo_ok X G (c.d.fact 11 (f := .glo "greatest") rfl)
  F_greatest := fdAt_of (c.d.def_ 20 (d := d20) rfl).choose_spec
  g_are_amounts := He.glo_ok X G (c.d.fact 12 (f := .glo "are_amounts") rfl)
  F_are_amounts := fdAt_of (c.d.def_ 21 (d := d21) rfl).choose_spec
  g_added := He.glo_ok X G (c.d.fact 13 (f := .glo "added") rfl)
  F_added := fdAt_of (c.d.def_ 22 (d := d22) rfl).choose_spec
  g_is_allowed := He.glo_ok X G (c.d.fact 14 (f := .glo "is_allowed") rfl)
  F_is_allowed := fdAt_of (c.d.def_ 23 (d := d23) rfl).choose_spec
  g_is_answer := He.glo_ok X G (c.d.fact 15 (f := .glo "is_answer") rfl)
  F_is_answer := fdAt_of (c.d.def_ 24 (d := d24) rfl).choose_spec
  g__law_refused := He.glo_ok X G (c.d.fact 16 (f := .glo "_law_refused") rfl)
  F__law_refused := fdAt_of (c.d.def_ 25 (d := d25) rfl).choose_spec
  g__law_bent := He.glo_ok X G (c.d.fact 17 (f := .glo "_law_bent") rfl)
  F__law_bent := fdAt_of (c.d.def_ 26 (d := d26) rfl).choose_spec
  g__law_is_number := He.glo_ok X G (c.d.fact 18 (f := .glo "_law_is_number") rfl)
  F__law_is_number := fdAt_of (c.d.def_ 27 (d := d27) rfl).choose_spec
  g__law_numbers := He.glo_ok X G (c.d.fact 19 (f := .glo "_law_numbers") rfl)
  F__law_numbers := fdAt_of (c.d.def_ 28 (d := d28) rfl).choose_spec
  g__law_sound := He.glo_ok X G (c.d.fact 20 (f := .glo "_law_sound") rfl)
  F__law_sound := fdAt_of (c.d.def_ 29 (d := d29) rfl).choose_spec
  g_law := He.glo_ok X G (c.d.fact 21 (f := .glo "law") rfl)
  F_law := fdAt_of (c.d.def_ 30 (d := d30) rfl).choose_spec
  n_list := He.free_ok X G (c.d.fact 22 (f := .free "list") rfl)
  n_int := He.free_ok X G (c.d.fact 23 (f := .free "int") rfl)
  n_len := He.free_ok X G (c.d.fact 24 (f := .free "len") rfl)
  n_max := He.free_ok X G (c.d.fact 25 (f := .free "max") rfl)
  n_range := He.free_ok X G (c.d.fact 26 (f := .free "range") rfl)
  n_abs := He.free_ok X G (c.d.fact 27 (f := .free "abs") rfl)
  n_isinstance := He.free_ok X G (c.d.fact 28 (f := .free "isinstance") rfl)
  n_bool := He.free_ok X G (c.d.fact 29 (f := .free "bool") rfl)
  n_tuple := He.free_ok X G (c.d.fact 30 (f := .free "tuple") rfl)
  n_all := He.free_ok X G (c.d.fact 31 (f := .free "all") rfl)
  g_BadRows := He.glo_ok X G (c.d.fact 32 (f := .glo "BadRows") rfl)
  X_BadRows := xcB_ok (d := x_BadRows) (c.e 0 rfl) (c.x 0 rfl) (He.free_ok X G (c.d.fact 33 (f := .free "super") rfl)) (by rfl)
  C_Sheet := He.cls_ok (c.d.fact 34 (f := .cls "Sheet") rfl)
  NA_Sheet_costs := He.eqO_ok (c.d.fact 35 (f := .noat "Sheet" "costs") rfl)
  NA_Sheet_base := He.eqO_ok (c.d.fact 36 (f := .noat "Sheet" "base") rfl)
  NA_Sheet_basis := He.eqO_ok (c.d.fact 37 (f := .noat "Sheet" "basis") rfl)
  NA_Sheet_lines := He.eqO_ok (c.d.fact 38 (f := .noat "Sheet" "lines") rfl)
  n_enumerate := He.free_ok X G (c.d.fact 39 (f := .free "enumerate") rfl)
  NA_Sheet_count := He.eqO_ok (c.d.fact 40 (f := .noat "Sheet" "count") rfl)
  NA_Sheet_wide := He.eqO_ok (c.d.fact 41 (f := .noat "Sheet" "wide") rfl)
  n_zip := He.free_ok X G (c.d.fact 42 (f := .free "zip") rfl)
  Me_Sheet_reduced_line := He.meth_ok (c.d.fact 43 (f := .meth "Sheet" "reduced_line") rfl)
  Me_Sheet_turn := He.meth_ok (c.d.fact 44 (f := .meth "Sheet" "turn") rfl)
  Me_Sheet_leaving := He.meth_ok (c.d.fact 45 (f := .meth "Sheet" "leaving") rfl)
  n_sum := He.free_ok X G (c.d.fact 46 (f := .free "sum") rfl)
  g_BadRatio := He.glo_ok X G (c.d.fact 47 (f := .glo "BadRatio") rfl)
  X_BadRatio := xcB_ok (d := x_BadRatio) (c.e 1 rfl) (c.x 1 rfl) (He.free_ok X G (c.d.fact 33 (f := .free "super") rfl)) (by rfl)
  NX_BadRatio := He.eqO_ok (c.d.fact 48 (f := .noat "BadRatio" "bottom") rfl)
  Me_Sheet_mix := He.meth_ok (c.d.fact 49 (f := .meth "Sheet" "mix") rfl)
  Me_Sheet_amounts := He.meth_ok (c.d.fact 50 (f := .meth "Sheet" "amounts") rfl)
  Me_Sheet_run := He.meth_ok (c.d.fact 51 (f := .meth "Sheet" "run") rfl)
  Me_Sheet_charge := He.meth_ok (c.d.fact 52 (f := .meth "Sheet" "charge") rfl)
  Me_Sheet_settle := He.meth_ok (c.d.fact 53 (f := .meth "Sheet" "settle") rfl)
  Me_Sheet___init__ := He.meth_ok (c.d.fact 54 (f := .meth "Sheet" "__init__") rfl)
  Mk_Sheet := He.mkr_ok (c.d.fact 55 (f := .mkr "Sheet") rfl)
  g_Sheet := He.glo_ok X G (c.d.fact 56 (f := .glo "Sheet") rfl)
  n_min := He.free_ok X G (c.d.fact 57 (f := .free "min") rfl)
  M_BadRows_BadRows := of_decide_eq_true (c.d.fact 58 (f := .exm "BadRows" "BadRows" true) rfl)
  M_BadRatio_BadRows := of_decide_eq_true (c.d.fact 59 (f := .exm "BadRatio" "BadRows" false) rfl)
end LW
open PySem PySem.W PySem.Calls PyProof.Rows
theorem PySem.Challenge.cw_everyhint_k54_rows_refused_holds : PySem.Challenge.rw_everyhint_k54_rows_refused.Holds := by
  w_on; o_law
  refine HandSHeadRun.head_any (r := OpenLaw.row PySem.Challenge.rw_everyhint_k54_rows_refused) (q := view (OpenLaw.row PySem.Challenge.rw_everyhint_k54_rows_refused).prog [29]) (H := LW.hk) (ob := LW.ob) (M := 20000) (loose := LW.loose) (d := HandSHeadRun.topDef (OpenLaw.row PySem.Challenge.rw_everyhint_k54_rows_refused).prog 29) (kwd := []) LW.ob_eq
    (by kernel_rfl) (fun s => by kernel_rfl) LW.run (by kernel_rfl) (by kernel_rfl) (by kernel_rfl) (by rfl) (by first | assumption | decide +kernel) (by decide +kernel) ⟨rfl, rfl, rfl, rfl, rfl, by decide +kernel⟩ ?hw ?hc
  case hw => w_witness2
  case hc =>
    refine L2.walk_ofE (l := PySem.Challenge.rw_everyhint_k54_rows_refused) (n := 63) (k := 6) (x := "_law_script") (CX := L2.CX0) rfl (by decide) (by kernel_rfl) ⟨rfl, by decide, by decide⟩ ?F (fun _ _ _ _ z => z)
    intro w mg fa h Y G hmg0
    obtain ⟨K, KX, c⟩ := Y
    have T := LW.facts KX G c
    have hmg : mg ("law" : PySem.Str) = some (.ref fa) := by
      have e : (HandSHeadRun.topDef (OpenLaw.row PySem.Challenge.rw_everyhint_k54_rows_refused).prog 29).name = ("law" : PySem.Str) := by kernel_rfl
      rw [← e]
      exact hmg0
    have e := hmg.symm.trans T.g_law
    cases e
    have b := L2.FunD.bindsA (ps := ["_law_script"]) T.F_law fun _ _ _ _ _ _ us hl => match us, hl with | [_], _ => rfl
    exact ⟨K, AM.fdAt K (He.ga K "law"), AM.spLaw K, KX, fun s v => b s [v] rfl, fun H a ns hl _ hS => ⟨a, ns, rfl, hS, hl, fun _ => rfl⟩, fun base _ _ => AM.law_CX0 (LW.ok_law T LW.law_true)⟩
