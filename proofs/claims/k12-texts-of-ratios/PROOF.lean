import PyProof.Rows.All
import Wide.All
import OpenK.AllK
import Wide.FinOn
import HandS.ExcInit
import HandS.ExcField
import KE.KExcSuper
import HandS.Words
import KE.KStateDown
import Lean
import HandS.Ends
import HandS.More
import HandS.Head0
import HandS.Head1
import HandS.Head2
import HandS.HeadEnd
import HandS.HeadHook1
import HandS.HeadHook2
import HandS.ForMost
import HandS.Evl
import HandS.Exc
import HandS.WordsExc
import HandS.CallSlots
import HandS.Wide
import HandS.IsInst
import HandS.Defaults
import HandS.ExcCtx
import HandS.Deep
import HandS.Conv
import HandS.Strs
import HandS.TupAny
import HandS.TryMany
import HandS.HotCalls
import HandS.TryOnly
import HandS.Star
import HandS.Zip
import HandS.OwnEq
import KE.GoesEnum
import KE.GoesMore
import HandS.Codes
import HandS.DictComp
import HandS.TupLen
import HandS.List
import KE.KDictZip
import HandS.Small
import HandS.Style
import KE.KDictPairs
import HandS.IterVal
import HandS.OwnIter
import KE.KDictKeyed
import HandS.DictTup
import KE.KTupSum
import HandS.TupMul
import HandS.NamedTupGet
import KE.KUnpackStar
import PyProof.WalkInts
import KE.KUnpack
import KE.KDictWalk
import HandS.SetBool
import HandS.Set
import HandS.SortInts
import HandS.TupSets
import HandS.SetFor
import HandS.Sort
import KE.KDictCopyH
import PyProof.Rows.TupDisplay
import HandS.Text
import HandS.FStr
import PyProof.StrOps2
import PySem.Challenge.RW_everyhint_k12_texts_of_ratios
set_option Elab.async false
set_option linter.all false
set_option maxRecDepth 100000
set_option maxHeartbeats 4000000
namespace AM
open PySem PySem.W L2
/-! ### an error class with its own __init__, read off the top -/
structure XD where
  cls : Str
  params : Arguments
  body : List Stmt
  scope : Scope
abbrev XW : Type := Option (Str × Arguments × FuncBody × Scope × Addr × List Str × Addr)
def xw (K : Frag) (x : Str) : XW := match K.lookup (He.ma K (He.ga K x) "__init__") with
  | some ⟨_, _, .func fd, _⟩ => some (fd.name, fd.params, fd.body, fd.scope, fd.globals, fd.closure.map (·.1), fd.builtins)
  | _ => none
def XD.val (d : XD) : XW := some ("__init__", d.params, .stmts d.body, d.scope, mainGlobals, ["__class__"], builtinsNs)
def oexB (K : Frag) (C : Addr) : Bool := (match K.lookup C with
  | some ⟨.type t, _, .cls cd, sl⟩ => (match cd.mro, sl.toList with
    | .ref C' :: bm, [_, _, _, _, some (.builtin n), _] => decide (t = "type") && (decide (C' = C) && (decide (n = "ValueError.__new__") && (!cd.hasDel && (cd.hasDict && HandSPX.refsVE bm))))
    | _, _ => false)
  | _ => false) && (decide (findIn K (.ref C) "__setattr__" = some (some (.builtin "object.__setattr__"))) && (decide (subIn K (.ref C) (.type "BaseException") = some true) && (decide (typeIn K (.ref C) = some (.type "type")) && keepIn K (.ref C))))
/-- the def's own part -/
def xfnB (K : Frag) (file : Str) (C f : Addr) : Bool := match K.lookup f with
  | some ⟨_, _, .func fd, _⟩ => (match fd.defaults with
    | .none => true
    | _ => false) && (codeIn K fd.code fd.qualname && ((match fd.closure with
      | [(_, cc)] => (match K.lookup cc with
        | some ⟨_, _, .cell (some (.ref C')), _⟩ => decide (C' = C)
        | _ => false)
      | _ => false) && (match fd.code with
        | .ref cda => (match K.lookup cda with
          | some ⟨_, _, .fields vs, _⟩ => (match (vs[2]? : Option Value) with
            | some (Value.str z _) => decide (z = file)
            | _ => false)
          | _ => false)
        | _ => false)))
  | _ => false
def xcB (K : Frag) (file : Str) (x : Str) : Bool := oexB K (He.ga K x) && (xfnB K file (He.ga K x) (He.ma K (He.ga K x) "__init__") && (decide (ks_superIn K (He.ga K x) (He.ga K x) "__init__" = some (some (.builtin "ValueError.__init__"))) && (decide (subIn K (.ref (He.ga K x)) (.type "ValueError") = some true) && (decide (mroIn K (He.ga K x) (.ref (He.ga K x)) = some true) &&
  (decide (nsIn K cStatics "thirdparty.any" = some none) && (decide (findIn K (.ref (He.ga K x)) "__init__" = some (some (.ref (He.ma K (He.ga K x) "__init__")))) && decide (typeIn K (.ref (He.ma K (He.ga K x) "__init__")) = some (.type "function"))))))))
/-! ### the head's Hook with them -/
abbrev AlX : Type := He.AlD × Bool × List XW
def obsX (fa : List He.Fa) (fn : List He.DefD) (ex : List (Frag → Bool)) (xs : List XD) (K : Frag) : AlX := (He.obsD fa fn K, ex.all (fun c => c K), xs.map fun d => xw K d.cls)
def valX (fn : List He.DefD) (xs : List XD) : AlX := (He.valD fn, true, xs.map XD.val)
def SaysX (fa : List He.Fa) (fn : List He.DefD) (ex : List (Frag → Bool)) (xs : List XD) (K : Frag) : Prop := obsX fa fn ex xs K = valX fn xs
def obsXG (n : Nat) (fa : List He.Fa) (fn : List He.DefD) (ex : List (Frag → Bool)) (xs : List XD) (g : Addr → Option Obj) : AlX := obsX fa fn ex xs (He.frG g (cStatics :: He.asD g n))
def hookX (n : Nat) (fa : List He.Fa) (fn : List He.DefD) (ex : List (Frag → Bool)) (xs : List XD) : Hook where
  α := AlX
  obs := fun s => obsXG n fa fn ex xs s.heap.get?
  val := fun _ => valX fn xs
  says := fun _ h => ∃ K : Frag, K.In h ∧ SaysX fa fn ex xs K
  of := fun _ _ e => ⟨_, He.frG_in, e⟩
  keeps := fun _ _ _ ⟨K, hK, c⟩ k => ⟨K, Frag.In.keeps hK k, c⟩
theorem obsXG_eq {n : Nat} {fa : List He.Fa} {fn : List He.DefD} {ex : List (Frag → Bool)} {xs : List XD} {g : Addr → Option Obj} {s : Shared} (h : ∀ a, g a = s.heap.get? a) : obsXG n fa fn ex xs g = (hookX n fa fn ex xs).obs s := by
  have e : g = s.heap.get? := funext h
  rw [e] <;> rfl
section
variable {fa : List He.Fa} {fn : List He.DefD} {ex : List (Frag → Bool)} {xs : List XD} {K : Frag}
theorem SaysX.d (c : SaysX fa fn ex xs K) : He.SaysD fa fn K := congrArg (fun z : AlX => z.1) c
theorem SaysX.e (c : SaysX fa fn ex xs K) (i : Nat) {f : Frag → Bool} (h : ex[i]? = some f := by rfl) : f K = true := by
  have c1 : ex.all (fun c => c K) = true := congrArg (fun z : AlX => z.2.1) c
  exact List.all_eq_true.mp c1 f (List.mem_of_getElem? h)
theorem SaysX.x (c : SaysX fa fn ex xs K) (i : Nat) {d : XD} (h : xs[i]? = some d := by rfl) : xw K d.cls = d.val := by
  have e : xs.map (fun d => xw K d.cls) = xs.map XD.val := congrArg (fun z : AlX => z.2.2) c
  have e2 : (xs.map fun d => xw K d.cls)[i]? = (xs.map XD.val)[i]? := by rw [e]
  rw [List.getElem?_map, List.getElem?_map, h] at e2
  exact Option.some.inj e2
end
/-! ### a head's run in several runs -/
abbrev obG (n : Nat) (fa : List He.Fa) (fn : List He.DefD) (ex : List (Frag → Bool)) (xs : List XD) (s : SharedT) : AlX := obsXG n fa fn ex xs (HandSHeadRun.getT s)
/-- a run that looks at some facts alone -/
def RunO (r : OpenRow) (n : Nat) (fa : List He.Fa) (fn : List He.DefD) (ex : List (Frag → Bool)) (xs : List XD) (M : Nat) (w : World) : Prop :=
  ∀ os : OsState, (HandSHeadRun.endF (HandSHeadRun.stepQ (HandSHeadRun.denQ HandSHeadRun.tabQ) r.prog w) M r.prog w os).map (obG n fa fn ex xs) = some (valX fn xs)
theorem obsX_app {fa fa' : List He.Fa} {fn fn' : List He.DefD} {ex ex' : List (Frag → Bool)} {xs xs' : List XD} {K : Frag}
    (h : obsX fa fn ex xs K = valX fn xs) (h' : obsX fa' fn' ex' xs' K = valX fn' xs') : obsX (fa ++ fa') (fn ++ fn') (ex ++ ex') (xs ++ xs') K = valX (fn ++ fn') (xs ++ xs') := by
  simp only [obsX, He.obsD, valX, He.valD, Prod.mk.injEq, Bool.and_eq_true, List.all_append, List.map_append] at h h' ⊢
  obtain ⟨⟨⟨a1, a2⟩, a3⟩, a4, a5⟩ := h
  obtain ⟨⟨⟨b1, b2⟩, b3⟩, b4, b5⟩ := h'
  exact ⟨⟨⟨⟨a1, b1⟩, a2, b2⟩, by rw [a3, b3]⟩, ⟨a4, b4⟩, by rw [a5, b5]⟩
theorem run_join {r : OpenRow} {q : Program} {n : Nat} {fa fa' : List He.Fa} {fn fn' : List He.DefD} {ex ex' : List (Frag → Bool)} {xs xs' : List XD} {M : Nat} {loose : List Str} {w : World}
    (h : HandSHeadRun.RunEq r q (hookX n fa fn ex xs) (obG n fa fn ex xs) M loose w) (h' : RunO r n fa' fn' ex' xs' M w) :
    HandSHeadRun.RunEq r q (hookX n (fa ++ fa') (fn ++ fn') (ex ++ ex') (xs ++ xs')) (obG n (fa ++ fa') (fn ++ fn') (ex ++ ex') (xs ++ xs')) M loose w := by
  intro os
  have a := h os
  have b := h' os
  revert a b
  generalize HandSHeadRun.endF (HandSHeadRun.stepQ (HandSHeadRun.denQ HandSHeadRun.tabQ) r.prog w) M r.prog w os = o
  intro a b
  obtain ⟨s, rfl⟩ : ∃ s, o = some s := by
    cases o with
    | none => exact absurd b.symm (Option.some_ne_none _)
    | some s => exact ⟨s, rfl⟩
  have a' := Option.some.inj a
  have b' := Option.some.inj b
  have a1 := congrArg (fun z => z.1) a'
  have a2 := congrArg (fun z => z.2.1) a'
  have a3 : obsX fa fn ex xs (He.frG (HandSHeadRun.getT s) (cStatics :: He.asD (HandSHeadRun.getT s) n)) = valX fn xs := congrArg (fun z => z.2.2) a'
  have b3 : obsX fa' fn' ex' xs' (He.frG (HandSHeadRun.getT s) (cStatics :: He.asD (HandSHeadRun.getT s) n)) = valX fn' xs' := b'
  have c : obG n (fa ++ fa') (fn ++ fn') (ex ++ ex') (xs ++ xs') s = valX (fn ++ fn') (xs ++ xs') := obsX_app a3 b3
  exact congrArg some (Prod.ext a1 (Prod.ext a2 c))
/-! ### a head's run in four runs, each with one value; the addresses that are looked at are given -/
abbrev frA (as : List Addr) (g : Addr → Option Obj) : Frag := He.frG g (cStatics :: as)
def hookA (as : List Addr) (fa : List He.Fa) (fn : List He.DefD) (ex : List (Frag → Bool)) (xs : List XD) : Hook where
  α := AlX
  obs := fun s => obsX fa fn ex xs (frA as s.heap.get?)
  val := fun _ => valX fn xs
  says := fun _ h => ∃ K : Frag, K.In h ∧ SaysX fa fn ex xs K
  of := fun _ _ e => ⟨_, He.frG_in, e⟩
  keeps := fun _ _ _ ⟨K, hK, c⟩ k => ⟨K, Frag.In.keeps hK k, c⟩
abbrev obA (as : List Addr) (fa : List He.Fa) (fn : List He.DefD) (ex : List (Frag → Bool)) (xs : List XD) (s : SharedT) : AlX := obsX fa fn ex xs (frA as (HandSHeadRun.getT s))
theorem obA_eq {as : List Addr} {fa : List He.Fa} {fn : List He.DefD} {ex : List (Frag → Bool)} {xs : List XD} (s : SharedT) : obA as fa fn ex xs s = (hookA as fa fn ex xs).obs s.abs := by
  have e : HandSHeadRun.getT s = s.abs.heap.get? := funext (HandSHeadRun.getT_eq s)
  show obsX fa fn ex xs (frA as (HandSHeadRun.getT s)) = obsX fa fn ex xs (frA as s.abs.heap.get?)
  rw [e]
/-- what a run leaves, looked at by f -/
abbrev EndIs (r : OpenRow) (M : Nat) (w : World) {α : Type} (f : SharedT → α) (a : α) : Prop := ∀ os : OsState, (HandSHeadRun.endF (HandSHeadRun.stepQ (HandSHeadRun.denQ HandSHeadRun.tabQ) r.prog w) M r.prog w os).map f = some a
theorem run_four {r : OpenRow} {q : Program} {as : List Addr} {fa : List He.Fa} {fn : List He.DefD} {ex : List (Frag → Bool)} {xs : List XD} {M : Nat} {loose : List Str} {w : World}
    (h1 : EndIs r M w (fun s => HandSHeadRun.looksF r.prog (boot_heap w.params) s.abs && (fa.all (fun f => f.ok (frA as (HandSHeadRun.getT s))) && (fn.all (fun d => d.ok (frA as (HandSHeadRun.getT s))) && ex.all fun c => c (frA as (HandSHeadRun.getT s))))) true)
    (h2 : EndIs r M w (fun s => HandSHeadRun.seenQ q loose (importedModules r.prog.main.body) (fun s => xlAt q [] s && recOk r.toRowW.records s) s.abs) (openGood q loose))
    (h3 : EndIs r M w (fun s => fn.map fun d => He.fnW (frA as (HandSHeadRun.getT s)) d.at_) (fn.map He.DefD.val))
    (h4 : EndIs r M w (fun s => xs.map fun d => xw (frA as (HandSHeadRun.getT s)) d.cls) (xs.map XD.val)) :
    HandSHeadRun.RunEq r q (hookA as fa fn ex xs) (obA as fa fn ex xs) M loose w := by
  intro os
  have a := h1 os
  have b := h2 os
  have c := h3 os
  have d := h4 os
  revert a b c d
  generalize HandSHeadRun.endF (HandSHeadRun.stepQ (HandSHeadRun.denQ HandSHeadRun.tabQ) r.prog w) M r.prog w os = o
  intro a b c d
  obtain ⟨s, rfl⟩ : ∃ s, o = some s := by
    cases o with
    | none => exact absurd a.symm (Option.some_ne_none _)
    | some s => exact ⟨s, rfl⟩
  have a' := Option.some.inj a
  have b' := Option.some.inj b
  have c' := Option.some.inj c
  have d' := Option.some.inj d
  simp only [Bool.and_eq_true] at a'
  obtain ⟨a1, a2, a3, a4⟩ := a'
  refine congrArg some (Prod.ext a1 (Prod.ext b' ?_))
  show obsX fa fn ex xs (frA as (HandSHeadRun.getT s)) = valX fn xs
  refine Prod.ext (Prod.ext ?_ c') (Prod.ext a4 d')
  show (fa.all (fun f => f.ok (frA as (HandSHeadRun.getT s))) && fn.all fun d => d.ok (frA as (HandSHeadRun.getT s))) = true
  rw [a2, a3]; rfl
/-- as isiB of AMisi -/
def isiB0 (K : PySem.W.Frag) (C : Addr) : Bool := He.eqO (PySem.W.findIn K (.ref C) "__class__") (some (some (.builtin "object.__class__"))) && (He.eqO (PySem.W.specialIn K (.builtin "object.__class__") "__get__") (some (some (.builtin "getset_descriptor.__get__"))) && (decide (PySem.W.takesIn K (.builtin "object.__class__") = some true) && decide (PySem.W.mroIn K C (.type "object") = some true)))
end AM
set_option Elab.async false
set_option linter.all false
set_option maxRecDepth 100000
set_option maxHeartbeats 0
namespace LW
open PySem PySem.Spec PyProof.Rows L2 AM
def top (i : Nat) : Stmt := PySem.Challenge.pw_everyhint_k12_texts_of_ratios.main.body.getD i (.Pass ⟨0, 0, 0, 0⟩)
abbrev s__law_pool : Stmt := top 13
abbrev s__law_take : Stmt := top 14
abbrev s__law_divisor : Stmt := top 15
abbrev s__law_ratio : Stmt := top 16
abbrev s_ratio_text : Stmt := top 10
abbrev s_read_integer : Stmt := top 9
abbrev s_divisor : Stmt := top 7
abbrev s_ratio : Stmt := top 8
abbrev s_read_ratio : Stmt := top 11
abbrev s__law_read : Stmt := top 19
abbrev s__law_spoiled : Stmt := top 20
abbrev s__law_plain : Stmt := top 17
abbrev s__law_due : Stmt := top 18
abbrev s_law : Stmt := top 21
abbrev sx_BadRatio : Stmt := inClass (top 2) 0
abbrev sx_BadText : Stmt := inClass (top 3) 0
def d0 : He.DefD := ⟨("_law_pool", none), "_law_pool", "_law_pool", defArgs s__law_pool, defBody s__law_pool, defScope s__law_pool, [], []⟩
def d1 : He.DefD := ⟨("_law_take", none), "_law_take", "_law_take", defArgs s__law_take, defBody s__law_take, defScope s__law_take, [], []⟩
def d2 : He.DefD := ⟨("_law_divisor", none), "_law_divisor", "_law_divisor", defArgs s__law_divisor, defBody s__law_divisor, defScope s__law_divisor, [], []⟩
def d3 : He.DefD := ⟨("_law_ratio", none), "_law_ratio", "_law_ratio", defArgs s__law_ratio, defBody s__law_ratio, defScope s__law_ratio, [], []⟩
def d4 : He.DefD := ⟨("ratio_text", none), "ratio_text", "ratio_text", defArgs s_ratio_text, defBody s_ratio_text, defScope s_ratio_text, [], []⟩
def d5 : He.DefD := ⟨("read_integer", none), "read_integer", "read_integer", defArgs s_read_integer, defBody s_read_integer, defScope s_read_integer, [], []⟩
def d6 : He.DefD := ⟨("divisor", none), "divisor", "divisor", defArgs s_divisor, defBody s_divisor, defScope s_divisor, [], []⟩
def d7 : He.DefD := ⟨("ratio", none), "ratio", "ratio", defArgs s_ratio, defBody s_ratio, defScope s_ratio, [.int 1], []⟩
def d8 : He.DefD := ⟨("read_ratio", none), "read_ratio", "read_ratio", defArgs s_read_ratio, defBody s_read_ratio, defScope s_read_ratio, [], []⟩
def d9 : He.DefD := ⟨("_law_read", none), "_law_read", "_law_read", defArgs s__law_read, defBody s__law_read, defScope s__law_read, [], []⟩
def d10 : He.DefD := ⟨("_law_spoiled", none), "_law_spoiled", "_law_spoiled", defArgs s__law_spoiled, defBody s__law_spoiled, defScope s__law_spoiled, [], []⟩
def d11 : He.DefD := ⟨("_law_plain", none), "_law_plain", "_law_plain", defArgs s__law_plain, defBody s__law_plain, defScope s__law_plain, [], []⟩
def d12 : He.DefD := ⟨("_law_due", none), "_law_due", "_law_due", defArgs s__law_due, defBody s__law_due, defScope s__law_due, [], []⟩
def d13 : He.DefD := ⟨("law", none), "law", "law", defArgs s_law, defBody s_law, defScope s_law, [], []⟩
def x_BadRatio : XD := ⟨"BadRatio", defArgs sx_BadRatio, defBody sx_BadRatio, defScope sx_BadRatio⟩
def x_BadText : XD := ⟨"BadText", defArgs sx_BadText, defBody sx_BadText, defScope sx_BadText⟩
def fnL0 : List He.DefD := [d0, d1, d2, d3, d4, d5, d6, d7, d8, d9, d10, d11, d12, d13]
def fnL : List He.DefD := fnL0
def faL0 : List He.Fa := [.glo "_law_pool", .glo "_law_take", .glo "_law_divisor", .glo "_law_ratio", .glo "ratio_text", .glo "read_integer", .glo "divisor", .glo "ratio", .glo "read_ratio", .glo "_law_read", .glo "_law_spoiled", .glo "_law_plain", .glo "_law_due", .glo "law", .free "list", .free "int", .free "len", .free "max", .free "abs", .free "str"]
def faL1 : List He.Fa := [.str "DIGITS" "0123456789", .free "all", .glo "BadRatio", .free "super", .noat "BadRatio" "bottom", .glo "BadText", .int "LONGEST_TEXT" 60, .exm "BadRatio" "BadText" false, .exm "BadText" "BadText" true, .free "range"]
def faL : List He.Fa := faL0 ++ faL1
def exL0 : List (PySem.W.Frag → Bool) := [fun K => xcB K PySem.Challenge.pw_everyhint_k12_texts_of_ratios.main.file "BadRatio", fun K => xcB K PySem.Challenge.pw_everyhint_k12_texts_of_ratios.main.file "BadText"]
def exL : List (PySem.W.Frag → Bool) := exL0
def xsL0 : List XD := [x_BadRatio, x_BadText]
def xsL : List XD := xsL0
def loose0 : List Str := ["__name__", "HintError", "BadRatio", "BadText", "LONGEST_TEXT", "DIGITS", "divisor", "ratio", "read_integer", "ratio_text", "read_ratio", "_law_pool", "_law_take", "_law_divisor", "_law_ratio", "_law_plain", "_law_due", "_law_read", "_law_spoiled"]
def loose : List Str := loose0
abbrev R : PySem.W.OpenRow := PySem.W.OpenLaw.row PySem.Challenge.rw_everyhint_k12_texts_of_ratios
def adL0 : List Addr := [3, 6, 4, 24, 46, 67, 76, 84, 89, 96, 101, 108, 115, 122, 129, 134, 139, 146, 153, 160, 0, 23, 45, 66, 75, 83, 77, 88, 95, 100, 107, 114, 121, 128, 133, 138, 145, 152, 159, 22, 25, 43, 44, 64, 65, 70, 71, 72, 73, 74]
def adL1 : List Addr := [78, 79, 80, 81, 82, 85, 86, 87, 90, 91, 92, 93, 94, 97, 98, 99, 102, 103, 104, 105, 106, 109, 110, 111, 112, 113, 116, 117, 118, 119, 120, 123, 124, 125, 126, 127, 130, 131, 132, 135, 136, 137, 140, 141, 142, 143, 144, 147, 148, 149]
def adL2 : List Addr := [150, 151, 154, 155, 156, 157, 158, 42, 31, 63, 52, 37, 38, 39, 40, 41, 58, 59, 60, 61, 62]
def adL : List Addr := adL0 ++ adL1 ++ adL2
abbrev hk : PySem.W.Hook := hookA adL faL fnL exL xsL
def ob (s : PySem.W.SharedT) : AlX := obA adL faL fnL exL xsL s
theorem ob_eq (s : PySem.W.SharedT) : ob s = hk.obs s.abs := obA_eq s
theorem hd_run1 (w : World) : EndIs R 20000 w (fun s => HandSHeadRun.looksF R.prog (PySem.W.boot_heap w.params) s.abs && (faL.all (fun f => f.ok (frA adL (HandSHeadRun.getT s))) && (fnL.all (fun d => d.ok (frA adL (HandSHeadRun.getT s))) && exL.all fun c => c (frA adL (HandSHeadRun.getT s))))) true := by
  intro os
  kernel_rfl
theorem hd_run2 (w : World) : EndIs R 20000 w (fun s => HandSHeadRun.seenQ (PySem.W.view R.prog [21]) loose (importedModules R.prog.main.body) (fun s => PySem.W.xlAt (PySem.W.view R.prog [21]) [] s && PySem.W.recOk R.toRowW.records s) s.abs) (PySem.W.openGood (PySem.W.view R.prog [21]) loose) := by
  intro os
  kernel_rfl
theorem hd_run3 (w : World) : EndIs R 20000 w (fun s => fnL.map fun d => He.fnW (frA adL (HandSHeadRun.getT s)) d.at_) (fnL.map He.DefD.val) := by
  intro os
  kernel_rfl
theorem hd_run4 (w : World) : EndIs R 20000 w (fun s => xsL.map fun d => xw (frA adL (HandSHeadRun.getT s)) d.cls) (xsL.map XD.val) := by
  intro os
  kernel_rfl
theorem run (w : World) : HandSHeadRun.RunEq R (PySem.W.view R.prog [21]) hk ob 20000 loose w := run_four (hd_run1 w) (hd_run2 w) (hd_run3 w) (hd_run4 w)
end LW
set_option Elab.async false
set_option linter.all false
set_option maxRecDepth 100000
set_option maxHeartbeats 4000000
namespace AM
open PySem L2 Evl
/-! ### data as trees; .ref n is the n-th cell of the store -/
inductive D where
  | non | bl (b : Bool) | int (i : Int) | str (x : Str)
  | lst (l : List D) | tup (l : List D)
  | dic (l : List (D × D))
  | obj (c : Str) (fs : List (Str × D))
  | fn (x : Str)
  | ty (n : String)
  | ref (n : Nat)
  | scr (ns : List Int)
/-- how a dict is locked: its object, and what stands in it -/
structure LkT where
  o : Obj
  kvs : List (List Key × V)
inductive C where
  | lst (l : List D) | dic (l : List (D × D)) | obj (c : Str) (fs : List (Str × D)) | pool (n : Nat) (ns : List Int) | dead | dicL (t : LkT) (l : List (D × D))
abbrev S := List C
def kD : Key → D
  | .inl i => .int i
  | .inr x => .str x
/-! ### what trees mention: cells below k -/
mutual
def D.lt (k : Nat) : D → Prop
  | .lst l => ltL k l
  | .tup l => ltL k l
  | .dic l => ltP k l
  | .obj _ fs => ltF k fs
  | .ref n => n < k
  | _ => True
def ltL (k : Nat) : List D → Prop
  | [] => True
  | x :: xs => D.lt k x ∧ ltL k xs
def ltP (k : Nat) : List (D × D) → Prop
  | [] => True
  | (x, y) :: xs => D.lt k x ∧ D.lt k y ∧ ltP k xs
def ltF (k : Nat) : List (Str × D) → Prop
  | [] => True
  | (_, y) :: xs => D.lt k y ∧ ltF k xs
end
def C.lt (k : Nat) : C → Prop
  | .lst l => ltL k l
  | .dic l => ltP k l
  | .dicL _ l => ltP k l
  | .obj _ fs => ltF k fs
  | _ => True
def ltS (k : Nat) (st : S) : Prop := ∀ c ∈ st, C.lt k c
/-- what is frozen, and where the cells lie -/
structure Gh where
  g : Hp
  as : List Addr
structure Gh.le (G G2 : Gh) : Prop where
  g : Ex G.g G2.g
  a : G.as <+: G2.as
theorem Gh.le.refl (G : Gh) : G.le G := ⟨Ex.refl _, List.prefix_refl _⟩
theorem Gh.le.trans {G G2 G3 : Gh} (a : G.le G2) (b : G2.le G3) : G.le G3 := ⟨a.g.trans b.g, a.a.trans b.a⟩
mutual
inductive Rep (K : PySem.W.Frag) (G : Gh) : D → V → Prop
  | non : Rep K G .non .non
  | bl (b : Bool) : Rep K G (.bl b) (.bl b)
  | int (i : Int) : Rep K G (.int i) (.int i)
  | str (x : Str) : Rep K G (.str x) (.str x)
  | lst {p : Addr} {vs : List V} {ds : List D} : G.g p = some (.lst vs) → Reps K G ds vs → Rep K G (.lst ds) (.ref p)
  | tup {p : Addr} {vs : List V} {ds : List D} : G.g p = some (.tup vs) → Reps K G ds vs → Rep K G (.tup ds) (.ref p)
  | dicT {p : Addr} {kvs : List (List Key × V)} {ds : List (D × D)} : G.g p = some (.dT kvs) → RepT K G ds kvs → Rep K G (.dic ds) (.ref p)
  | obj {c : Str} {p dx : Addr} {fs : List (Str × D)} {vs : List (Str × V)} : G.g p = some (.ins (He.ga K c) dx vs) → RepF K G fs vs → Rep K G (.obj c fs) (.ref p)
  | fn (x : Str) : Rep K G (.fn x) (.ref (He.ga K x))
  | ty (n : String) : Rep K G (.ty n) (.ty n)
  | ref {n : Nat} {p : Addr} : G.as[n]? = some p → Rep K G (.ref n) (.ref p)
  | scr {ns : List Int} {p : Addr} : SqL K G.g p (ns.map V.int) → ns.length ≤ 63 → Rep K G (.scr ns) (.ref p)
inductive Reps (K : PySem.W.Frag) (G : Gh) : List D → List V → Prop
  | nil : Reps K G [] []
  | cons {d : D} {v : V} {ds : List D} {vs : List V} : Rep K G d v → Reps K G ds vs → Reps K G (d :: ds) (v :: vs)
inductive RepF (K : PySem.W.Frag) (G : Gh) : List (Str × D) → List (Str × V) → Prop
  | nil : RepF K G [] []
  | cons {f : Str} {d : D} {v : V} {ds : List (Str × D)} {vs : List (Str × V)} : Rep K G d v → RepF K G ds vs → RepF K G ((f, d) :: ds) ((f, v) :: vs)
inductive RepK (K : PySem.W.Frag) (G : Gh) : List (D × D) → List (Key × V) → Prop
  | nil : RepK K G [] []
  | cons {k : Key} {d : D} {v : V} {ds : List (D × D)} {vs : List (Key × V)} : Rep K G d v → RepK K G ds vs → RepK K G ((kD k, d) :: ds) ((k, v) :: vs)
inductive RepT (K : PySem.W.Frag) (G : Gh) : List (D × D) → List (List Key × V) → Prop
  | nil : RepT K G [] []
  | cons {k : List Key} {d : D} {v : V} {ds : List (D × D)} {vs : List (List Key × V)} : Rep K G d v → RepT K G ds vs → RepT K G ((.tup (k.map kD), d) :: ds) ((k, v) :: vs)
end
theorem pre_get {α : Type} {l r : List α} {n : Nat} {x : α} (h : l <+: r) (e : l[n]? = some x) : r[n]? = some x := by
  obtain ⟨t, rfl⟩ := h
  rw [List.getElem?_append_left (List.getElem?_eq_some_iff.mp e).1]
  exact e
theorem kD_lt (k : Nat) : ∀ x : Key, (kD x).lt k
  | .inl _ => by unfold kD D.lt; trivial
  | .inr _ => by unfold kD D.lt; trivial
theorem kDs_lt (k : Nat) : ∀ l : List Key, ltL k (l.map kD)
  | [] => by unfold List.map ltL; trivial
  | x :: xs => by rw [List.map_cons]; unfold ltL; exact ⟨kD_lt k x, kDs_lt k xs⟩
section
variable {K : PySem.W.Frag} {G G2 : Gh}
mutual
theorem Rep.mono (e : G.le G2) : ∀ {d : D} {v : V}, Rep K G d v → Rep K G2 d v
  | _, _, .non => .non
  | _, _, .bl b => .bl b
  | _, _, .int i => .int i
  | _, _, .str x => .str x
  | _, _, .lst h r => .lst (e.g _ _ h) (Reps.mono e r)
  | _, _, .tup h r => .tup (e.g _ _ h) (Reps.mono e r)
  | _, _, .dicT h r => .dicT (e.g _ _ h) (RepT.mono e r)
  | _, _, .obj h r => .obj (e.g _ _ h) (RepF.mono e r)
  | _, _, .fn x => .fn x
  | _, _, .ty x => .ty x
  | _, _, .ref h => .ref (pre_get e.a h)
  | _, _, .scr h l => .scr (ex_l e.g h) l
theorem Reps.mono (e : G.le G2) : ∀ {ds : List D} {vs : List V}, Reps K G ds vs → Reps K G2 ds vs
  | _, _, .nil => .nil
  | _, _, .cons h r => .cons (Rep.mono e h) (Reps.mono e r)
theorem RepF.mono (e : G.le G2) : ∀ {ds : List (Str × D)} {vs : List (Str × V)}, RepF K G ds vs → RepF K G2 ds vs
  | _, _, .nil => .nil
  | _, _, .cons h r => .cons (Rep.mono e h) (RepF.mono e r)
theorem RepK.mono (e : G.le G2) : ∀ {ds : List (D × D)} {vs : List (Key × V)}, RepK K G ds vs → RepK K G2 ds vs
  | _, _, .nil => .nil
  | _, _, .cons h r => .cons (Rep.mono e h) (RepK.mono e r)
theorem RepT.mono (e : G.le G2) : ∀ {ds : List (D × D)} {vs : List (List Key × V)}, RepT K G ds vs → RepT K G2 ds vs
  | _, _, .nil => .nil
  | _, _, .cons h r => .cons (Rep.mono e h) (RepT.mono e r)
end
/-! what is represented mentions cells that there are -/
mutual
theorem Rep.lt : ∀ {d : D} {v : V}, Rep K G d v → d.lt G.as.length
  | _, _, .non => by unfold D.lt; trivial
  | _, _, .bl b => by unfold D.lt; trivial
  | _, _, .int i => by unfold D.lt; trivial
  | _, _, .str x => by unfold D.lt; trivial
  | _, _, .lst h r => by unfold D.lt; exact r.lt
  | _, _, .tup h r => by unfold D.lt; exact r.lt
  | _, _, .dicT h r => by unfold D.lt; exact r.lt
  | _, _, .obj h r => by unfold D.lt; exact r.lt
  | _, _, .fn x => by unfold D.lt; trivial
  | _, _, .ty x => by unfold D.lt; trivial
  | _, _, .ref h => by unfold D.lt; exact (List.getElem?_eq_some_iff.mp h).1
  | _, _, .scr h l => by unfold D.lt; trivial
theorem Reps.lt : ∀ {ds : List D} {vs : List V}, Reps K G ds vs → ltL G.as.length ds
  | _, _, .nil => by unfold ltL; trivial
  | _, _, .cons h r => by unfold ltL; exact ⟨h.lt, r.lt⟩
theorem RepF.lt : ∀ {ds : List (Str × D)} {vs : List (Str × V)}, RepF K G ds vs → ltF G.as.length ds
  | _, _, .nil => by unfold ltF; trivial
  | _, _, .cons h r => by unfold ltF; exact ⟨h.lt, r.lt⟩
theorem RepK.lt : ∀ {ds : List (D × D)} {vs : List (Key × V)}, RepK K G ds vs → ltP G.as.length ds
  | _, _, .nil => by unfold ltP; trivial
  | _, _, .cons h r => by unfold ltP; exact ⟨kD_lt _ _, h.lt, r.lt⟩
theorem RepT.lt : ∀ {ds : List (D × D)} {vs : List (List Key × V)}, RepT K G ds vs → ltP G.as.length ds
  | _, _, .nil => by unfold ltP; trivial
  | _, _, .cons h r => by unfold ltP; exact ⟨by unfold D.lt; exact kDs_lt _ _, h.lt, r.lt⟩
end
/-! cells may be left away that are not mentioned -/
mutual
theorem Rep.cut {as : List Addr} (e : as <+: G.as) : ∀ {d : D} {v : V}, Rep K G d v → d.lt as.length → Rep K ⟨G.g, as⟩ d v
  | _, _, .non, _ => .non
  | _, _, .bl b, _ => .bl b
  | _, _, .int i, _ => .int i
  | _, _, .str x, _ => .str x
  | _, _, .lst h r, l => .lst h (Reps.cut e r (by unfold D.lt at l; exact l))
  | _, _, .tup h r, l => .tup h (Reps.cut e r (by unfold D.lt at l; exact l))
  | _, _, .dicT h r, l => .dicT h (RepT.cut e r (by unfold D.lt at l; exact l))
  | _, _, .obj h r, l => .obj h (RepF.cut e r (by unfold D.lt at l; exact l))
  | _, _, .fn x, _ => .fn x
  | _, _, .ty x, _ => .ty x
  | _, _, .ref h, l => .ref (by
    unfold D.lt at l
    obtain ⟨t, ht⟩ := e
    rw [← ht, List.getElem?_append_left l] at h
    exact h)
  | _, _, .scr h l, _ => .scr h l
theorem Reps.cut {as : List Addr} (e : as <+: G.as) : ∀ {ds : List D} {vs : List V}, Reps K G ds vs → ltL as.length ds → Reps K ⟨G.g, as⟩ ds vs
  | _, _, .nil, _ => .nil
  | _, _, .cons h r, l => by
    unfold ltL at l
    exact .cons (Rep.cut e h l.1) (Reps.cut e r l.2)
theorem RepF.cut {as : List Addr} (e : as <+: G.as) : ∀ {ds : List (Str × D)} {vs : List (Str × V)}, RepF K G ds vs → ltF as.length ds → RepF K ⟨G.g, as⟩ ds vs
  | _, _, .nil, _ => .nil
  | _, _, .cons h r, l => by
    unfold ltF at l
    exact .cons (Rep.cut e h l.1) (RepF.cut e r l.2)
theorem RepK.cut {as : List Addr} (e : as <+: G.as) : ∀ {ds : List (D × D)} {vs : List (Key × V)}, RepK K G ds vs → ltP as.length ds → RepK K ⟨G.g, as⟩ ds vs
  | _, _, .nil, _ => .nil
  | _, _, .cons h r, l => by
    unfold ltP at l
    exact .cons (Rep.cut e h l.2.1) (RepK.cut e r l.2.2)
theorem RepT.cut {as : List Addr} (e : as <+: G.as) : ∀ {ds : List (D × D)} {vs : List (List Key × V)}, RepT K G ds vs → ltP as.length ds → RepT K ⟨G.g, as⟩ ds vs
  | _, _, .nil, _ => .nil
  | _, _, .cons h r, l => by
    unfold ltP at l
    exact .cons (Rep.cut e h l.2.1) (RepT.cut e r l.2.2)
end
theorem Reps.length : ∀ {ds : List D} {vs : List V}, Reps K G ds vs → ds.length = vs.length
  | _, _, .nil => rfl
  | _, _, .cons _ r => congrArg Nat.succ r.length
theorem Reps.get : ∀ {ds : List D} {vs : List V} {i : Nat} {d : D}, Reps K G ds vs → ds[i]? = some d → ∃ v, vs[i]? = some v ∧ Rep K G d v
  | _, _, _, _, .nil, e => by simp at e
  | _, _, 0, _, .cons h _, e => by simp at e; subst e; exact ⟨_, rfl, h⟩
  | _, _, i + 1, d, .cons _ r, e => by
    obtain ⟨v, h1, h2⟩ := Reps.get (i := i) (d := d) r (by simpa using e)
    exact ⟨v, by simpa using h1, h2⟩
theorem Reps.append : ∀ {ds es : List D} {vs us : List V}, Reps K G ds vs → Reps K G es us → Reps K G (ds ++ es) (vs ++ us)
  | _, _, _, _, .nil, s => s
  | _, _, _, _, .cons h r, s => .cons h (Reps.append r s)
theorem Reps.one {d : D} {v : V} (h : Rep K G d v) : Reps K G [d] [v] := .cons h .nil
theorem Reps.set {d : D} {v : V} (h : Rep K G d v) : ∀ {ds : List D} {vs : List V} (i : Nat), Reps K G ds vs → Reps K G (ds.set i d) (vs.set i v)
  | _, _, _, .nil => .nil
  | _, _, 0, .cons _ r => .cons h r
  | _, _, i + 1, .cons q r => .cons q (Reps.set h i r)
theorem Reps.ints : ∀ (ns : List Int), Reps K G (ns.map D.int) (ns.map V.int)
  | [] => .nil
  | n :: ns => .cons (.int n) (Reps.ints ns)
end
/-! ### errors -/
structure Er where
  cls : Str
  fld : Option (Str × D)
def Er.lt (k : Nat) (e : Er) : Prop := match e.fld with
  | none => True
  | some (_, d) => d.lt k
def ErAt (K : PySem.W.Frag) (G : Gh) (e : Er) (c : Value) (dx : Option Addr) : Prop := c = .ref (He.ga K e.cls) ∧ match e.fld with
  | none => dx = none
  | some (f, x) => ∃ d v, dx = some d ∧ G.g d = some (.xd [(f, v)]) ∧ Rep K G x v
theorem ErAt.mono {K : PySem.W.Frag} {G G2 : Gh} {e : Er} {c : Value} {dx : Option Addr} (g : G.le G2) (h : ErAt K G e c dx) : ErAt K G2 e c dx := by
  obtain ⟨h1, h2⟩ := h
  refine ⟨h1, ?_⟩
  revert h2
  cases e.fld with
  | none => exact fun h => h
  | some p => exact fun ⟨d, v, e1, e2, e3⟩ => ⟨d, v, e1, g.g _ _ e2, e3.mono g⟩
theorem ErAt.cut {K : PySem.W.Frag} {G : Gh} {e : Er} {c : Value} {dx : Option Addr} {as : List Addr} (g : as <+: G.as) (h : ErAt K G e c dx) (l : e.lt as.length) : ErAt K ⟨G.g, as⟩ e c dx := by
  obtain ⟨h1, h2⟩ := h
  refine ⟨h1, ?_⟩
  revert h2
  unfold Er.lt at l
  revert l
  cases e.fld with
  | none => exact fun _ h => h
  | some p => exact fun l ⟨d, v, e1, e2, e3⟩ => ⟨d, v, e1, e2, e3.cut g l⟩
/-! ### slots -/
inductive A where
  | no | d (x : D) | exc (a : Addr) (c : Value) (dx : Option Addr) (e : Er)
def SlotOk (K : PySem.W.Frag) (G : Gh) : A → Option (Option V) → Prop
  | .no, _ => True
  | .d x, v => ∃ u, v = some (some u) ∧ Rep K G x u
  | .exc a c dx e, v => v = some (some (.ref a)) ∧ ErAt K G e c dx
structure Sl (K : PySem.W.Frag) (G : Gh) (env : List A) (σ : St) : Prop where
  len : env.length = σ.length
  slot : ∀ (i : Nat) (x : A), env[i]? = some x → SlotOk K G x (σ[i]?)
theorem SlotOk.mono {K : PySem.W.Frag} {G G2 : Gh} (g : G.le G2) {x : A} {v : Option (Option V)} (s : SlotOk K G x v) : SlotOk K G2 x v := by
  cases x with
  | no => trivial
  | d y => exact ⟨s.choose, s.choose_spec.1, s.choose_spec.2.mono g⟩
  | exc a c dx e => exact ⟨s.1, s.2.mono g⟩
theorem Sl.mono {K : PySem.W.Frag} {G G2 : Gh} (g : G.le G2) {env : List A} {σ : St} (s : Sl K G env σ) : Sl K G2 env σ := ⟨s.len, fun i x e => (s.slot i x e).mono g⟩
theorem get_set {α : Type} {l : List α} {i j : Nat} {x y : α} (h : (l.set i x)[j]? = some y) : (j = i ∧ y = x ∧ i < l.length) ∨ (j ≠ i ∧ l[j]? = some y) := by
  by_cases hj : j = i
  · subst hj
    by_cases hl : j < l.length
    · rw [List.getElem?_set_self hl] at h
      exact .inl ⟨rfl, (Option.some.inj h).symm, hl⟩
    · rw [List.getElem?_eq_none (by rw [List.length_set]; omega)] at h
      cases h
  · rw [List.getElem?_set_ne (Ne.symm hj)] at h
    exact .inr ⟨hj, h⟩
theorem Sl.put {K : PySem.W.Frag} {G : Gh} {env : List A} {σ : St} (s : Sl K G env σ) (i : Nat) {x : A} {v : Option V} (h : SlotOk K G x (some v)) : Sl K G (env.set i x) (σ.set i v) := by
  refine ⟨by rw [List.length_set, List.length_set]; exact s.len, fun j y e => ?_⟩
  rcases get_set e with ⟨rfl, rfl, hl⟩ | ⟨hj, e⟩
  · rw [List.getElem?_set_self (by rw [← s.len]; exact hl)]
    exact h
  · rw [List.getElem?_set_ne (Ne.symm hj)]
    exact s.slot j y e
theorem Sl.set {K : PySem.W.Frag} {G : Gh} {env : List A} {σ : St} {v : V} {d : D} (s : Sl K G env σ) (i : Nat) (r : Rep K G d v) : Sl K G (env.set i (.d d)) (σ.set i (some v)) := s.put i ⟨v, rfl, r⟩
theorem Sl.drop {K : PySem.W.Frag} {G : Gh} {env : List A} {σ : St} (s : Sl K G env σ) (i : Nat) (v : Option V) : Sl K G (env.set i .no) (σ.set i v) := s.put i trivial
/-! ### the store -/
/-- it stands as it was, a dict perhaps locked -/
def Lk (H : Hp) (a : Addr) (u : HO) : Prop := H a = some u ∨ ∃ ob kvs, u = .dT kvs ∧ H a = some (.frz ob u)
def ExL (g H : Hp) : Prop := ∀ a u, g a = some u → Lk H a u
theorem Lk.ne {H : Hp} {a : Addr} {u : HO} (h : Lk H a u) : H a ≠ none := by
  rcases h with e | ⟨ob, kvs, _, e⟩ <;> rw [e] <;> exact fun z => nomatch z
theorem Lk.at {H : Hp} {a : Addr} {u : HO} (h : Lk H a u) (n : ∀ kvs, u ≠ .dT kvs) : H a = some u := by
  rcases h with e | ⟨ob, kvs, z, _⟩
  · exact e
  · exact absurd z (n kvs)
theorem ExL.at {g H : Hp} {a : Addr} {u : HO} (e : ExL g H) (h : g a = some u) (n : ∀ kvs, u ≠ .dT kvs) : H a = some u := (e a u h).at n
theorem ExL.lst {g H : Hp} {a : Addr} {vs : List V} (e : ExL g H) (h : g a = some (.lst vs)) : H a = some (.lst vs) := e.at h fun _ z => nomatch z
theorem ExL.tup {g H : Hp} {a : Addr} {vs : List V} (e : ExL g H) (h : g a = some (.tup vs)) : H a = some (.tup vs) := e.at h fun _ z => nomatch z
theorem ExL.ins {g H : Hp} {a c dx : Addr} {fs : List (Str × V)} (e : ExL g H) (h : g a = some (.ins c dx fs)) : H a = some (.ins c dx fs) := e.at h fun _ z => nomatch z
theorem ExL.xd {g H : Hp} {a : Addr} {fs : List (Str × V)} (e : ExL g H) (h : g a = some (.xd fs)) : H a = some (.xd fs) := e.at h fun _ z => nomatch z
theorem ExL.dT {g H : Hp} {a : Addr} {kvs : List (List Key × V)} (e : ExL g H) (h : g a = some (.dT kvs)) : Rd H a (.dT kvs) := by
  rcases e a _ h with e | ⟨ob, _, _, e⟩
  · exact .inl e
  · exact .inr ⟨ob, e⟩
theorem ExL.fresh {g H : Hp} {a : Addr} (e : ExL g H) (h : H a = none) : g a = none := by
  cases z : g a with
  | none => rfl
  | some u => exact absurd h (e a u z).ne
theorem ExL.sq {K : PySem.W.Frag} {g H : Hp} {a : Addr} {vs : List V} (e : ExL g H) (h : SqL K g a vs) : SqL K H a vs := by
  rcases h with (h | ⟨o, h⟩) | h
  · exact .inl (.inl (e.lst h))
  · exact .inl (.inr ⟨o, e.at h fun _ z => nomatch z⟩)
  · exact .inr h
theorem ExL.st {K : PySem.W.Frag} {g H : Hp} {a : Addr} {vs : List V} (e : ExL g H) (h : SqT K g a vs) : SqT K H a vs := by
  rcases h with (h | ⟨o, h⟩) | h
  · exact .inl (.inl (e.tup h))
  · exact .inl (.inr ⟨o, e.at h fun _ z => nomatch z⟩)
  · exact .inr h
theorem ExL.of {g H : Hp} (e : Ex g H) : ExL g H := fun a u h => .inl (e a u h)
theorem Lk.new {H : Hp} {p a : Addr} {o u : HO} (hp : H p = none) (h : Lk H a u) : Lk (upd H p o) a u := by
  have ne : a ≠ p := fun z => h.ne (z ▸ hp)
  rcases h with e | ⟨ob, kvs, z, e⟩
  · exact .inl (by rw [upd_ne ne]; exact e)
  · exact .inr ⟨ob, kvs, z, by rw [upd_ne ne]; exact e⟩
theorem Lk.put {H : Hp} {p a : Addr} {o u : HO} (ne : a ≠ p) (h : Lk H a u) : Lk (upd H p o) a u := by
  rcases h with e | ⟨ob, kvs, z, e⟩
  · exact .inl (by rw [upd_ne ne]; exact e)
  · exact .inr ⟨ob, kvs, z, by rw [upd_ne ne]; exact e⟩
def CellOk (K : PySem.W.Frag) (G : Gh) (H : Hp) : C → Addr → Prop
  | .lst l, p => ∃ vs, G.g p = none ∧ H p = some (.lst vs) ∧ Reps K G l vs
  | .dic l, p => G.g p = none ∧ ∃ kvs, H p = some (.dT kvs) ∧ RepT K G l kvs
  | .dicL t l, p => G.g p = none ∧ H p = some (.frz t.o (.dT t.kvs)) ∧ RepT K G l t.kvs
  | .obj c fs, p => ∃ dx vs, G.g p = none ∧ H p = some (.ins (He.ga K c) dx vs) ∧ RepF K G fs vs
  | .pool n ns, p => G.g p = none ∧ ∃ (at_ lf : Int) (q : Addr), H p = some (.lst [.int at_, .int lf, .ref q]) ∧ 0 ≤ at_ ∧ at_ ≤ n ∧ 0 ≤ lf ∧ G.g q = some (.lst (ns.map V.int)) ∧ ns.length ≤ 63
  | .dead, p => H p ≠ none
structure SS (K : PySem.W.Frag) (G : Gh) (st : S) (H : Hp) : Prop where
  ex : ExL G.g H
  len : G.as.length = st.length
  nd : G.as.Nodup
  cell : ∀ (n : Nat) (c : C) (p : Addr), st[n]? = some c → G.as[n]? = some p → CellOk K G H c p
theorem CellOk.live {K : PySem.W.Frag} {G : Gh} {H : Hp} {c : C} {p : Addr} (h : CellOk K G H c p) : H p ≠ none := by
  cases c with
  | lst l => obtain ⟨vs, _, e, _⟩ := h; rw [e]; exact fun z => nomatch z
  | dic l =>
    obtain ⟨kvs, e, _⟩ := h.2
    rw [e]; exact fun z => nomatch z
  | obj c fs => obtain ⟨dx, vs, _, e, _⟩ := h; rw [e]; exact fun z => nomatch z
  | pool n ns => obtain ⟨_, a, l, q, e, _⟩ := h; rw [e]; exact fun z => nomatch z
  | dead => exact h
  | dicL t l => rw [h.2.1]; exact fun z => nomatch z
theorem CellOk.mono {K : PySem.W.Frag} {G G2 : Gh} {H H2 : Hp} {c : C} {p : Addr} (g : G.le G2) (hh : ∀ o, H p = some o → H2 p = some o) (hn : c ≠ .dead → G.g p = none → G2.g p = none) (h : CellOk K G H c p) : CellOk K G2 H2 c p := by
  cases c with
  | lst l => obtain ⟨vs, gp, e, r⟩ := h; exact ⟨vs, hn (fun z => nomatch z) gp, hh _ e, r.mono g⟩
  | dic l =>
    refine ⟨hn (fun z => nomatch z) h.1, ?_⟩
    obtain ⟨kvs, e, r⟩ := h.2
    exact ⟨kvs, hh _ e, r.mono g⟩
  | obj c fs => obtain ⟨dx, vs, gp, e, r⟩ := h; exact ⟨dx, vs, hn (fun z => nomatch z) gp, hh _ e, r.mono g⟩
  | pool n ns =>
    obtain ⟨gp, a, l, q, e, h1, h2, h3, h4, h5⟩ := h
    exact ⟨hn (fun z => nomatch z) gp, a, l, q, hh _ e, h1, h2, h3, g.g _ _ h4, h5⟩
  | dead =>
    cases e : H p with
    | none => exact absurd e h
    | some o => show H2 p ≠ none; rw [hh _ e]; exact fun z => nomatch z
  | dicL t l => exact ⟨hn (fun z => nomatch z) h.1, hh _ h.2.1, h.2.2.mono g⟩
section
variable {K : PySem.W.Frag} {G G2 : Gh} {H H2 : Hp} {st st2 : S}
theorem SS.live (s : SS K G st H) {p : Addr} (h : p ∈ G.as) : H p ≠ none := by
  obtain ⟨n, e⟩ := List.mem_iff_getElem?.mp h
  have hn : n < st.length := by rw [← s.len]; exact (List.getElem?_eq_some_iff.mp e).1
  exact (s.cell n st[n] p (List.getElem?_eq_getElem hn) e).live
theorem SS.fresh (s : SS K G st H) {p : Addr} (h : H p = none) : p ∉ G.as := fun z => s.live z h
theorem SS.wf (s : SS K G st H) : ltS st.length st := fun c hc => by
  obtain ⟨n, e⟩ := List.mem_iff_getElem?.mp hc
  have hn : n < G.as.length := by rw [s.len]; exact (List.getElem?_eq_some_iff.mp e).1
  have h := s.cell n c _ e (List.getElem?_eq_getElem hn)
  rw [← s.len]
  cases c with
  | lst l => obtain ⟨vs, _, _, r⟩ := h; exact r.lt
  | dic l =>
    obtain ⟨kvs, _, r⟩ := h.2
    exact r.lt
  | obj c fs => obtain ⟨dx, vs, _, _, r⟩ := h; exact r.lt
  | pool n ns => trivial
  | dead => trivial
  | dicL t l => exact h.2.2.lt
end
/-! ### what may come between -/
/-- there is something that is no tuple -/
def NT (o : Option HO) : Prop := o ≠ none ∧ ∀ xs, o ≠ some (.tup xs)
structure Post (G : Gh) (H : Hp) (G2 : Gh) (H2 : Hp) : Prop where
  le : G.le G2
  h : ∀ x o, H x = some o → x ∉ G.as → H2 x = some o ∨ (G.g x ≠ none ∧ ∃ ob kvs, o = .dT kvs ∧ H2 x = some (.frz ob o))
  n : ∀ x, G.g x = none → NT (H x) → x ∉ G.as → G2.g x = none
  o : ∀ x, x ∈ G2.as → x ∈ G.as ∨ H x = none
  m : ∀ x, H x ≠ none → H2 x ≠ none
  z : ∀ x o u, G.g x ≠ none → H x = some (.frz o u) → H2 x = some (.frz o u)
theorem le_some {G G2 : Gh} (l : G.le G2) {x : Addr} (h : G.g x ≠ none) : G2.g x ≠ none := by
  cases e : G.g x with
  | none => exact absurd e h
  | some u => rw [l.g x u e]; exact fun z => nomatch z
theorem Post.refl {G : Gh} {H : Hp} : Post G H G H := ⟨Gh.le.refl G, fun _ _ h _ => .inl h, fun _ h _ _ => h, fun _ h => .inl h, fun _ h => h, fun _ _ _ _ h => h⟩
theorem Post.trans {G G2 G3 : Gh} {H H2 H3 : Hp} (p : Post G H G2 H2) (q : Post G2 H2 G3 H3) : Post G H G3 H3 := by
  have no : ∀ {x : Addr}, H x ≠ none → x ∉ G.as → x ∉ G2.as := fun {x} h1 h2 z => by
    rcases p.o x z with z | z
    · exact h2 z
    · exact h1 z
  have ne : ∀ {x : Addr} {o : HO}, H x = some o → H x ≠ none := fun e => by rw [e]; exact fun z => nomatch z
  have hh : ∀ x o, H x = some o → x ∉ G.as → H3 x = some o ∨ (G.g x ≠ none ∧ ∃ ob kvs, o = .dT kvs ∧ H3 x = some (.frz ob o)) := fun x o e k => by
    rcases p.h x o e k with e2 | ⟨y, ob, kvs, z, e2⟩
    · rcases q.h x o e2 (no (ne e) k) with e3 | ⟨y, r⟩
      · exact .inl e3
      · obtain ⟨ob, kvs, r1, r2⟩ := r
        exact .inr ⟨fun z => y (p.n x z ⟨ne e, fun xs t => by rw [e, r1] at t; cases t⟩ k), ob, kvs, r1, r2⟩
    · rcases q.h x _ e2 (no (ne e) k) with e3 | ⟨_, _, _, z3, _⟩
      · exact .inr ⟨y, ob, kvs, z, e3⟩
      · cases z3
  have hp := p.h
  exact ⟨p.le.trans q.le, hh, fun x e k l => q.n x (p.n x e k l) (by
    cases w : H x with
    | none => exact absurd w k.1
    | some o =>
      rcases hp x o w l with e2 | ⟨_, ob, kvs, z, e2⟩
      · rw [e2, ← w]; exact k
      · rw [e2]; exact ⟨(fun z => nomatch z), fun _ z => nomatch z⟩) (no k.1 l), fun x z => by
    rcases q.o x z with z | z
    · exact p.o x z
    · refine .inr ?_
      cases hh : H x with
      | none => rfl
      | some o => exact absurd z (p.m x (ne hh)), fun x k => q.m x (p.m x k), fun x o u k e => q.z x o u (le_some p.le k) (p.z x o u k e)⟩
theorem Post.h0 {G G2 : Gh} {H H2 : Hp} (p : Post G H G2 H2) {x : Addr} {o : HO} (e : H x = some o) (k : x ∉ G.as) (g : G.g x = none) : H2 x = some o := by
  rcases p.h x o e k with e2 | ⟨y, _⟩
  · exact e2
  · exact absurd g y
theorem Post.h1 {G G2 : Gh} {H H2 : Hp} (p : Post G H G2 H2) {x : Addr} {o : HO} (e : H x = some o) (k : x ∉ G.as) (n : ∀ kvs, o ≠ .dT kvs) : H2 x = some o := by
  rcases p.h x o e k with e2 | ⟨_, _, kvs, z, _⟩
  · exact e2
  · exact absurd z (n kvs)
/-! ### readings by data -/
abbrev QX := Er → S → Prop
abbrev AE := List A → S → (D → S → Prop) → QX → Prop
abbrev AT := List A → S → (Bool → S → Prop) → QX → Prop
inductive Rs where
  | d (x : D) | own (l : List D) | ownD (l : List (D × D))
structure AK where
  nx : List A → S → Prop
  rt : Rs → S → Prop
  bk : List A → S → Prop
  ct : List A → S → Prop
  er : Er → List A → S → Prop
abbrev AS := List A → S → AK → Prop
def ThenE (K : PySem.W.Frag) (G : Gh) (H : Hp) (q : D → S → Prop) (Q : VK) : Prop := ∀ v d st2 G2 H2, Post G H G2 H2 → SS K G2 st2 H2 → Rep K G2 d v → q d st2 → Q v H2
def ThenT (K : PySem.W.Frag) (G : Gh) (H : Hp) (q : Bool → S → Prop) (Q : Bool → Hp → Prop) : Prop := ∀ b st2 G2 H2, Post G H G2 H2 → SS K G2 st2 H2 → q b st2 → Q b H2
def ThenX (K : PySem.W.Frag) (W : WX) (G : Gh) (H : Hp) (σ : St) (er : QX) : Prop := ∀ e c dx st2 G2 H2, Post G H G2 H2 → SS K G2 st2 H2 → ErAt K G2 e c dx → er e st2 → W c dx σ H2
def RefE (K : PySem.W.Frag) (W : WX) (te : TE) (ae : AE) : Prop := ∀ G env st σ H (Q : VK) (q : D → S → Prop) (er : QX), SS K G st H → Sl K G env σ → ae env st q er → ThenE K G H q Q → ThenX K W G H σ er → te σ H Q
def RefT (K : PySem.W.Frag) (W : WX) (tt : TT) (at_ : AT) : Prop := ∀ G env st σ H (Q : Bool → Hp → Prop) (q : Bool → S → Prop) (er : QX), SS K G st H → Sl K G env σ → at_ env st q er → ThenT K G H q Q → ThenX K W G H σ er → tt σ H Q
theorem ThenE.on {K : PySem.W.Frag} {G G2 : Gh} {H H2 : Hp} {q : D → S → Prop} {Q : VK} (t : ThenE K G H q Q) (p : Post G H G2 H2) : ThenE K G2 H2 q Q := fun v d st3 G3 H3 p2 => t v d st3 G3 H3 (p.trans p2)
theorem ThenT.on {K : PySem.W.Frag} {G G2 : Gh} {H H2 : Hp} {q : Bool → S → Prop} {Q : Bool → Hp → Prop} (t : ThenT K G H q Q) (p : Post G H G2 H2) : ThenT K G2 H2 q Q := fun v st3 G3 H3 p2 => t v st3 G3 H3 (p.trans p2)
theorem ThenX.on {K : PySem.W.Frag} {W : WX} {G G2 : Gh} {H H2 : Hp} {σ : St} {er : QX} (t : ThenX K W G H σ er) (p : Post G H G2 H2) : ThenX K W G2 H2 σ er := fun e c dx st3 G3 H3 p2 => t e c dx st3 G3 H3 (p.trans p2)
theorem ThenX.none {K : PySem.W.Frag} {W : WX} {G : Gh} {H : Hp} {σ : St} : ThenX K W G H σ (fun _ _ => False) := fun _ _ _ _ _ _ _ _ _ z => z.elim
/-! ### what is walked: while what it reads stands, turn i yields the i-th item (new tuples may come) -/
/-- cells that must stand as they are -/
abbrev Gd := List (Nat × C)
def gdOk (gd : Gd) (st : S) : Prop := ∀ x ∈ gd, st[x.1]? = some x.2
/-- what is known of a walk's begin: the frozen, and locks of what is frozen -/
structure Wk (G0 : Gh) (H0 : Hp) (G : Gh) (H : Hp) : Prop where
  le : G0.le G
  z : ∀ x o u, G0.g x ≠ none → H0 x = some (.frz o u) → H x = some (.frz o u)
theorem Wk.refl {G : Gh} {H : Hp} : Wk G H G H := ⟨Gh.le.refl _, fun _ _ _ _ h => h⟩
theorem Post.wk {G G2 : Gh} {H H2 : Hp} (p : Post G H G2 H2) : Wk G H G2 H2 := ⟨p.le, p.z⟩
theorem Wk.on {G G2 G3 : Gh} {H H2 H3 : Hp} (w : Wk G H G2 H2) (p : Post G2 H2 G3 H3) : Wk G H G3 H3 := ⟨w.le.trans p.le, fun x o u k e => p.z x o u (le_some w.le k) (w.z x o u k e)⟩
theorem Wk.trans {G G2 G3 : Gh} {H H2 H3 : Hp} (w : Wk G H G2 H2) (p : Wk G2 H2 G3 H3) : Wk G H G3 H3 := ⟨w.le.trans p.le, fun x o u k e => p.z x o u (le_some w.le k) (w.z x o u k e)⟩
theorem Wk.put {G G2 : Gh} {H H2 : Hp} {P : Addr} {o o2 : HO} (w : Wk G H G2 H2) (e : H2 P = some o) (n : ∀ a b, o ≠ .frz a b) : Wk G H G2 (upd H2 P o2) := ⟨w.le, fun x a u k h => by
  have q := w.z x a u k h
  rw [upd_ne (fun z => by rw [z, e] at q; exact n _ _ (Option.some.inj q))]; exact q⟩
structure Walks (K : PySem.W.Frag) (G0 : Gh) (H0 : Hp) (J : It) (ds : List D) (gd : Gd) : Prop where
  stop : ∀ i G st H, Wk G0 H0 G H → SS K G st H → gdOk gd st → ds.length = i → J.stop i H
  go : ∀ i G st H, Wk G0 H0 G H → SS K G st H → gdOk gd st → i < ds.length → J.go i H
  yld : ∀ i G st H d x H', Wk G0 H0 G H → SS K G st H → gdOk gd st → ds[i]? = some d → J.yld i H x H' → ∃ G', Post G H G' H' ∧ SS K G' st H' ∧ Rep K G' d x
abbrev AI := List A → S → (List D → Gd → S → Prop) → QX → Prop
def RefI (K : PySem.W.Frag) (W : WX) (wi : TI) (ai : AI) : Prop := ∀ G env st σ H (R : It → Hp → Prop) (q : List D → Gd → S → Prop) (er : QX), SS K G st H → Sl K G env σ → ai env st q er →
  (∀ J ds gd st2 G2 H2, Post G H G2 H2 → SS K G2 st2 H2 → Walks K G2 H2 J ds gd → q ds gd st2 → R J H2) → ThenX K W G H σ er → wi σ H R
/-! ### results, statements -/
/-- a dict with tuples as keys -/
def DctAt (K : PySem.W.Frag) (G2 : Gh) (H2 : Hp) (p : Addr) (l : List (D × D)) : Prop := ∃ kvs, H2 p = some (.dT kvs) ∧ RepT K G2 l kvs
def ResOk (K : PySem.W.Frag) (H : Hp) (G2 : Gh) (H2 : Hp) : Rs → V → Prop
  | .d x, v => Rep K G2 x v
  | .own l, v => ∃ p vs, v = .ref p ∧ H2 p = some (.lst vs) ∧ G2.g p = none ∧ p ∉ G2.as ∧ H p = none ∧ Reps K G2 l vs
  | .ownD l, v => ∃ p, v = .ref p ∧ DctAt K G2 H2 p l ∧ G2.g p = none ∧ p ∉ G2.as ∧ H p = none
theorem ResOk.on {K : PySem.W.Frag} {G G2 G3 : Gh} {H H2 H3 : Hp} {r : Rs} {v : V} (p : Post G H G2 H2) (h : ResOk K H2 G3 H3 r v) : ResOk K H G3 H3 r v := by
  cases r with
  | d x => exact h
  | own l =>
    obtain ⟨a, vs, e1, e2, e3, e4, e5, e6⟩ := h
    refine ⟨a, vs, e1, e2, e3, e4, ?_, e6⟩
    cases hh : H a with
    | none => rfl
    | some o => exact absurd e5 (p.m a (by rw [hh]; exact fun z => nomatch z))
  | ownD l =>
    obtain ⟨a, e1, e2, e3, e4, e5⟩ := h
    refine ⟨a, e1, e2, e3, e4, ?_⟩
    cases hh : H a with
    | none => rfl
    | some o => exact absurd e5 (p.m a (by rw [hh]; exact fun z => nomatch z))
structure ThenS (K : PySem.W.Frag) (W : WX) (G : Gh) (H : Hp) (k : AK) (D : Ends) : Prop where
  nx : ∀ env' σ' st2 G2 H2, Post G H G2 H2 → SS K G2 st2 H2 → Sl K G2 env' σ' → k.nx env' st2 → D.nx σ' H2
  rt : ∀ v r st2 G2 H2, Post G H G2 H2 → SS K G2 st2 H2 → ResOk K H G2 H2 r v → k.rt r st2 → D.rt v H2
  bk : ∀ env' σ' st2 G2 H2, Post G H G2 H2 → SS K G2 st2 H2 → Sl K G2 env' σ' → k.bk env' st2 → D.bk σ' H2
  ct : ∀ env' σ' st2 G2 H2, Post G H G2 H2 → SS K G2 st2 H2 → Sl K G2 env' σ' → k.ct env' st2 → D.ct σ' H2
  er : ∀ e c dx env' σ' st2 G2 H2, Post G H G2 H2 → SS K G2 st2 H2 → Sl K G2 env' σ' → ErAt K G2 e c dx → k.er e env' st2 → W c dx σ' H2
def RefS (K : PySem.W.Frag) (W : WX) (ts : TS) (as : AS) : Prop := ∀ G env st σ H (D : Ends) (k : AK), SS K G st H → Sl K G env σ → as env st k → ThenS K W G H k D → ts D σ H
theorem ThenS.on {K : PySem.W.Frag} {W : WX} {G G2 : Gh} {H H2 : Hp} {k : AK} {D : Ends} (t : ThenS K W G H k D) (p : Post G H G2 H2) : ThenS K W G2 H2 k D :=
  ⟨fun env' σ' st3 G3 H3 p2 => t.nx env' σ' st3 G3 H3 (p.trans p2), fun v d st3 G3 H3 p2 s2 r2 => t.rt v d st3 G3 H3 (p.trans p2) s2 (r2.on p), fun env' σ' st3 G3 H3 p2 => t.bk env' σ' st3 G3 H3 (p.trans p2), fun env' σ' st3 G3 H3 p2 => t.ct env' σ' st3 G3 H3 (p.trans p2), fun e c dx env' σ' st3 G3 H3 p2 => t.er e c dx env' σ' st3 G3 H3 (p.trans p2)⟩
/-- errors of an expression within a statement -/
theorem ThenS.x {K : PySem.W.Frag} {W : WX} {G : Gh} {H : Hp} {k : AK} {D : Ends} {env : List A} {σ : St} (t : ThenS K W G H k D) (s : Sl K G env σ) : ThenX K W G H σ (fun e st => k.er e env st) :=
  fun e c dx st2 G2 H2 p s2 ea h => t.er e c dx env σ st2 G2 H2 p s2 (s.mono p.le) ea h
/-! ### judgements -/
def AX (X : Cx) (W : WX) (e : Expr) (ae : AE) : Prop := ∃ te, PE X e te ∧ RefE X.K W te ae
def AXT (X : Cx) (W : WX) (e : Expr) (a : AT) : Prop := ∃ tt, PT X e tt ∧ RefT X.K W tt a
def AXW (X : Cx) (W : WX) (e : Expr) (a : AT) : Prop := ∃ tt, PW X e tt ∧ RefT X.K W tt a
def AXI (X : Cx) (W : WX) (tg e : Expr) (a : AI) : Prop := ∃ wi, PI X tg e wi ∧ RefI X.K W wi a
def AXS (X : Cx) (W : WX) (st : Stmt) (a : AS) : Prop := ∃ ts, PS X st ts ∧ RefS X.K W ts a
def AXB (X : Cx) (W : WX) (st : List Stmt) (a : AS) : Prop := ∃ ts, PSs X st ts ∧ RefS X.K W ts a
end AM
set_option Elab.async false
set_option linter.all false
set_option maxRecDepth 100000
set_option maxHeartbeats 4000000
namespace AM
open PySem L2 Evl
/-! ### the store changes -/
theorem mem_ne {l : List Addr} {p q : Addr} (h : p ∉ l) (m : q ∈ l) : q ≠ p := fun z => h (z ▸ m)
theorem live_ne {H : Hp} {p q : Addr} (h : H p = none) (k : H q ≠ none) : q ≠ p := fun z => k (z ▸ h)
theorem mem_ne' {l : List Addr} {p q : Addr} (m : p ∈ l) (h : q ∉ l) : q ≠ p := fun z => h (z ▸ m)
section
variable {K : PySem.W.Frag} {G G2 : Gh} {H H2 : Hp} {st : S}
theorem le_new {p : Addr} {o : HO} (gp : G.g p = none) : G.le ⟨upd G.g p o, G.as⟩ := ⟨Ex.new gp, List.prefix_refl _⟩
theorem ne_some {x : Addr} {o : HO} (e : H x = some o) : H x ≠ none := by rw [e]; exact fun z => nomatch z
/-- what is new and frozen -/
theorem SS.new (s : SS K G st H) {p : Addr} {o : HO} (hp : H p = none) : SS K ⟨upd G.g p o, G.as⟩ st (upd H p o) ∧ Post G H ⟨upd G.g p o, G.as⟩ (upd H p o) := by
  have gp : G.g p = none := s.ex.fresh hp
  have le : G.le ⟨upd G.g p o, G.as⟩ := le_new gp
  refine ⟨⟨fun a u e => ?_, s.len, s.nd, fun n c q e1 e2 => (s.cell n c q e1 e2).mono le (fun u e => ?_) (fun _ e => ?_)⟩, le, fun x u e _ => .inl (Ex.new hp x u e), fun x e k _ => ?_, fun x z => .inl z, fun x k => ?_, fun x o u _ e => Ex.new hp x _ e⟩
  · have e : (upd G.g p o) a = some u := e
    by_cases h : a = p
    · subst h; rw [upd_same] at e; exact .inl (by rw [upd_same]; exact e)
    · rw [upd_ne h] at e; exact (s.ex a u e).put h
  · rw [upd_ne (mem_ne (s.fresh hp) (List.mem_of_getElem? e2))]; exact e
  · show (upd G.g p o) q = none
    rw [upd_ne (mem_ne (s.fresh hp) (List.mem_of_getElem? e2))]; exact e
  · show (upd G.g p o) x = none
    rw [upd_ne (live_ne hp k.1)]; exact e
  · by_cases h : x = p
    · subst h; exact absurd hp k
    · rw [upd_ne h]; exact k
/-- what is new and nobody's yet -/
theorem SS.room (s : SS K G st H) {p : Addr} {o : HO} (hp : H p = none) : SS K G st (upd H p o) ∧ Post G H G (upd H p o) ∧ p ∉ G.as ∧ G.g p = none := by
  have gp : G.g p = none := s.ex.fresh hp
  refine ⟨⟨fun a u e => (s.ex a u e).new hp, s.len, s.nd, fun n c q e1 e2 => (s.cell n c q e1 e2).mono (Gh.le.refl G) (fun u e => Ex.new hp q u e) (fun _ e => e)⟩, ⟨Gh.le.refl G, fun x u e _ => .inl (Ex.new hp x u e), fun x e _ _ => e, fun x z => .inl z, fun x k => ?_, fun x o u _ e => Ex.new hp x _ e⟩, s.fresh hp, gp⟩
  by_cases h : x = p
  · subst h; exact absurd hp k
  · rw [upd_ne h]; exact k
/-- what is nobody's is frozen -/
theorem SS.freeze (s : SS K G st H) {p : Addr} {o : HO} (hp : H p = some o) (gp : G.g p = none) (np : p ∉ G.as) : SS K ⟨upd G.g p o, G.as⟩ st H ∧ G.le ⟨upd G.g p o, G.as⟩ := by
  have le : G.le ⟨upd G.g p o, G.as⟩ := le_new gp
  refine ⟨⟨fun a u e => ?_, s.len, s.nd, fun n c q e1 e2 => (s.cell n c q e1 e2).mono le (fun u e => e) (fun _ e => ?_)⟩, le⟩
  · have e : (upd G.g p o) a = some u := e
    by_cases h : a = p
    · subst h; rw [upd_same] at e; exact .inl (by rw [hp]; exact e)
    · rw [upd_ne h] at e; exact s.ex a u e
  · show (upd G.g p o) q = none
    rw [upd_ne (mem_ne np (List.mem_of_getElem? e2))]; exact e
/-- .. of something that came on the way -/
theorem Post.freeze {G0 : Gh} {H0 : Hp} (po : Post G0 H0 G H) {p : Addr} {o : HO} (gp : G.g p = none) (hn : H0 p = none) : Post G0 H0 ⟨upd G.g p o, G.as⟩ H :=
  ⟨po.le.trans (le_new gp), po.h, fun x e k l => by
    show (upd G.g p o) x = none
    rw [upd_ne (live_ne hn k.1)]; exact po.n x e k l, po.o, po.m, po.z⟩
/-- what is nobody's becomes a cell -/
theorem le_cell {p : Addr} : G.le ⟨G.g, G.as ++ [p]⟩ := ⟨Ex.refl _, List.prefix_append _ _⟩
theorem SS.cellOf (s : SS K G st H) {p : Addr} {c : C} (np : p ∉ G.as) (hc : CellOk K ⟨G.g, G.as ++ [p]⟩ H c p) : SS K ⟨G.g, G.as ++ [p]⟩ (st ++ [c]) H := by
  refine ⟨s.ex, by rw [List.length_append, List.length_append, s.len]; rfl, ?_, fun n c' q e1 e2 => ?_⟩
  · show (G.as ++ [p]).Nodup
    rw [List.nodup_append]
    exact ⟨s.nd, by simp, fun a ha b hb => by
      have : b = p := by simpa using hb
      subst this
      exact fun z => np (z ▸ ha)⟩
  · have e2 : (G.as ++ [p])[n]? = some q := e2
    by_cases hn : n < st.length
    · rw [List.getElem?_append_left hn] at e1
      rw [List.getElem?_append_left (by rw [s.len]; exact hn)] at e2
      exact (s.cell n c' q e1 e2).mono le_cell (fun u e => e) (fun _ e => e)
    · have hl : n = st.length := by
        have := (List.getElem?_eq_some_iff.mp e1).1
        rw [List.length_append] at this
        simp at this
        omega
      subst hl
      rw [List.getElem?_append_right (Nat.le_refl _), Nat.sub_self] at e1
      rw [← s.len, List.getElem?_append_right (Nat.le_refl _), Nat.sub_self] at e2
      cases e1; cases e2
      exact hc
theorem Post.cellOf {G0 : Gh} {H0 : Hp} (po : Post G0 H0 G H) {p : Addr} (hn : H0 p = none) : Post G0 H0 ⟨G.g, G.as ++ [p]⟩ H :=
  ⟨po.le.trans le_cell, po.h, po.n, fun x z => by
    rcases List.mem_append.mp z with z | z
    · exact po.o x z
    · have : x = p := by simpa using z
      subst this
      exact .inr hn, po.m, po.z⟩
/-- a cell changes -/
theorem SS.setCell (s : SS K G st H) {n : Nat} {p : Addr} {c' : C} {o : HO} (hp : G.as[n]? = some p) (gp : G.g p = none) (hc : CellOk K G (upd H p o) c' p) : SS K G (st.set n c') (upd H p o) ∧ Post G H G (upd H p o) := by
  have hl : H p ≠ none := s.live (List.mem_of_getElem? hp)
  refine ⟨⟨fun a u e => ?_, by rw [List.length_set]; exact s.len, s.nd, fun m c q e1 e2 => ?_⟩, Gh.le.refl G, fun x u e k => ?_, fun x e _ _ => e, fun x z => .inl z, fun x k => ?_, fun x o u k e => by rw [upd_ne (fun z : x = p => by subst z; exact k gp)]; exact e⟩
  · exact (s.ex a u e).put (fun z => by rw [z, gp] at e; cases e)
  · rcases get_set e1 with ⟨rfl, rfl, _⟩ | ⟨hm, e1⟩
    · rw [hp] at e2; cases e2; exact hc
    · refine (s.cell m c q e1 e2).mono (Gh.le.refl G) (fun u e => ?_) (fun _ e => e)
      rw [upd_ne]
      · exact e
      · intro z
        subst z
        exact hm ((List.getElem?_inj (List.getElem?_eq_some_iff.mp e2).1 s.nd).mp (e2.trans hp.symm))
  · exact .inl (by rw [upd_ne (mem_ne' (List.mem_of_getElem? hp) k)]; exact e)
  · by_cases h : x = p
    · subst h; rw [upd_same]; exact fun z => nomatch z
    · rw [upd_ne h]; exact k
/-- a cell is frozen -/
theorem SS.freezeCell (s : SS K G st H) {n : Nat} {p : Addr} {o : HO} (hp : G.as[n]? = some p) (gp : G.g p = none) (hh : H p = some o) : SS K ⟨upd G.g p o, G.as⟩ (st.set n .dead) H ∧ Post G H ⟨upd G.g p o, G.as⟩ H := by
  have le : G.le ⟨upd G.g p o, G.as⟩ := le_new gp
  refine ⟨⟨fun a u e => ?_, by rw [List.length_set]; exact s.len, s.nd, fun m c q e1 e2 => ?_⟩, le, fun x u e _ => .inl e, fun x e k l => ?_, fun x z => .inl z, fun x k => k, fun _ _ _ _ e => e⟩
  · have e : (upd G.g p o) a = some u := e
    by_cases h : a = p
    · subst h; rw [upd_same] at e; exact .inl (by rw [hh]; exact e)
    · rw [upd_ne h] at e; exact s.ex a u e
  · rcases get_set e1 with ⟨rfl, rfl, _⟩ | ⟨hm, e1⟩
    · have e2 : G.as[m]? = some q := e2
      rw [hp] at e2; cases e2; exact ne_some hh
    · refine (s.cell m c q e1 e2).mono le (fun u e => e) (fun _ e => ?_)
      show (upd G.g p o) q = none
      rw [upd_ne]
      · exact e
      · intro z
        subst z
        have e2 : G.as[m]? = some q := e2
        exact hm ((List.getElem?_inj (List.getElem?_eq_some_iff.mp e2).1 s.nd).mp (e2.trans hp.symm))
  · show (upd G.g p o) x = none
    rw [upd_ne (mem_ne' (List.mem_of_getElem? hp) l)]; exact e
/-- cells behind k are left away -/
theorem SS.cut (s : SS K G st H) {as : List Addr} (e : as <+: G.as) (l : ltS as.length (st.take as.length)) : SS K ⟨G.g, as⟩ (st.take as.length) H := by
  have hle : as.length ≤ st.length := by rw [← s.len]; exact e.length_le
  refine ⟨s.ex, by rw [List.length_take]; exact (Nat.min_eq_left hle).symm, s.nd.sublist e.sublist, fun n c p e1 e2 => ?_⟩
  have e2 : as[n]? = some p := e2
  have hn := (List.getElem?_eq_some_iff.mp e2).1
  have lc : C.lt as.length c := l c (List.mem_of_getElem? e1)
  rw [List.getElem?_take_of_lt hn] at e1
  have h := s.cell n c p e1 (pre_get e e2)
  cases c with
  | lst l => obtain ⟨vs, gp, e, r⟩ := h; exact ⟨vs, gp, e, r.cut ‹_› lc⟩
  | dic l =>
    refine ⟨h.1, ?_⟩
    obtain ⟨kvs, q, r⟩ := h.2
    exact ⟨kvs, q, r.cut ‹_› lc⟩
  | obj c fs => obtain ⟨dx, vs, gp, e, r⟩ := h; exact ⟨dx, vs, gp, e, r.cut ‹_› lc⟩
  | pool n ns => exact h
  | dead => exact h
  | dicL t l => exact ⟨h.1, h.2.1, h.2.2.cut ‹_› lc⟩
theorem Post.cut {G0 : Gh} {H0 : Hp} (po : Post G0 H0 G H) : Post G0 H0 ⟨G.g, G0.as⟩ H := ⟨⟨po.le.g, List.prefix_refl _⟩, po.h, po.n, fun _ z => .inl z, po.m, po.z⟩
end
/-! ### a value as it is seen now: a cell's content -/
def vw (st : S) : D → D
  | .ref n => match st[n]? with
    | some (.lst l) => .lst l
    | some (.dic l) => .dic l
    | some (.dicL _ l) => .dic l
    | some (.obj c fs) => .obj c fs
    | _ => .ref n
  | d => d
inductive Rv (K : PySem.W.Frag) (G : Gh) (H : Hp) : D → V → Prop
  | non : Rv K G H .non .non
  | bl (b : Bool) : Rv K G H (.bl b) (.bl b)
  | int (i : Int) : Rv K G H (.int i) (.int i)
  | str (x : Str) : Rv K G H (.str x) (.str x)
  | lst {p : Addr} {vs : List V} {ds : List D} : H p = some (.lst vs) → Reps K G ds vs → Rv K G H (.lst ds) (.ref p)
  | tup {p : Addr} {vs : List V} {ds : List D} : H p = some (.tup vs) → Reps K G ds vs → Rep K G (.tup ds) (.ref p) → Rv K G H (.tup ds) (.ref p)
  | dicT {p : Addr} {kvs : List (List Key × V)} {ds : List (D × D)} : Rd H p (.dT kvs) → RepT K G ds kvs → Rv K G H (.dic ds) (.ref p)
  | obj {c : Str} {p dx : Addr} {fs : List (Str × D)} {vs : List (Str × V)} : H p = some (.ins (He.ga K c) dx vs) → RepF K G fs vs → Rv K G H (.obj c fs) (.ref p)
  | fn (x : Str) : Rv K G H (.fn x) (.ref (He.ga K x))
  | ty (n : String) : Rv K G H (.ty n) (.ty n)
  | ref {n : Nat} {v : V} : Rv K G H (.ref n) v
  | scr {ns : List Int} {p : Addr} : SqL K H p (ns.map V.int) → ns.length ≤ 63 → Rv K G H (.scr ns) (.ref p)
inductive Rvs (K : PySem.W.Frag) (G : Gh) (H : Hp) : List D → List V → Prop
  | nil : Rvs K G H [] []
  | cons {d : D} {v : V} {ds : List D} {vs : List V} : Rv K G H d v → Rvs K G H ds vs → Rvs K G H (d :: ds) (v :: vs)
theorem Rep.vw {K : PySem.W.Frag} {G : Gh} {H : Hp} {st : S} {d : D} {v : V} (r : Rep K G d v) (s : SS K G st H) : Rv K G H (vw st d) v := by
  cases r with
  | non => exact .non
  | bl b => exact .bl b
  | int i => exact .int i
  | str x => exact .str x
  | lst h r => exact .lst (s.ex.lst h) r
  | tup h r => exact .tup (s.ex.tup h) r (.tup h r)
  | dicT h r => exact .dicT (s.ex.dT h) r
  | obj h r => exact .obj (s.ex.ins h) r
  | fn x => exact .fn x
  | ty x => exact .ty x
  | scr h l => exact .scr (s.ex.sq h) l
  | ref e =>
    rename_i n p
    cases hc : st[n]? with
    | none =>
      have q : AM.vw st (.ref n) = .ref n := by unfold AM.vw; simp only [hc]
      rw [q]
      exact .ref
    | some c =>
      have h := s.cell n c p hc e
      unfold AM.vw
      simp only [hc]
      cases c with
      | lst l => obtain ⟨vs, _, h1, r⟩ := h; exact .lst h1 r
      | dic l =>
        obtain ⟨kvs, h1, r⟩ := h.2
        exact .dicT (.inl h1) r
      | dicL t l => exact .dicT (.inr ⟨t.o, h.2.1⟩) h.2.2
      | obj c fs => obtain ⟨dx, vs, _, h1, r⟩ := h; exact .obj h1 r
      | pool n ns => exact .ref
      | dead => exact .ref
theorem Reps.vw {K : PySem.W.Frag} {G : Gh} {H : Hp} {st : S} (s : SS K G st H) : ∀ {ds : List D} {vs : List V}, Reps K G ds vs → Rvs K G H (ds.map (vw st)) vs
  | _, _, .nil => .nil
  | _, _, .cons h r => .cons (h.vw s) (Reps.vw s r)
/-! ### operations on values as they are seen -/
def Then1 (K : PySem.W.Frag) (G : Gh) (st : S) (H : Hp) (q : D → Prop) (Q : VK) : Prop := ∀ v d G2 H2, Post G H G2 H2 → SS K G2 st H2 → Rep K G2 d v → q d → Q v H2
abbrev O1 := D → (D → Prop) → Prop
abbrev O2 := D → D → (D → Prop) → Prop
abbrev ON := List D → (D → Prop) → Prop
def RefO (K : PySem.W.Frag) (r : R2) (f : O2) : Prop := ∀ G st H x y dx dy (Q : VK) (q : D → Prop), SS K G st H → Rv K G H dx x → Rv K G H dy y → f dx dy q → Then1 K G st H q Q → r x y H Q
def RefU (K : PySem.W.Frag) (r : V → Hp → VK → Prop) (f : O1) : Prop := ∀ G st H x dx (Q : VK) (q : D → Prop), SS K G st H → Rv K G H dx x → f dx q → Then1 K G st H q Q → r x H Q
def RefN (K : PySem.W.Frag) (r : List V → Hp → VK → Prop) (f : ON) : Prop := ∀ G st H xs ds (Q : VK) (q : D → Prop), SS K G st H → Rvs K G H ds xs → f ds q → Then1 K G st H q Q → r xs H Q
section
variable {K : PySem.W.Frag} {G : Gh} {H : Hp} {st : S} {q : D → Prop} {Q : VK}
theorem Then1.here {v : V} {d : D} (t : Then1 K G st H q Q) (s : SS K G st H) (r : Rep K G d v) (h : q d) : Q v H := t v d G H Post.refl s r h
theorem Then1.newL {vs : List V} {ds : List D} (t : Then1 K G st H q Q) (s : SS K G st H) (r : Reps K G ds vs) (h : q (.lst ds)) {p : Addr} (hp : H p = none) : Q (.ref p) (upd H p (.lst vs)) := by
  obtain ⟨s2, p2⟩ := s.new (o := .lst vs) hp
  exact t (.ref p) (.lst ds) _ _ p2 s2 (.lst upd_same (r.mono p2.le)) h
theorem Then1.newT {vs : List V} {ds : List D} (t : Then1 K G st H q Q) (s : SS K G st H) (r : Reps K G ds vs) (h : q (.tup ds)) {p : Addr} (hp : H p = none) : Q (.ref p) (upd H p (.tup vs)) := by
  obtain ⟨s2, p2⟩ := s.new (o := .tup vs) hp
  exact t (.ref p) (.tup ds) _ _ p2 s2 (.tup upd_same (r.mono p2.le)) h
end
/-! ### expressions -/
def aC (d : D) : AE := fun _ st q _ => q d st
def aVar (i : Nat) : AE := fun env st q _ => match env[i]? with
  | some (.d x) => q x st
  | _ => False
def aOp (f : O2) (a b : AE) : AE := fun env st q er => a env st (fun x s1 => b env s1 (fun y s2 => f (vw s2 x) (vw s2 y) fun z => q z s2) er) er
def aUn (f : O1) (a : AE) : AE := fun env st q er => a env st (fun x s1 => f (vw s1 x) fun z => q z s1) er
def aIf (t : AT) (a b : AE) : AE := fun env st q er => t env st (fun c s1 => if c = true then a env s1 q er else b env s1 q er) er
def aTest (a : AE) : AT := fun env st q er => a env st (fun x s1 => ∃ b, x = .bl b ∧ q b s1) er
def truthD : D → Option Bool
  | .non => some false
  | .bl b => some b
  | .int i => some (i != 0)
  | .str s => if s.length ≤ 100000 then some ((s.length : Int) != 0) else none
  | .lst l => some (!l.isEmpty)
  | .tup l => some (!l.isEmpty)
  | _ => none
def aTruth (a : AE) : AT := fun env st q er => a env st (fun x s1 => ∃ b, truthD (vw s1 x) = some b ∧ q b s1) er
def aAnd (t u : AT) : AT := fun env st q er => t env st (fun c s1 => if c = true then u env s1 q er else q false s1) er
def aOr (t u : AT) : AT := fun env st q er => t env st (fun c s1 => if c = true then q true s1 else u env s1 q er) er
def aNot (t : AT) : AT := fun env st q er => t env st (fun c s1 => q (!c) s1) er
def aAndV (a b : AE) : AE := fun env st q er => a env st (fun x s1 => ∃ c, x = .bl c ∧ if c = true then b env s1 q er else q (.bl false) s1) er
def aOrV (a b : AE) : AE := fun env st q er => a env st (fun x s1 => ∃ c, x = .bl c ∧ if c = true then q (.bl true) s1 else b env s1 q er) er
def aNotV (a : AE) : AE := fun env st q er => a env st (fun x s1 => ∃ c, x = .bl c ∧ q (.bl (!c)) s1) er
/-- a op b op' c -/
def aChain (f f' : O2) (a b c : AE) : AE := fun env st q er => a env st (fun x s1 => b env s1 (fun y s2 => f (vw s2 x) (vw s2 y) fun z => ∃ k, z = .bl k ∧ if k = true then c env s2 (fun w s3 => f' (vw s3 y) (vw s3 w) fun z => q z s3) er else q (.bl false) s2) er) er
abbrev AEs := List A → S → (List D → S → Prop) → QX → Prop
def aNil : AEs := fun _ st q _ => q [] st
def aCons (a : AE) (r : AEs) : AEs := fun env st q er => a env st (fun x s1 => r env s1 (fun xs s2 => q (x :: xs) s2) er) er
def aLst (as : AEs) : AE := fun env st q er => as env st (fun xs s1 => xs.length ≤ 100000 ∧ q (.lst xs) s1) er
def aTup (as : AEs) : AE := fun env st q er => as env st (fun xs s1 => xs.length ≤ 100000 ∧ q (.tup xs) s1) er
def aB (f : ON) (as : AEs) : AE := fun env st q er => as env st (fun xs s1 => f (xs.map (vw s1)) fun z => q z s1) er
def ThenA (K : PySem.W.Frag) (G : Gh) (H : Hp) (q : List D → S → Prop) (Q : List V → Hp → Prop) : Prop := ∀ vs ds st2 G2 H2, Post G H G2 H2 → SS K G2 st2 H2 → Reps K G2 ds vs → q ds st2 → Q vs H2
def RefA (K : PySem.W.Frag) (W : WX) (ta : TA) (aa : AEs) : Prop := ∀ G env st σ H (Q : List V → Hp → Prop) (q : List D → S → Prop) (er : QX), SS K G st H → Sl K G env σ → aa env st q er → ThenA K G H q Q → ThenX K W G H σ er → ta σ H Q
def AXA (X : Cx) (W : WX) (es : List Expr) (aa : AEs) : Prop := ∃ ta, PA X es ta ∧ RefA X.K W ta aa
section
variable {K : PySem.W.Frag} {W : WX} {ta tb tc te : TE} {aa ab ac : AE} {t u : TT} {xt xu : AT}
theorem refE_c {d : D} {v : V} (h : ∀ G, Rep K G d v) : RefE K W (tC v) (aC d) := fun G env st σ H Q q er s l a tE _ => tE v d st G H Post.refl s (h G) a
theorem refE_var (i : Nat) : RefE K W (tVar i) (aVar i) := fun G env st σ H Q q er s l a tE _ => by
  unfold aVar at a
  split at a
  · rename_i x e
    obtain ⟨u, eu, r⟩ := l.slot i _ e
    exact ⟨u, eu, tE u x st G H Post.refl s r a⟩
  · exact a.elim
theorem refE_op {r : R2} {f : O2} (ro : RefO K r f) (ha : RefE K W ta aa) (hb : RefE K W tb ab) : RefE K W (tOp r ta tb) (aOp f aa ab) := fun G env st σ H Q q er s l h tE tX => by
  refine ha G env st σ H _ _ er s l h (fun v d st1 G1 H1 p1 s1 r1 h1 => ?_) tX
  refine hb G1 env st1 σ H1 _ _ er s1 (l.mono p1.le) h1 (fun u d2 st2 G2 H2 p2 s2 r2 h2 => ?_) (tX.on p1)
  exact ro G2 st2 H2 v u _ _ Q _ s2 ((r1.mono p2.le).vw s2) (r2.vw s2) h2 fun w d3 G3 H3 p3 s3 r3 h3 => tE w d3 st2 G3 H3 ((p1.trans p2).trans p3) s3 r3 h3
theorem refE_chain {r r' : R2} {f f' : O2} (ro : RefO K r f) (ro' : RefO K r' f') (ha : RefE K W ta aa) (hb : RefE K W tb ab) (hc : RefE K W tc ac) : RefE K W (tChain r r' ta tb tc) (aChain f f' aa ab ac) := fun G env st σ H Q q er s l h tE tX => by
  refine ha G env st σ H _ _ er s l h (fun v d st1 G1 H1 p1 s1 r1 h1 => ?_) tX
  refine hb G1 env st1 σ H1 _ _ er s1 (l.mono p1.le) h1 (fun u d2 st2 G2 H2 p2 s2 r2 h2 => ?_) (tX.on p1)
  refine ro G2 st2 H2 v u _ _ _ _ s2 ((r1.mono p2.le).vw s2) (r2.vw s2) h2 fun w d3 G3 H3 p3 s3 r3 h3 => ?_
  obtain ⟨k, e, h3⟩ := h3
  subst e
  cases r3
  refine ⟨k, rfl, ?_⟩
  have p13 := (p1.trans p2).trans p3
  cases k with
  | false => exact tE _ _ st2 G3 H3 p13 s3 (.bl false) h3
  | true =>
    refine hc G3 env st2 σ H3 _ _ er s3 (l.mono p13.le) h3 (fun w d4 st4 G4 H4 p4 s4 r4 h4 => ?_) (tX.on p13)
    exact ro' G4 st4 H4 u w _ _ Q _ s4 (((r2.mono p3.le).mono p4.le).vw s4) (r4.vw s4) h4 fun w d5 G5 H5 p5 s5 r5 h5 => tE w d5 st4 G5 H5 ((p13.trans p4).trans p5) s5 r5 h5
theorem refE_un {r : V → Hp → VK → Prop} {f : O1} (ro : RefU K r f) (ha : RefE K W ta aa) : RefE K W (tUn r ta) (aUn f aa) := fun G env st σ H Q q er s l h tE tX => by
  refine ha G env st σ H _ _ er s l h (fun v d st1 G1 H1 p1 s1 r1 h1 => ?_) tX
  exact ro G1 st1 H1 v _ Q _ s1 (r1.vw s1) h1 fun w d3 G3 H3 p3 s3 r3 h3 => tE w d3 st1 G3 H3 (p1.trans p3) s3 r3 h3
theorem refT_test (ha : RefE K W ta aa) : RefT K W (tTest ta) (aTest aa) := fun G env st σ H Q q er s l h tT tX => by
  refine ha G env st σ H _ _ er s l h (fun v d st1 G1 H1 p1 s1 r1 ⟨b, e, h1⟩ => ?_) tX
  subst e
  cases r1
  exact ⟨b, rfl, tT b st1 G1 H1 p1 s1 h1⟩
theorem truth_ok {G : Gh} {H : Hp} {d : D} {v : V} {b : Bool} (r : Rv K G H d v) (h : truthD d = some b) : TruV K v H b := by
  cases r with
  | non => cases h; rfl
  | bl x => cases h; rfl
  | int i => cases h; rfl
  | str x =>
    have h' : (if x.length ≤ 100000 then some ((x.length : Int) != 0) else none) = some b := h
    by_cases hz : x.length ≤ 100000
    · rw [if_pos hz] at h'
      cases h'
      exact ⟨sz_of hz, rfl⟩
    · rw [if_neg hz] at h'
      cases h'
  | lst hs rs =>
    cases h
    refine .inl ⟨_, SqL.of hs, ?_⟩
    cases rs <;> rfl
  | tup hs rs _ =>
    cases h
    refine .inr (.inl ⟨_, SqT.of hs, ?_⟩)
    cases rs <;> rfl
  | _ => cases h
theorem refT_truth (ha : RefE K W ta aa) : RefT K W (fun σ H Q => ta σ H fun x H' => ∃ k, TruV K x H' k ∧ Q k H') (aTruth aa) := fun G env st σ H Q q er s l h tT tX => by
  refine ha G env st σ H _ _ er s l h (fun v d st1 G1 H1 p1 s1 r1 ⟨b, e, h1⟩ => ?_) tX
  exact ⟨b, truth_ok (r1.vw s1) e, tT b st1 G1 H1 p1 s1 h1⟩
theorem refT_and (ht : RefT K W t xt) (hu : RefT K W u xu) : RefT K W (tAnd t u) (aAnd xt xu) := fun G env st σ H Q q er s l h tT tX => by
  refine ht G env st σ H _ _ er s l h (fun b st1 G1 H1 p1 s1 h1 => ?_) tX
  cases b with
  | true => exact hu G1 env st1 σ H1 Q q er s1 (l.mono p1.le) h1 (tT.on p1) (tX.on p1)
  | false => exact tT false st1 G1 H1 p1 s1 h1
theorem refT_or (ht : RefT K W t xt) (hu : RefT K W u xu) : RefT K W (tOr t u) (aOr xt xu) := fun G env st σ H Q q er s l h tT tX => by
  refine ht G env st σ H _ _ er s l h (fun b st1 G1 H1 p1 s1 h1 => ?_) tX
  cases b with
  | false => exact hu G1 env st1 σ H1 Q q er s1 (l.mono p1.le) h1 (tT.on p1) (tX.on p1)
  | true => exact tT true st1 G1 H1 p1 s1 h1
theorem refT_not (ht : RefT K W t xt) : RefT K W (tNot t) (aNot xt) := fun G env st σ H Q q er s l h tT tX =>
  ht G env st σ H _ _ er s l h (fun b st1 G1 H1 p1 s1 h1 => tT (!b) st1 G1 H1 p1 s1 h1) tX
theorem refE_andV (ha : RefE K W ta aa) (hb : RefE K W tb ab) : RefE K W (tAndV ta tb) (aAndV aa ab) := fun G env st σ H Q q er s l h tE tX => by
  refine ha G env st σ H _ _ er s l h (fun v d st1 G1 H1 p1 s1 r1 ⟨b, e, h1⟩ => ?_) tX
  subst e
  cases r1
  refine ⟨b, rfl, ?_⟩
  cases b with
  | true => exact hb G1 env st1 σ H1 Q q er s1 (l.mono p1.le) h1 (tE.on p1) (tX.on p1)
  | false => exact tE _ _ st1 G1 H1 p1 s1 (.bl false) h1
theorem refE_orV (ha : RefE K W ta aa) (hb : RefE K W tb ab) : RefE K W (tOrV ta tb) (aOrV aa ab) := fun G env st σ H Q q er s l h tE tX => by
  refine ha G env st σ H _ _ er s l h (fun v d st1 G1 H1 p1 s1 r1 ⟨b, e, h1⟩ => ?_) tX
  subst e
  cases r1
  refine ⟨b, rfl, ?_⟩
  cases b with
  | false => exact hb G1 env st1 σ H1 Q q er s1 (l.mono p1.le) h1 (tE.on p1) (tX.on p1)
  | true => exact tE _ _ st1 G1 H1 p1 s1 (.bl true) h1
theorem refE_notV (ha : RefE K W ta aa) : RefE K W (tNotV ta) (aNotV aa) := fun G env st σ H Q q er s l h tE tX => by
  refine ha G env st σ H _ _ er s l h (fun v d st1 G1 H1 p1 s1 r1 ⟨b, e, h1⟩ => ?_) tX
  subst e
  cases r1
  exact ⟨b, rfl, tE _ _ st1 G1 H1 p1 s1 (.bl (!b)) h1⟩
theorem refE_if (ht : RefT K W t xt) (ha : RefE K W ta aa) (hb : RefE K W tb ab) : RefE K W (tIf t ta tb) (aIf xt aa ab) := fun G env st σ H Q q er s l h tE tX => by
  refine ht G env st σ H _ _ er s l h (fun b st1 G1 H1 p1 s1 h1 => ?_) tX
  cases b with
  | true => exact ha G1 env st1 σ H1 Q q er s1 (l.mono p1.le) h1 (tE.on p1) (tX.on p1)
  | false => exact hb G1 env st1 σ H1 Q q er s1 (l.mono p1.le) h1 (tE.on p1) (tX.on p1)
theorem refA_nil : RefA K W tNil aNil := fun G env st σ H Q q er s l h tA _ => tA [] [] st G H Post.refl s .nil h
theorem refA_cons {tr : TA} {ar : AEs} (ha : RefE K W ta aa) (hr : RefA K W tr ar) : RefA K W (tCons ta tr) (aCons aa ar) := fun G env st σ H Q q er s l h tA tX => by
  refine ha G env st σ H _ _ er s l h (fun v d st1 G1 H1 p1 s1 r1 h1 => ?_) tX
  exact hr G1 env st1 σ H1 _ _ er s1 (l.mono p1.le) h1 (fun vs ds st2 G2 H2 p2 s2 r2 h2 => tA _ _ st2 G2 H2 (p1.trans p2) s2 (.cons (r1.mono p2.le) r2) h2) (tX.on p1)
theorem refE_lst {tr : TA} {ar : AEs} (hr : RefA K W tr ar) : RefE K W (tLst tr) (aLst ar) := fun G env st σ H Q q er s l h tE tX =>
  hr G env st σ H _ _ er s l h (fun vs ds st1 G1 H1 p1 s1 r1 h1 => ⟨sz_of (by rw [← r1.length]; exact h1.1), fun p hp => by
    obtain ⟨s2, p2⟩ := s1.new (o := .lst vs) hp
    exact tE _ _ st1 _ _ (p1.trans p2) s2 (.lst upd_same (r1.mono p2.le)) h1.2⟩) tX
theorem refE_tup {tr : TA} {ar : AEs} (hr : RefA K W tr ar) : RefE K W (tTup tr) (aTup ar) := fun G env st σ H Q q er s l h tE tX =>
  hr G env st σ H _ _ er s l h (fun vs ds st1 G1 H1 p1 s1 r1 h1 => ⟨sz_of (by rw [← r1.length]; exact h1.1), fun p hp => by
    obtain ⟨s2, p2⟩ := s1.new (o := .tup vs) hp
    exact tE _ _ st1 _ _ (p1.trans p2) s2 (.tup upd_same (r1.mono p2.le)) h1.2⟩) tX
theorem refE_cb {r : List V → Hp → VK → Prop} {f : ON} {tr : TA} {ar : AEs} (rn : RefN K r f) (hr : RefA K W tr ar) : RefE K W (tCB r tr) (aB f ar) := fun G env st σ H Q q er s l h tE tX =>
  hr G env st σ H _ _ er s l h (fun vs ds st1 G1 H1 p1 s1 r1 h1 => rn G1 st1 H1 vs _ Q _ s1 (r1.vw s1) h1 fun w d3 G3 H3 p3 s3 r3 h3 => tE w d3 st1 G3 H3 (p1.trans p3) s3 r3 h3) tX
end
def CB (X : Cx) (f : Value) (b : ON) : Prop := ∃ r, CallR X f r ∧ RefN X.K r b
/-! ### the same over syntax -/
section
variable {X : Cx} {W : WX} {a b c e : Expr} {es : List Expr} {aa ab ac : AE} {xt xu : AT} {ar : AEs} {pos p : Pos} {x : Str}
theorem ax_var (i : Nat) {x : Str} {pos : Pos} (hN : X.N[i]? = some x := by rfl) (hv : Vis X.env.scope x := by first | exact Or.inl rfl | exact Or.inr (Or.inl rfl) | exact Or.inr (Or.inr rfl)) (hd : (x == ("__debug__" : Str)) = false := by decide) (hcd : (x == ("__classdict__" : Str)) = false := by decide) : AX X W (.Name x pos) (aVar i) :=
  ⟨_, pe_var hN hv hd hcd, refE_var i⟩
theorem ax_int {i : Int} {j : Nat} : AX X W (.Constant (.int i) j pos) (aC (.int i)) := ⟨_, pe_int, refE_c fun _ => .int i⟩
theorem ax_bl {i : Bool} {j : Nat} : AX X W (.Constant (.bool i) j pos) (aC (.bl i)) := ⟨_, pe_bl, refE_c fun _ => .bl i⟩
theorem ax_non {j : Nat} : AX X W (.Constant .none j pos) (aC .non) := ⟨_, pe_non, refE_c fun _ => .non⟩
theorem ax_str {i : Str} {j : Nat} : AX X W (.Constant (.str i) j pos) (aC (.str i)) := ⟨_, pe_str, refE_c fun _ => .str i⟩
theorem ax_op {op : Operator} {r : R2} {f : O2} (h : OpR X (binaryOp op) r ∧ RefO X.K r f) (ha : AX X W a aa) (hb : AX X W b ab) : AX X W (.BinOp a op b pos) (aOp f aa ab) := by
  obtain ⟨ta, pa, ra⟩ := ha
  obtain ⟨tb, pb, rb⟩ := hb
  exact ⟨_, pe_op h.1 pa pb, refE_op h.2 ra rb⟩
theorem ax_un {op : UnaryOp} {r : V → Hp → VK → Prop} {f : O1} (h : UnR X (unaryOp op) r ∧ RefU X.K r f) (ha : AX X W a aa) : AX X W (.UnaryOp op a pos) (aUn f aa) := by
  obtain ⟨ta, pa, ra⟩ := ha
  exact ⟨_, pe_un h.1 pa, refE_un h.2 ra⟩
theorem ax_cmp {op : CmpOp} {r : R2} {f : O2} (h : OpR X (compareOp op) r ∧ RefO X.K r f) (ha : AX X W a aa) (hb : AX X W b ab) (hm : behindInMarks op b = false := by first | exact nobehind _ (by decide) (by decide) | rfl) : AX X W (.Compare a [op] [b] pos) (aOp f aa ab) := by
  obtain ⟨ta, pa, ra⟩ := ha
  obtain ⟨tb, pb, rb⟩ := hb
  exact ⟨_, pe_cmpR h.1 pa pb hm, refE_op h.2 ra rb⟩
theorem axt_cmp {op : CmpOp} {r : R2} {f : O2} (h : OpR X (compareOp op) r ∧ RefO X.K r f) (ha : AX X W a aa) (hb : AX X W b ab) (hm : behindInMarks op b = false := by first | exact nobehind _ (by decide) (by decide) | rfl) : AXT X W (.Compare a [op] [b] pos) (aTest (aOp f aa ab)) := by
  obtain ⟨ta, pa, ra⟩ := ha
  obtain ⟨tb, pb, rb⟩ := hb
  exact ⟨_, pt_cmpR h.1 pa pb hm, refT_test (refE_op h.2 ra rb)⟩
/-- an expression as a test, by its truth -/
theorem axt_val (ha : AX X W a aa) (he : ∀ whole, isTrue a X.env whole = (do let v ← whole; standAt a.pos; holding [v] (truthy v)) := by intro _; rfl) : AXT X W a (aTruth aa) := by
  obtain ⟨ta, pa, ra⟩ := ha
  exact ⟨_, pt_truth pa he, refT_truth ra⟩
theorem axw_and1 (ha : AXT X W a xt) : AXW X W (.BoolOp .And [a] pos) xt := by
  obtain ⟨ta, pa, ra⟩ := ha
  exact ⟨_, pw_and1 pa, ra⟩
theorem axw_or1 (ha : AXT X W a xt) : AXW X W (.BoolOp .Or [a] pos) xt := by
  obtain ⟨ta, pa, ra⟩ := ha
  exact ⟨_, pw_or1 pa, ra⟩
theorem axw_and {rest : List Expr} (ha : AXT X W a xt) (hb : AXW X W (.BoolOp .And (b :: rest) pos) xu) : AXW X W (.BoolOp .And (a :: b :: rest) pos) (aAnd xt xu) := by
  obtain ⟨ta, pa, ra⟩ := ha
  obtain ⟨tb, pb, rb⟩ := hb
  exact ⟨_, pw_and pa pb, refT_and ra rb⟩
theorem axw_or {rest : List Expr} (ha : AXT X W a xt) (hb : AXW X W (.BoolOp .Or (b :: rest) pos) xu) : AXW X W (.BoolOp .Or (a :: b :: rest) pos) (aOr xt xu) := by
  obtain ⟨ta, pa, ra⟩ := ha
  obtain ⟨tb, pb, rb⟩ := hb
  exact ⟨_, pw_or pa pb, refT_or ra rb⟩
theorem axt_w (ha : AXW X W a xt) : AXT X W a xt := by
  obtain ⟨ta, pa, ra⟩ := ha
  exact ⟨_, pa.pt, ra⟩
theorem axt_not (ha : AXT X W a xt) : AXT X W (.UnaryOp .Not a pos) (aNot xt) := by
  obtain ⟨ta, pa, ra⟩ := ha
  exact ⟨_, pt_not pa, refT_not ra⟩
theorem ax_one {op : BoolOp} (ha : AX X W a aa) : AX X W (.BoolOp op [a] pos) aa := by
  obtain ⟨ta, pa, ra⟩ := ha
  exact ⟨_, pe_one pa, ra⟩
theorem ax_and {rest : List Expr} (ha : AX X W a aa) (hb : AX X W (.BoolOp .And (b :: rest) pos) ab) : AX X W (.BoolOp .And (a :: b :: rest) pos) (aAndV aa ab) := by
  obtain ⟨ta, pa, ra⟩ := ha
  obtain ⟨tb, pb, rb⟩ := hb
  exact ⟨_, pe_and pa pb, refE_andV ra rb⟩
theorem ax_or {rest : List Expr} (ha : AX X W a aa) (hb : AX X W (.BoolOp .Or (b :: rest) pos) ab) : AX X W (.BoolOp .Or (a :: b :: rest) pos) (aOrV aa ab) := by
  obtain ⟨ta, pa, ra⟩ := ha
  obtain ⟨tb, pb, rb⟩ := hb
  exact ⟨_, pe_or pa pb, refE_orV ra rb⟩
theorem ax_not (ha : AX X W a aa) : AX X W (.UnaryOp .Not a pos) (aNotV aa) := by
  obtain ⟨ta, pa, ra⟩ := ha
  exact ⟨_, pe_not pa, refE_notV ra⟩
theorem ax_chain {op op' : CmpOp} {r r' : R2} {f f' : O2} (h : OpR X (compareOp op) r ∧ RefO X.K r f) (h' : OpR X (compareOp op') r' ∧ RefO X.K r' f') (ha : AX X W a aa) (hb : AX X W b ab) (hc : AX X W c ac) (hm : lastMarks [op, op'] [b, c] = false := by with_unfolding_all rfl) : AX X W (.Compare a [op, op'] [b, c] pos) (aChain f f' aa ab ac) := by
  obtain ⟨ta, pa, ra⟩ := ha
  obtain ⟨tb, pb, rb⟩ := hb
  obtain ⟨tc, pc, rc⟩ := hc
  exact ⟨_, pe_chain h.1 h'.1 pa pb pc hm, refE_chain h.2 h'.2 ra rb rc⟩
theorem axt_chain {op op' : CmpOp} {r r' : R2} {f f' : O2} (h : OpR X (compareOp op) r ∧ RefO X.K r f) (h' : OpR X (compareOp op') r' ∧ RefO X.K r' f') (ha : AX X W a aa) (hb : AX X W b ab) (hc : AX X W c ac) (hm : lastMarks [op, op'] [b, c] = false := by with_unfolding_all rfl) : AXT X W (.Compare a [op, op'] [b, c] pos) (aTest (aChain f f' aa ab ac)) := by
  obtain ⟨ta, pa, ra⟩ := ha
  obtain ⟨tb, pb, rb⟩ := hb
  obtain ⟨tc, pc, rc⟩ := hc
  exact ⟨_, pt_chain h.1 h'.1 pa pb pc hm, refT_test (refE_chain h.2 h'.2 ra rb rc)⟩
theorem ax_if (hc : AXT X W c xt) (ha : AX X W a aa) (hb : AX X W b ab) : AX X W (.IfExp c a b pos) (aIf xt aa ab) := by
  obtain ⟨tc, pc, rc⟩ := hc
  obtain ⟨ta, pa, ra⟩ := ha
  obtain ⟨tb, pb, rb⟩ := hb
  exact ⟨_, pe_ifExp pc pa pb, refE_if rc ra rb⟩
theorem axa_nil : AXA X W [] aNil := ⟨_, pa_nil, refA_nil⟩
theorem axa_cons (ha : AX X W e aa) (hr : AXA X W es ar) (hs : starEach (e :: es) X.env = (false, eval e X.env) :: starEach es X.env := by rfl) : AXA X W (e :: es) (aCons aa ar) := by
  obtain ⟨ta, pa, ra⟩ := ha
  obtain ⟨tb, pb, rb⟩ := hr
  exact ⟨_, pa_cons pa pb hs, refA_cons ra rb⟩
theorem ax_lst (hr : AXA X W es ar) : AX X W (.List es pos) (aLst ar) := by
  obtain ⟨tb, pb, rb⟩ := hr
  exact ⟨_, pe_lst pb, refE_lst rb⟩
theorem ax_tup {k : Nat} (hr : AXA X W es ar) : AX X W (.Tuple es k pos) (aTup ar) := by
  obtain ⟨tb, pb, rb⟩ := hr
  exact ⟨_, pe_tup pb, refE_tup rb⟩
theorem ax_ix {r : R2} {f : O2} (h : IxR X r ∧ RefO X.K r f) (ha : AX X W a aa) (hb : AX X W b ab) (hs : PlainIx b := by exact fun _ _ => rfl) : AX X W (.Subscript a b pos) (aOp f aa ab) := by
  obtain ⟨ta, pa, ra⟩ := ha
  obtain ⟨tb, pb, rb⟩ := hb
  exact ⟨_, pe_ix h.1 pa pb hs, refE_op h.2 ra rb⟩
theorem ax_callB {f : ON} {id : String} (h : CB X (.builtin id) f) (hm : X.mg x = none) (hv : bootBuiltins x = some (.builtin id)) (ha : AXA X W (e :: es) ar) (hg : Gl X x := by rfl) (hn : x ≠ "__name__" := by decide) (hdb : (x == ("__debug__" : Str)) = false := by decide)
    (he : starEach (e :: es) X.env = (false, eval e X.env) :: starEach es X.env := by rfl) (hpl : (backTo pos (starEach es X.env)).any (·.1) = false := by rfl) : AX X W (.Call (.Name x p) (e :: es) [] pos) (aB f ar) := by
  obtain ⟨ta, pa, ra⟩ := ha
  obtain ⟨r, h1, h2⟩ := h
  exact ⟨_, pe_callB h1 hg hm hv pa hn hdb he hpl, refE_cb h2 ra⟩
theorem ax_callTy {f : ON} {T : String} (h : CB X (.type T) f) (hm : X.mg x = none) (hv : bootBuiltins x = some (.type T)) (ha : AXA X W (e :: es) ar) (hg : Gl X x := by rfl) (hn : x ≠ "__name__" := by decide) (hdb : (x == ("__debug__" : Str)) = false := by decide)
    (he : starEach (e :: es) X.env = (false, eval e X.env) :: starEach es X.env := by rfl) (hpl : (backTo pos (starEach es X.env)).any (·.1) = false := by rfl) : AX X W (.Call (.Name x p) (e :: es) [] pos) (aB f ar) := by
  obtain ⟨ta, pa, ra⟩ := ha
  obtain ⟨r, h1, h2⟩ := h
  exact ⟨_, pe_callTy h1 hg hm hv pa hn hdb he hpl, refE_cb h2 ra⟩
end
end AM
set_option Elab.async false
set_option linter.all false
set_option maxRecDepth 100000
set_option maxHeartbeats 4000000
namespace AM
open PySem L2 Evl
/-! ### targets -/
abbrev AG := D → List A → S → (List A → Prop) → Prop
abbrev AGs := List D → List A → S → (List A → Prop) → Prop
def ThenG (K : PySem.W.Frag) (G : Gh) (H : Hp) (q : List A → Prop) (Q : St → Hp → Prop) : Prop := ∀ env' σ', Sl K G env' σ' → q env' → Q σ' H
def RefG (K : PySem.W.Frag) (g : TG) (ag : AG) : Prop := ∀ G env st σ H d v (Q : St → Hp → Prop) (q : List A → Prop), SS K G st H → Sl K G env σ → Rep K G d v → ag d env st q → ThenG K G H q Q → g v σ H Q
def RefGs (K : PySem.W.Frag) (g : TGs) (ag : AGs) : Prop := ∀ G env st σ H ds vs (Q : St → Hp → Prop) (q : List A → Prop), SS K G st H → Sl K G env σ → Reps K G ds vs → ag ds env st q → ThenG K G H q Q → g vs σ H Q
def agName (i : Nat) : AG := fun d env _ q => q (env.set i (.d d))
def agNil : AGs := fun ds env _ q => ds = [] ∧ q env
def agCons (g : AG) (r : AGs) : AGs := fun ds env st q => match ds with
  | d :: ds => g d env st fun env' => r ds env' st q
  | [] => False
def agTup (n : Nat) (g : AGs) : AG := fun d env st q => match d with
  | .tup ds => ds.length = n ∧ g ds env st q
  | _ => False
section
variable {K : PySem.W.Frag} {g : TG} {ag : AG} {gs : TGs} {ags : AGs}
theorem refG_name (i : Nat) : RefG K (gName i) (agName i) := fun G env st σ H d v Q q s l r h t => t _ _ (l.set i r) h
theorem refGs_nil : RefGs K gNil agNil := fun G env st σ H ds vs Q q s l r h t => by
  obtain ⟨e, h⟩ := h
  subst e
  cases r
  exact ⟨rfl, t env σ l h⟩
theorem refGs_cons (h1 : RefG K g ag) (h2 : RefGs K gs ags) : RefGs K (gCons g gs) (agCons ag ags) := fun G env st σ H ds vs Q q s l r h t => by
  cases r with
  | nil => exact h.elim
  | cons r1 r2 =>
    refine ⟨_, _, rfl, ?_⟩
    exact h1 G env st σ H _ _ _ _ s l r1 h fun env' σ' l2 h2' => h2 G env' st σ' H _ _ Q q s l2 r2 h2' t
theorem refG_tup {n : Nat} (h : RefGs K gs ags) : RefG K (gTup K n gs) (agTup n ags) := fun G env st σ H d v Q q s l r h1 t => by
  cases r with
  | tup hs rs => exact ⟨_, _, rfl, SqT.of (s.ex.tup hs), by rw [← rs.length]; exact h1.1, h G env st σ H _ _ Q q s l rs h1.2 t⟩
  | _ => exact h1.elim
end
def AXG (X : Cx) (e : Expr) (ag : AG) : Prop := ∃ g, PG X e g ∧ RefG X.K g ag
def AXGs (X : Cx) (es : List Expr) (ag : AGs) : Prop := ∃ g, PGs X es g ∧ RefGs X.K g ag
/-! ### statements -/
def sNext : AS := fun env st k => k.nx env st
def sSeq (a b : AS) : AS := fun env st k => a env st { k with nx := fun env' st' => b env' st' k }
def sBreak : AS := fun env st k => k.bk env st
def sCont : AS := fun env st k => k.ct env st
def sDrop (a : AE) : AS := fun env st k => a env st (fun _ s1 => k.nx env s1) (fun e s1 => k.er e env s1)
def sRet (a : AE) : AS := fun env st k => a env st (fun d s1 => k.rt (.d d) s1) (fun e s1 => k.er e env s1)
def sRetN : AS := fun env st k => k.rt (.d .non) st
def sIf (t : AT) (a b : AS) : AS := fun env st k => t env st (fun c s1 => if c = true then a env s1 k else b env s1 k) (fun e s1 => k.er e env s1)
def sAsg (a : AE) (g : AG) : AS := fun env st k => a env st (fun d s1 => g d env s1 fun env' => k.nx env' s1) (fun e s1 => k.er e env s1)
def sPar (i j : Nat) (as : AEs) : AS := fun env st k => as env st (fun ds s1 => match ds with
  | [x, y] => k.nx ((env.set i (.d x)).set j (.d y)) s1
  | _ => False) (fun e s1 => k.er e env s1)
def sAug (i : Nat) (f : O2) (a : AE) : AS := fun env st k => ∃ x, env[i]? = some (.d x) ∧ a env st (fun y s1 => f (vw s1 x) (vw s1 y) fun z => k.nx (env.set i (.d z)) s1) (fun e s1 => k.er e env s1)
def sNever : AS := fun _ _ _ => False
def sForL (gd : Gd) (g : AG) (b : AS) : List D → AS
  | [] => fun env st k => gdOk gd st ∧ k.nx env st
  | x :: xs => fun env st k => gdOk gd st ∧ g x env st fun e1 => b e1 st { k with nx := fun e2 s2 => sForL gd g b xs e2 s2 k, ct := fun e2 s2 => sForL gd g b xs e2 s2 k, bk := k.nx }
def sFor (it : AI) (g : AG) (b : AS) : AS := fun env st k => it env st (fun ds gd s1 => sForL gd g b ds env s1 k) (fun e s1 => k.er e env s1)
def sWhN (t : AT) (b : AS) : Nat → AS
  | 0 => fun _ _ _ => False
  | n + 1 => fun env st k => t env st (fun c s1 => if c = true then b env s1 { k with nx := fun e2 s2 => sWhN t b n e2 s2 k, ct := fun e2 s2 => sWhN t b n e2 s2 k, bk := k.nx } else k.nx env s1) (fun e s1 => k.er e env s1)
def sWhile (t : AT) (b : AS) : AS := fun env st k => ∃ n, sWhN t b n env st k
section
variable {K : PySem.W.Frag} {W : WX} {te : TE} {ae : AE} {ts tu : TS} {as bs : AS} {tt : TT} {xt : AT}
theorem refS_next : RefS K W tNext sNext := fun G env st σ H D k s l h t => t.nx env σ st G H Post.refl s l h
theorem refS_break : RefS K W tBreak sBreak := fun G env st σ H D k s l h t => t.bk env σ st G H Post.refl s l h
theorem refS_cont : RefS K W tCont sCont := fun G env st σ H D k s l h t => t.ct env σ st G H Post.refl s l h
theorem refS_never : RefS K W tNever sNever := fun G env st σ H D k s l h t => h.elim
theorem refS_seq (h1 : RefS K W ts as) (h2 : RefS K W tu bs) : RefS K W (tSeq ts tu) (sSeq as bs) := fun G env st σ H D k s l h t =>
  h1 G env st σ H _ _ s l h ⟨fun env' σ' st2 G2 H2 p2 s2 l2 q => h2 G2 env' st2 σ' H2 D k s2 l2 q (t.on p2), t.rt, t.bk, t.ct, t.er⟩
theorem refS_drop (he : RefE K W te ae) : RefS K W (tDrop te) (sDrop ae) := fun G env st σ H D k s l h t =>
  he G env st σ H _ _ _ s l h (fun v d st2 G2 H2 p2 s2 r2 q => t.nx env σ st2 G2 H2 p2 s2 (l.mono p2.le) q) (t.x l)
theorem refS_ret (he : RefE K W te ae) : RefS K W (tRet te) (sRet ae) := fun G env st σ H D k s l h t =>
  he G env st σ H _ _ _ s l h (fun v d st2 G2 H2 p2 s2 r2 q => t.rt v (.d d) st2 G2 H2 p2 s2 r2 q) (t.x l)
theorem refS_retN : RefS K W tRetN sRetN := fun G env st σ H D k s l h t => t.rt .non (.d .non) st G H Post.refl s Rep.non h
theorem refS_if (hc : RefT K W tt xt) (h1 : RefS K W ts as) (h2 : RefS K W tu bs) : RefS K W (tIfS tt ts tu) (sIf xt as bs) := fun G env st σ H D k s l h t =>
  hc G env st σ H _ _ _ s l h (fun b st2 G2 H2 p2 s2 q => by
    cases b with
    | true => exact h1 G2 env st2 σ H2 D k s2 (l.mono p2.le) q (t.on p2)
    | false => exact h2 G2 env st2 σ H2 D k s2 (l.mono p2.le) q (t.on p2)) (t.x l)
theorem refS_asg {g : TG} {ag : AG} (he : RefE K W te ae) (hg : RefG K g ag) : RefS K W (tAsg te g) (sAsg ae ag) := fun G env st σ H D k s l h t =>
  he G env st σ H _ _ _ s l h (fun v d st2 G2 H2 p2 s2 r2 q => hg G2 env st2 σ H2 d v _ _ s2 (l.mono p2.le) r2 q fun env3 σ3 l3 h3 => t.nx env3 σ3 st2 G2 H2 p2 s2 l3 h3) (t.x l)
theorem refS_par {i j : Nat} {ta : TA} {aa : AEs} (ha : RefA K W ta aa) : RefS K W (tPar i j ta) (sPar i j aa) := fun G env st σ H D k s l h t =>
  ha G env st σ H _ _ _ s l h (fun vs ds st2 G2 H2 p2 s2 r2 q => by
    match ds, r2, q with
    | [x, y], .cons r1 (.cons r3 .nil), q => exact ⟨_, _, rfl, t.nx _ _ st2 G2 H2 p2 s2 (((l.mono p2.le).set i r1).set j r3) q⟩) (t.x l)
theorem refS_aug {i : Nat} {ti : TIp} {f : O2} (he : RefE K W te ae) (ho : RefO K ti f) : RefS K W (tAug i te ti) (sAug i f ae) := fun G env st σ H D k s l h t => by
  obtain ⟨x, ex, h⟩ := h
  obtain ⟨u, eu, ru⟩ := l.slot i _ ex
  refine ⟨u, eu, he G env st σ H _ _ _ s l h (fun v d st2 G2 H2 p2 s2 r2 q => ?_) (t.x l)⟩
  exact ho G2 st2 H2 u v _ _ _ _ s2 ((ru.mono p2.le).vw s2) (r2.vw s2) q fun w d3 G3 H3 p3 s3 r3 h3 => t.nx _ _ st2 G3 H3 (p2.trans p3) s3 ((l.mono (p2.trans p3).le).set i r3) h3
def ForN (K : PySem.W.Frag) (gd : Gd) (ag : AG) (as : AS) (ds : List D) (k : AK) (G2 : Gh) (H2 : Hp) (i : Nat) : St → Hp → Prop := fun σ4 H4 => i ≤ ds.length ∧ ∃ G5 env5 st5, Post G2 H2 G5 H4 ∧ SS K G5 st5 H4 ∧ Sl K G5 env5 σ4 ∧ sForL gd ag as (ds.drop i) env5 st5 k
theorem sForL_gd {gd : Gd} {ag : AG} {as : AS} : ∀ {ds : List D} {env : List A} {st : S} {k : AK}, sForL gd ag as ds env st k → gdOk gd st
  | [], _, _, _, h => h.1
  | _ :: _, _, _, _, h => h.1
theorem refS_for {wi : TI} {ai : AI} {g : TG} {ag : AG} (hi : RefI K W wi ai) (hg : RefG K g ag) (hb : RefS K W ts as) : RefS K W (tFor wi g ts) (sFor ai ag as) := fun G env st σ H D k s l h t => by
  refine hi G env st σ H _ _ _ s l h (fun J ds gd st2 G2 H2 p2 s2 wk q => ?_) (t.x l)
  refine ⟨fun i m σ' H' => m = ds.length - i ∧ ForN K gd ag as ds k G2 H2 i σ' H', ⟨ds.length, by omega, Nat.zero_le _, G2, env, st2, Post.refl, s2, l.mono p2.le, q⟩, ?_⟩
  rintro i m σ' H' ⟨rfl, hle, G3, env3, st3, p3, s3, l3, f3⟩
  have gk := sForL_gd f3
  by_cases hlt : i < ds.length
  · refine .inr ⟨wk.go i G3 st3 H' p3.wk s3 gk hlt, ForN K gd ag as ds k G2 H2 (i + 1), fun σ4 H4 h4 => ⟨ds.length - (i + 1), by omega, rfl, h4⟩, fun x H5 y => ?_⟩
    rw [List.drop_eq_getElem_cons hlt] at f3
    have hd : ds[i]? = some ds[i] := by simp [hlt]
    have turn : ∀ G6, Post G3 H' G6 H5 → SS K G6 st3 H5 → Rep K G6 ds[i] x → g x σ' H5 fun σ2 H2' => ts { D with nx := ForN K gd ag as ds k G2 H2 (i + 1), ct := ForN K gd ag as ds k G2 H2 (i + 1), bk := D.nx } σ2 H2' := fun G6 p6 s6 rr => by
      refine hg G6 env3 st3 σ' _ ds[i] x _ _ s6 (l3.mono p6.le) rr f3.2 fun env7 σ7 l7 h7 => ?_
      have p36 := p3.trans p6
      exact hb G6 env7 st3 σ7 H5 _ _ s6 l7 h7 ⟨fun env8 σ8 st8 G8 H8 p8 s8 l8 h8 => ⟨hlt, G8, env8, st8, p36.trans p8, s8, l8, h8⟩, (t.on (p2.trans p36)).rt,
        fun env8 σ8 st8 G8 H8 p8 s8 l8 => t.nx env8 σ8 st8 G8 H8 ((p2.trans p36).trans p8) s8 l8, fun env8 σ8 st8 G8 H8 p8 s8 l8 h8 => ⟨hlt, G8, env8, st8, p36.trans p8, s8, l8, h8⟩, (t.on (p2.trans p36)).er⟩
    obtain ⟨G6, p6, s6, rr⟩ := wk.yld i G3 st3 H' _ x H5 p3.wk s3 gk hd y
    exact turn G6 p6 s6 rr
  · have e : i = ds.length := by omega
    subst e
    rw [List.drop_length] at f3
    exact .inl ⟨wk.stop _ G3 st3 H' p3.wk s3 gk rfl, t.nx env3 σ' st3 G3 H' (p2.trans p3) s3 l3 f3.2⟩
theorem refS_while (hc : RefT K W tt xt) (hb : RefS K W ts as) : RefS K W (tWhile tt ts) (sWhile xt as) := fun G env st σ H D k s l h t => by
  obtain ⟨n, h⟩ := h
  refine ⟨fun m σ' H' => ∃ G3 env3 st3, Post G H G3 H' ∧ SS K G3 st3 H' ∧ Sl K G3 env3 σ' ∧ sWhN xt as m env3 st3 k, ⟨n, G, env, st, Post.refl, s, l, h⟩, ?_⟩
  rintro m σ' H' ⟨G3, env3, st3, p3, s3, l3, f3⟩
  cases m with
  | zero => exact f3.elim
  | succ m =>
    refine hc G3 env3 st3 σ' H' _ _ _ s3 l3 f3 (fun b st4 G4 H4 p4 s4 h4 => ?_) ((t.on p3).x l3)
    have p34 := p3.trans p4
    cases b with
    | false => exact t.nx env3 σ' st4 G4 H4 p34 s4 (l3.mono p4.le) h4
    | true =>
      refine ⟨fun σ5 H5 => ∃ G5 env5 st5, Post G H G5 H5 ∧ SS K G5 st5 H5 ∧ Sl K G5 env5 σ5 ∧ sWhN xt as m env5 st5 k, fun σ5 H5 h5 => ⟨m, Nat.lt_succ_self m, h5⟩, ?_⟩
      exact hb G4 env3 st4 σ' H4 _ _ s4 (l3.mono p4.le) h4 ⟨fun env8 σ8 st8 G8 H8 p8 s8 l8 h8 => ⟨G8, env8, st8, p34.trans p8, s8, l8, h8⟩, (t.on p34).rt,
        fun env8 σ8 st8 G8 H8 p8 s8 l8 => t.nx env8 σ8 st8 G8 H8 (p34.trans p8) s8 l8, fun env8 σ8 st8 G8 H8 p8 s8 l8 h8 => ⟨G8, env8, st8, p34.trans p8, s8, l8, h8⟩, (t.on p34).er⟩
end
end AM
set_option Elab.async false
set_option linter.all false
set_option maxRecDepth 100000
set_option maxHeartbeats 4000000
namespace AM
open PySem L2 Evl
/-! ### the block's own slots -/
def wA : List Nat → List A → List A
  | [], env => env
  | v :: vs, env => (wA vs env).set v .no
theorem wA_length (env : List A) : ∀ vs, (wA vs env).length = env.length
  | [] => rfl
  | v :: vs => by unfold wA; rw [List.length_set, wA_length env vs]
theorem wA_get {env : List A} {j : Nat} {x : A} : ∀ {vs}, (wA vs env)[j]? = some x → (x = .no) ∨ (j ∉ vs ∧ env[j]? = some x)
  | [], h => .inr ⟨by simp, h⟩
  | v :: vs, h => by
    unfold wA at h
    rcases get_set h with ⟨rfl, rfl, _⟩ | ⟨hj, h⟩
    · exact .inl rfl
    · rcases wA_get h with h | ⟨h1, h2⟩
      · exact .inl h
      · exact .inr ⟨by simp only [List.mem_cons, not_or]; exact ⟨hj, h1⟩, h2⟩
theorem wipe_out' {σ : St} {j : Nat} : ∀ {vs}, j ∉ vs → (wipe σ vs)[j]? = σ[j]?
  | [], _ => rfl
  | v :: vs, n => by
    simp only [List.mem_cons, not_or] at n
    unfold wipe
    rw [List.getElem?_set_ne (Ne.symm n.1)]
    exact wipe_out' n.2
theorem wipe_in {σ : St} {j : Nat} : ∀ {vs}, j ∈ vs → j < σ.length → (wipe σ vs)[j]? = some none
  | v :: vs, n, hl => by
    unfold wipe
    by_cases hj : j = v
    · subst hj
      rw [List.getElem?_set_self (by rw [wipe_length]; exact hl)]
    · rw [List.getElem?_set_ne (Ne.symm hj)]
      exact wipe_in (by simpa [hj] using n) hl
theorem wipe_ext {σ τ : St} {vs : List Nat} (hl : σ.length = τ.length) (h : ∀ j, j ∉ vs → σ[j]? = τ[j]?) : wipe σ vs = wipe τ vs := by
  apply List.ext_getElem?
  intro j
  by_cases hj : j ∈ vs
  · by_cases hs : j < σ.length
    · rw [wipe_in hj hs, wipe_in hj (by omega)]
    · rw [List.getElem?_eq_none (by rw [wipe_length]; omega), List.getElem?_eq_none (by rw [wipe_length]; omega)]
  · rw [wipe_out' hj, wipe_out' hj]
    exact h j hj
theorem wipe_wipe {σ : St} {vs : List Nat} : wipe (wipe σ vs) vs = wipe σ vs := wipe_ext (wipe_length _ _) fun j hj => wipe_out' hj
theorem wipe_set {σ : St} {vs : List Nat} {i : Nat} {v : Option V} (h : i ∈ vs) : wipe (σ.set i v) vs = wipe σ vs := wipe_ext (by rw [List.length_set]) fun j hj => by
  rw [List.getElem?_set_ne]
  intro e
  exact hj (e ▸ h)
theorem Sl.wipe {K : PySem.W.Frag} {G : Gh} {env : List A} {σ : St} (s : Sl K G env σ) (vs : List Nat) : Sl K G (wA vs env) (L2.wipe σ vs) := by
  refine ⟨by rw [wA_length, wipe_length]; exact s.len, fun j x h => ?_⟩
  rcases wA_get h with rfl | ⟨n, h⟩
  · trivial
  · rw [wipe_out' n]
    exact s.slot j x h
/-! ### targets that keep to the block's names -/
def Stays (vs : List Nat) (g : TG) : Prop := ∀ v σ H Q Q' σ0, wipe σ vs = wipe σ0 vs → (∀ σ2 H2, wipe σ2 vs = wipe σ0 vs → Q σ2 H2 → Q' σ2 H2) → g v σ H Q → g v σ H Q'
def Stayss (vs : List Nat) (g : TGs) : Prop := ∀ v σ H Q Q' σ0, wipe σ vs = wipe σ0 vs → (∀ σ2 H2, wipe σ2 vs = wipe σ0 vs → Q σ2 H2 → Q' σ2 H2) → g v σ H Q → g v σ H Q'
theorem stays_name {vs : List Nat} {i : Nat} (h : i ∈ vs) : Stays vs (gName i) := fun v σ H Q Q' σ0 e k q => k _ _ ((wipe_set h).trans e) q
theorem stays_nil {vs : List Nat} : Stayss vs gNil := fun v σ H Q Q' σ0 e k q => ⟨q.1, k _ _ e q.2⟩
theorem stays_cons {vs : List Nat} {g : TG} {gs : TGs} (h1 : Stays vs g) (h2 : Stayss vs gs) : Stayss vs (gCons g gs) := fun v σ H Q Q' σ0 e k q => by
  obtain ⟨w, r, e1, q⟩ := q
  exact ⟨w, r, e1, h1 w σ H _ _ σ0 e (fun a b z q => h2 r a b Q Q' σ0 z k q) q⟩
theorem stays_tup {K : PySem.W.Frag} {vs : List Nat} {n : Nat} {gs : TGs} (h : Stayss vs gs) : Stays vs (gTup K n gs) := fun v σ H Q Q' σ0 e k q => by
  obtain ⟨a, xs, e1, h1, h2, q⟩ := q
  exact ⟨a, xs, e1, h1, h2, h xs σ H Q Q' σ0 e k q⟩
/-! ### a new list grows at P, beside the state -/
structure Bs (K : PySem.W.Frag) (P : Addr) (G : Gh) (H : Hp) (acc : List D) (G2 : Gh) (st2 : S) (H2 : Hp) : Prop where
  ss : SS K G2 st2 H2
  po : Post G H G2 H2
  new : H P = none
  na : P ∉ G2.as
  ng : G2.g P = none
  at_ : ∃ vs, H2 P = some (.lst vs) ∧ Reps K G2 acc vs
section
variable {K : PySem.W.Frag} {P : Addr} {G G2 G3 : Gh} {H H2 H3 : Hp} {st st2 st3 : S} {acc : List D}
theorem Bs.start (s : SS K G st H) (hP : H P = none) : Bs K P G H [] G st (upd H P (.lst [])) := by
  obtain ⟨s2, p2, na, ng⟩ := s.room (o := .lst []) hP
  exact ⟨s2, p2, hP, na, ng, [], upd_same, .nil⟩
theorem Bs.on (b : Bs K P G H acc G2 st2 H2) (p : Post G2 H2 G3 H3) (s3 : SS K G3 st3 H3) : Bs K P G H acc G3 st3 H3 := by
  obtain ⟨vs, e, r⟩ := b.at_
  refine ⟨s3, b.po.trans p, b.new, fun z => ?_, p.n P b.ng ⟨ne_some e, fun xs t => by rw [e] at t; cases t⟩ b.na, vs, p.h0 e b.na b.ng, r.mono p.le⟩
  rcases p.o P z with z | z
  · exact b.na z
  · rw [e] at z; cases z
theorem Bs.app (b : Bs K P G H acc G2 st2 H2) {d : D} {v : V} (r : Rep K G2 d v) (hl : acc.length < 100000) : ∃ vs, H2 P = some (.lst vs) ∧ vs.length < sizeLine ∧ Bs K P G H (acc ++ [d]) G2 st2 (upd H2 P (.lst (vs ++ [v]))) := by
  obtain ⟨vs, e, rs⟩ := b.at_
  refine ⟨vs, e, sz_lt (by rw [← rs.length]; exact hl), ⟨fun a o q => ?_, b.ss.len, b.ss.nd, fun n c p e1 e2 => (b.ss.cell n c p e1 e2).mono (Gh.le.refl _) (fun o q => ?_) (fun _ q => q)⟩, ⟨b.po.le, fun x o q k => ?_, b.po.n, b.po.o, fun x k => ?_, fun x o u k q => by rw [upd_ne (live_ne b.new (ne_some q))]; exact b.po.z x o u k q⟩, b.new, b.na, b.ng, _, upd_same, rs.append (.one r)⟩
  · exact (b.ss.ex a o q).put (fun z => by rw [z, b.ng] at q; cases q)
  · rw [upd_ne (mem_ne b.na (List.mem_of_getElem? e2))]; exact q
  · rcases b.po.h x o q k with e9 | ⟨y9, ob9, kvs9, z9, e9⟩
    · exact .inl (by rw [upd_ne (live_ne b.new (ne_some q))]; exact e9)
    · exact .inr ⟨y9, ob9, kvs9, z9, by rw [upd_ne (live_ne b.new (ne_some q))]; exact e9⟩
  · by_cases h : x = P
    · subst h; rw [upd_same]; exact fun z => nomatch z
    · rw [upd_ne h]; exact b.po.m x k
theorem Bs.own (b : Bs K P G H acc G2 st2 H2) : ResOk K H G2 H2 (.own acc) (.ref P) := by
  obtain ⟨vs, e, rs⟩ := b.at_
  exact ⟨P, vs, rfl, e, b.ng, b.na, b.new, rs⟩
/-- a result that nobody holds is frozen -/
theorem own_frz {l : List D} {v : V} (s : SS K G2 st2 H2) (po : Post G H G2 H2) (h : ResOk K H G2 H2 (.own l) v) : ∃ G3, SS K G3 st2 H2 ∧ Post G H G3 H2 ∧ Rep K G3 (.lst l) v := by
  obtain ⟨p, vs, rfl, e, gp, np, hn, rs⟩ := h
  obtain ⟨s3, le⟩ := s.freeze e gp np
  exact ⟨_, s3, po.freeze gp hn, .lst upd_same (rs.mono le)⟩
theorem DctAt.mono {G G2 : Gh} {p : Addr} {l : List (D × D)} (e : G.le G2) (h : DctAt K G H p l) : DctAt K G2 H p l := by
  obtain ⟨kvs, h, r⟩ := h
  exact ⟨kvs, h, r.mono e⟩
theorem ownd_frz {l : List (D × D)} {v : V} (s : SS K G2 st2 H2) (po : Post G H G2 H2) (h : ResOk K H G2 H2 (.ownD l) v) : ∃ G3, SS K G3 st2 H2 ∧ Post G H G3 H2 ∧ Rep K G3 (.dic l) v := by
  obtain ⟨p, rfl, e, gp, np, hn⟩ := h
  obtain ⟨kvs, e, rs⟩ := e
  obtain ⟨s3, le⟩ := s.freeze e gp np
  exact ⟨_, s3, po.freeze gp hn, .dicT upd_same (rs.mono le)⟩
theorem ownd_cell {l : List (D × D)} {v : V} (s : SS K G2 st2 H2) (po : Post G H G2 H2) (h : ResOk K H G2 H2 (.ownD l) v) : ∃ G3, SS K G3 (st2 ++ [.dic l]) H2 ∧ Post G H G3 H2 ∧ Rep K G3 (.ref st2.length) v := by
  obtain ⟨p, rfl, e, gp, np, hn⟩ := h
  refine ⟨_, s.cellOf (c := .dic l) np ⟨gp, e.mono le_cell⟩, po.cellOf hn, .ref ?_⟩
  rw [← s.len, List.getElem?_append_right (Nat.le_refl _), Nat.sub_self]
  rfl
/-- .. becomes a cell -/
theorem own_cell {l : List D} {v : V} (s : SS K G2 st2 H2) (po : Post G H G2 H2) (h : ResOk K H G2 H2 (.own l) v) : ∃ G3, SS K G3 (st2 ++ [.lst l]) H2 ∧ Post G H G3 H2 ∧ Rep K G3 (.ref st2.length) v := by
  obtain ⟨p, vs, rfl, e, gp, np, hn, rs⟩ := h
  refine ⟨_, s.cellOf (c := .lst l) np ⟨vs, gp, e, rs.mono le_cell⟩, po.cellOf hn, .ref ?_⟩
  rw [← s.len, List.getElem?_append_right (Nat.le_refl _), Nat.sub_self]
  rfl
end
/-! ### comprehensions -/
def aLcL (gd : Gd) (g : AG) (t : AT) (e : AE) (env : List A) (q : List D → S → Prop) : List D → List D → S → Prop
  | [], acc, st => gdOk gd st ∧ q acc st
  | x :: xs, acc, st => gdOk gd st ∧ g x env st fun e1 => t e1 st (fun b s2 => if b = true then e e1 s2 (fun y s3 => acc.length < 100000 ∧ aLcL gd g t e env q xs (acc ++ [y]) s3) (fun _ _ => False) else aLcL gd g t e env q xs acc s2) (fun _ _ => False)
def aLc2L (gd : Gd) (g : AG) (t : AT) (it1 : AI) (g1 : AG) (t1 : AT) (e : AE) (vs1 : List Nat) (env : List A) (q : List D → S → Prop) : List D → List D → S → Prop
  | [], acc, st => gdOk gd st ∧ q acc st
  | x :: xs, acc, st => gdOk gd st ∧ g x env st fun e1 => t e1 st (fun b s2 => if b = true then it1 e1 s2 (fun ds1 gd1 s3 => aLcL gd1 g1 t1 e (wA vs1 e1) (fun acc' s4 => aLc2L gd g t it1 g1 t1 e vs1 env q xs acc' s4) ds1 acc s3) (fun _ _ => False) else aLc2L gd g t it1 g1 t1 e vs1 env q xs acc s2) (fun _ _ => False)
/-- a fresh list -/
abbrev AFr := List A → S → (List D → S → Prop) → QX → Prop
def fLc (it : AI) (g : AG) (t : AT) (e : AE) (vs : List Nat) : AFr := fun env st q er => it env st (fun ds gd s1 => aLcL gd g t e (wA vs env) q ds [] s1) er
def fLc2 (it : AI) (g : AG) (t : AT) (it1 : AI) (g1 : AG) (t1 : AT) (e : AE) (vs vs1 : List Nat) : AFr := fun env st q er => it env st (fun ds gd s1 => aLc2L gd g t it1 g1 t1 e vs1 (wA vs env) q ds [] s1) er
def aFr (f : AFr) : AE := fun env st q er => f env st (fun l s1 => q (.lst l) s1) er
def ThenF (K : PySem.W.Frag) (G : Gh) (H : Hp) (q : List D → S → Prop) (Q : VK) : Prop := ∀ v l st2 G2 H2, Post G H G2 H2 → SS K G2 st2 H2 → ResOk K H G2 H2 (.own l) v → q l st2 → Q v H2
def RefF (K : PySem.W.Frag) (W : WX) (te : TE) (af : AFr) : Prop := ∀ G env st σ H (Q : VK) (q : List D → S → Prop) (er : QX), SS K G st H → Sl K G env σ → af env st q er → ThenF K G H q Q → ThenX K W G H σ er → te σ H Q
def AXF (X : Cx) (W : WX) (e : Expr) (af : AFr) : Prop := ∃ te, PE X e te ∧ RefF X.K W te af
theorem RefF.e {K : PySem.W.Frag} {W : WX} {te : TE} {af : AFr} (h : RefF K W te af) : RefE K W te (aFr af) := fun G env st σ H Q q er s l a tE tX =>
  h G env st σ H Q _ er s l a (fun v ds st2 G2 H2 p2 s2 r2 h2 => by
    obtain ⟨G3, s3, p3, r3⟩ := own_frz s2 p2 r2
    exact tE v _ st2 G3 H2 p3 s3 r3 h2) tX
def W0 : WX := fun _ _ _ _ => False
theorem stay_g {K : PySem.W.Frag} {g : TG} {ag : AG} {vs : List Nat} (hg : RefG K g ag) (hs : Stays vs g) {G : Gh} {env : List A} {st : S} {σ : St} {H : Hp} {d : D} {v : V} (s : SS K G st H) (l : Sl K G env (wipe σ vs)) (r : Rep K G d v) {N : List A → Prop} (h : ag d env st N) {Q : St → Hp → Prop}
    (k : ∀ env7 σ7, wipe σ7 vs = wipe σ vs → Sl K G env7 σ7 → N env7 → Q σ7 H) : g v (wipe σ vs) H (fun σ2 H2 => wipe σ2 vs = wipe σ vs ∧ Q σ2 H2) :=
  hs v _ H (fun σ7 H7 => ∃ env7, H7 = H ∧ Sl K G env7 σ7 ∧ N env7) _ σ wipe_wipe (fun σ7 H7 hw ⟨env7, e7, l7, h7⟩ => ⟨hw, by rw [e7]; exact k env7 σ7 hw l7 h7⟩) (hg G env st (wipe σ vs) H d v _ _ s l r h fun env7 σ7 l7 h7 => ⟨env7, rfl, l7, h7⟩)
/-- one loop with its list: whoever has the list at the end goes on with it -/
theorem lc_walk {K : PySem.W.Frag} {g : TG} {ag : AG} {tt : TT} {xt : AT} {te : TE} {ae : AE} {vs : List Nat} (hg : RefG K g ag) (hs : Stays vs g) (ht : RefT K W0 tt xt) (he : RefE K W0 te ae)
    {P : Addr} {G G2 : Gh} {H H2 : Hp} {acc : List D} {st2 : S} {env : List A} {σ : St} (b0 : Bs K P G H acc G2 st2 H2) (l : Sl K G2 env (wipe σ vs)) {J : It} {ds : List D} {gd : Gd} {H0 : Hp} (w0 : Wk G2 H0 G2 H2) (wk : Walks K G2 H0 J ds gd) {q : List D → S → Prop} (h : aLcL gd ag xt ae env q ds acc st2) (Fin : Hp → Prop)
    (fin : ∀ acc G3 st3 H3, Bs K P G H acc G3 st3 H3 → Wk G2 H0 G3 H3 → q acc st3 → Fin H3) :
    ∃ W : Nat → Nat → Hp → Prop, (∃ m, W 0 m H2) ∧ ∀ i m H, W i m H →
      (J.stop i H ∧ Fin H) ∨ (J.go i H ∧ ∃ Nx : Hp → Prop, (∀ H', Nx H' → ∃ m', m' < m ∧ W (i + 1) m' H') ∧ ∀ x H', J.yld i H x H' → g x (wipe σ vs) H' fun σ2 H2 => wipe σ2 vs = wipe σ vs ∧ tt σ2 H2 fun b H3 =>
        if b = true then te σ2 H3 fun y H4 => ∃ acc, H4 P = some (.lst acc) ∧ acc.length < sizeLine ∧ Nx (upd H4 P (.lst (acc ++ [y]))) else Nx H3) := by
  have gk : ∀ {ds acc st}, aLcL gd ag xt ae env q ds acc st → gdOk gd st := fun {ds acc st} h => by cases ds <;> exact h.1
  let Inv : Nat → Hp → Prop := fun i H' => i ≤ ds.length ∧ ∃ acc G3 st3, Bs K P G H acc G3 st3 H' ∧ Wk G2 H0 G3 H' ∧ aLcL gd ag xt ae env q (ds.drop i) acc st3
  refine ⟨fun i m H' => m = ds.length - i ∧ Inv i H', ⟨ds.length, by omega, Nat.zero_le _, acc, G2, st2, b0, w0, h⟩, ?_⟩
  rintro i m H' ⟨rfl, hle, acc, G3, st3, b3, le3, f3⟩
  have s3 := b3.ss
  have k3 := gk f3
  by_cases hlt : i < ds.length
  · refine .inr ⟨wk.go i G3 st3 H' le3 s3 k3 hlt, Inv (i + 1), fun H4 h4 => ⟨ds.length - (i + 1), by omega, rfl, h4⟩, fun x H5 y => ?_⟩
    rw [List.drop_eq_getElem_cons hlt] at f3
    have hd : ds[i]? = some ds[i] := by simp [hlt]
    have turn : ∀ G6, Post G3 H' G6 H5 → SS K G6 st3 H5 → Rep K G6 ds[i] x → g x (wipe σ vs) H5 fun σ2 H2 => wipe σ2 vs = wipe σ vs ∧ tt σ2 H2 fun b H3 =>
        if b = true then te σ2 H3 fun y H4 => ∃ acc, H4 P = some (.lst acc) ∧ acc.length < sizeLine ∧ Inv (i + 1) (upd H4 P (.lst (acc ++ [y]))) else Inv (i + 1) H3 := fun G6 p6 s6 rr => by
      have b6 := b3.on p6 s6
      have le6 := le3.on p6
      refine stay_g hg hs s6 (l.mono le6.le) rr f3.2 fun env7 σ7 hw l7 h7 => ?_
      refine ht G6 env7 st3 σ7 H5 _ _ _ s6 l7 h7 (fun bb st8 G8 H8 p8 s8 h8 => ?_) ThenX.none
      cases bb with
      | false => exact ⟨hlt, acc, G8, st8, b6.on p8 s8, le6.on p8, h8⟩
      | true =>
        refine he G8 env7 st8 σ7 H8 _ _ _ s8 (l7.mono p8.le) h8 (fun w d st9 G9 H9 p9 s9 r9 h9 => ?_) ThenX.none
        obtain ⟨us, e1, e2, e3⟩ := (b6.on (p8.trans p9) s9).app r9 h9.1
        exact ⟨us, e1, e2, hlt, acc ++ [d], G9, st9, e3, (le6.on (p8.trans p9)).put e1 (fun _ _ z => nomatch z), h9.2⟩
    obtain ⟨G6, p6, s6, rr⟩ := wk.yld i G3 st3 H' _ x H5 le3 s3 k3 hd y
    exact turn G6 p6 s6 rr
  · have e : i = ds.length := by omega
    subst e
    rw [List.drop_length] at f3
    exact .inl ⟨wk.stop _ G3 st3 H' le3 s3 k3 rfl, fin acc G3 st3 H' b3 le3 f3.2⟩
theorem refF_lc {K : PySem.W.Frag} {W : WX} {wi : TI} {ai : AI} {g : TG} {ag : AG} {tt : TT} {xt : AT} {te : TE} {ae : AE} {vs : List Nat} (hi : RefI K W wi ai) (hg : RefG K g ag) (hs : Stays vs g) (ht : RefT K W0 tt xt) (he : RefE K W0 te ae) :
    RefF K W (tLc wi g tt te vs) (fLc ai ag xt ae vs) := fun G env st σ H Q q er s l h tE tX => by
  refine hi G env st σ H _ _ er s l h (fun J ds gd st2 G2 H2 p2 s2 wk h2 => ?_) tX
  exact fun P hP => lc_walk hg hs ht he (Bs.start s2 hP) ((l.mono p2.le).wipe vs) (Bs.start (K := K) s2 hP).po.wk wk h2 (fun H' => Q (.ref P) H') fun acc G3 st3 H3 b3 _ q3 =>
    tE _ acc st3 G3 H3 (p2.trans b3.po) b3.ss (b3.own.on p2) q3
theorem refF_lc2 {K : PySem.W.Frag} {W : WX} {wi wi1 : TI} {ai ai1 : AI} {g g1 : TG} {ag ag1 : AG} {tt tt1 : TT} {xt xt1 : AT} {te : TE} {ae : AE} {vs vs1 : List Nat} (hi : RefI K W wi ai) (hg : RefG K g ag) (hs : Stays vs g) (ht : RefT K W0 tt xt) (hi1 : RefI K W0 wi1 ai1) (hg1 : RefG K g1 ag1) (hs1 : Stays vs1 g1) (ht1 : RefT K W0 tt1 xt1) (he : RefE K W0 te ae) :
    RefF K W (tLc2 wi g tt wi1 g1 tt1 te vs vs1) (fLc2 ai ag xt ai1 ag1 xt1 ae vs vs1) := fun G env st σ H Q q er s l h tE tX => by
  refine hi G env st σ H _ _ er s l h (fun J ds gd st2 G2 H2 p2 s2 wk h2 => ?_) tX
  intro P hP
  have b0 := Bs.start s2 hP
  have l0 := (l.mono p2.le).wipe vs
  have gk : ∀ {ds acc st}, aLc2L gd ag xt ai1 ag1 xt1 ae vs1 (wA vs env) q ds acc st → gdOk gd st := fun {ds acc st} h => by cases ds <;> exact h.1
  let Inv : Nat → Hp → Prop := fun i H' => i ≤ ds.length ∧ ∃ acc G3 st3, Bs K P G2 H2 acc G3 st3 H' ∧ Wk G2 H2 G3 H' ∧ aLc2L gd ag xt ai1 ag1 xt1 ae vs1 (wA vs env) q (ds.drop i) acc st3
  refine ⟨fun i m H' => m = ds.length - i ∧ Inv i H', ⟨ds.length, by omega, Nat.zero_le _, [], G2, st2, b0, b0.po.wk, h2⟩, ?_⟩
  rintro i m H' ⟨rfl, hle, acc, G3, st3, b3, le3, f3⟩
  have s3 := b3.ss
  have k3 := gk f3
  by_cases hlt : i < ds.length
  · refine .inr ⟨wk.go i G3 st3 H' le3 s3 k3 hlt, Inv (i + 1), fun H4 h4 => ⟨ds.length - (i + 1), by omega, rfl, h4⟩, fun x H5 y => ?_⟩
    rw [List.drop_eq_getElem_cons hlt] at f3
    have hd : ds[i]? = some ds[i] := by simp [hlt]
    have turn : ∀ G6, Post G3 H' G6 H5 → SS K G6 st3 H5 → Rep K G6 ds[i] x → g x (wipe σ vs) H5 fun σ2 H2 => wipe σ2 vs = wipe σ vs ∧ tt σ2 H2 fun b H3 =>
        if b = true then wi1 σ2 H3 fun J1 H4 => ∃ W1 : Nat → Nat → Hp → Prop, (∃ m, W1 0 m H4) ∧ ∀ j k H, W1 j k H →
          (J1.stop j H ∧ Inv (i + 1) H) ∨ (J1.go j H ∧ ∃ Nx1 : Hp → Prop, (∀ H', Nx1 H' → ∃ k', k' < k ∧ W1 (j + 1) k' H') ∧ ∀ x H', J1.yld j H x H' → g1 x (wipe σ2 vs1) H' fun σ3 H5 => wipe σ3 vs1 = wipe σ2 vs1 ∧ tt1 σ3 H5 fun b H6 =>
            if b = true then te σ3 H6 fun y H7 => ∃ acc, H7 P = some (.lst acc) ∧ acc.length < sizeLine ∧ Nx1 (upd H7 P (.lst (acc ++ [y]))) else Nx1 H6)
        else Inv (i + 1) H3 := fun G6 p6 s6 rr => by
      have b6 := b3.on p6 s6
      have le6 := le3.on p6
      refine stay_g hg hs s6 (l0.mono le6.le) rr f3.2 fun env7 σ7 hw l7 h7 => ?_
      refine ht G6 env7 st3 σ7 H5 _ _ _ s6 l7 h7 (fun bb st8 G8 H8 p8 s8 h8 => ?_) ThenX.none
      cases bb with
      | false => exact ⟨hlt, acc, G8, st8, b6.on p8 s8, le6.on p8, h8⟩
      | true =>
        refine hi1 G8 env7 st8 σ7 H8 _ _ _ s8 (l7.mono p8.le) h8 (fun J1 ds1 gd1 st9 G9 H9 p9 s9 wk9 h9 => ?_) ThenX.none
        exact lc_walk hg1 hs1 ht1 he ((b6.on p8 s8).on p9 s9) ((l7.mono (p8.trans p9).le).wipe vs1) Wk.refl wk9 h9 (Inv (i + 1)) fun acc' G10 st10 H10 b10 le10 q10 => ⟨hlt, acc', G10, st10, b10, (le6.on (p8.trans p9)).trans le10, q10⟩
    obtain ⟨G6, p6, s6, rr⟩ := wk.yld i G3 st3 H' _ x H5 le3 s3 k3 hd y
    exact turn G6 p6 s6 rr
  · have e : i = ds.length := by omega
    subst e
    rw [List.drop_length] at f3
    exact .inl ⟨wk.stop _ G3 st3 H' le3 s3 k3 rfl, tE _ acc st3 G3 H' (p2.trans b3.po) s3 (b3.own.on p2) f3.2⟩
end AM
set_option Elab.async false
set_option linter.all false
set_option maxRecDepth 100000
set_option maxHeartbeats 4000000
namespace AM
open PySem L2 Evl
/-! ### a def by data -/
abbrev AF := List D → S → (Rs → S → Prop) → QX → Prop
def SpA (K : PySem.W.Frag) (m : AF) : Sp := fun vs H Q E => ∃ G st args q er, SS K G st H ∧ Reps K G args vs ∧ m args st q er ∧
  (∀ v r st2 G2 H2, Post G H G2 H2 → SS K G2 st2 H2 → ResOk K H G2 H2 r v → q r st2 → Q v H2) ∧
  ∀ e c dx st2 G2 H2, Post G H G2 H2 → SS K G2 st2 H2 → ErAt K G2 e c dx → er e st2 → E c dx H2
def Rs.lt (k : Nat) : Rs → Prop
  | .d x => x.lt k
  | .own l => ltL k l
  | .ownD l => ltP k l
/-- how a def is left: the store stays as it is -/
def fnP (np ns : Nat) (b : AS) : AF := fun args st q er => args.length = np ∧ b (args.map .d ++ List.replicate (ns - np) .no) st ⟨fun _ s => q (.d .non) s, q, fun _ _ => False, fun _ _ => False, fun e _ s => er e s⟩
/-- .. its own cells are left away; a list of its own may be handed on -/
def exC (k : Nat) (q : Rs → S → Prop) (r : Rs) (s : S) : Prop := ltS k (s.take k) ∧ ((r.lt k ∧ q r (s.take k)) ∨ ∃ n l, r = .d (.ref n) ∧ k ≤ n ∧ s[n]? = some (.lst l) ∧ ltL k l ∧ q (.own l) (s.take k))
def exD (k : Nat) (q : Rs → S → Prop) (r : Rs) (s : S) : Prop := ltS k (s.take k) ∧ ((r.lt k ∧ q r (s.take k)) ∨ ∃ n l, r = .d (.ref n) ∧ k ≤ n ∧ s[n]? = some (.dic l) ∧ ltP k l ∧ q (.ownD l) (s.take k))
def fnD (np ns : Nat) (b : AS) : AF := fun args st q er => args.length = np ∧ (ltL st.length args → ltS st.length st → b (args.map .d ++ List.replicate (ns - np) .no) st ⟨fun _ s => exD st.length q (.d .non) s, exD st.length q, fun _ _ => False, fun _ _ => False, fun e _ s => e.lt st.length ∧ ltS st.length (s.take st.length) ∧ er e (s.take st.length)⟩)
def fnC (np ns : Nat) (b : AS) : AF := fun args st q er => args.length = np ∧ (ltL st.length args → ltS st.length st → b (args.map .d ++ List.replicate (ns - np) .no) st ⟨fun _ s => exC st.length q (.d .non) s, exC st.length q, fun _ _ => False, fun _ _ => False, fun e _ s => e.lt st.length ∧ ltS st.length (s.take st.length) ∧ er e (s.take st.length)⟩)
theorem get_pad {α : Type} {l : List α} {n i : Nat} {a x : α} (h : (l ++ List.replicate n a)[i]? = some x) : l[i]? = some x ∨ (x = a ∧ l.length ≤ i) := by
  by_cases hi : i < l.length
  · rw [List.getElem?_append_left hi] at h
    exact .inl h
  · rw [List.getElem?_append_right (by omega), List.getElem?_replicate] at h
    split at h
    · exact .inr ⟨(Option.some.inj h).symm, by omega⟩
    · cases h
theorem Reps.sl {K : PySem.W.Frag} {G : Gh} {args : List D} {vs : List V} (r : Reps K G args vs) (n : Nat) : Sl K G (args.map .d ++ List.replicate n .no) (vs.map some ++ List.replicate n none) := by
  refine ⟨by simp [r.length], fun i x h => ?_⟩
  rcases get_pad h with h | ⟨rfl, _⟩
  · rw [List.getElem?_map] at h
    cases hh : args[i]? with
    | none => rw [hh] at h; cases h
    | some d =>
      rw [hh] at h
      cases h
      obtain ⟨v, hv, rv⟩ := r.get hh
      refine ⟨v, ?_, rv⟩
      rw [List.getElem?_append_left (by rw [List.length_map]; exact (List.getElem?_eq_some_iff.mp hv).1), List.getElem?_map, hv]
      rfl
  · trivial
/-! ### contexts -/
theorem takesN0 {X : Cx} : L2N.Takes X (fun _ _ _ _ => False) := fun _ _ x => by
  obtain ⟨_, _, _, _, _, _, _, _, _, _, _, _, _, _, _, _, w⟩ := x
  exact w.elim
structure CxE (X : Cx) (W : WX) (k : Nat) : Prop where
  calm : X.calm = true
  nd : X.N.Nodup
  room : Room k X.A
  takes : L2N.Takes X W
structure CxS (X : Cx) (W : WX) (k : Nat) : Prop extends CxE X W k where
  po : PassesOwn (model X.prog X.w) X.A X.env X.xe
  stk : X.stack = X.env :: X.outer
  frm : X.env.frame = some X.env.locals
theorem CxE.mono {X : Cx} {W : WX} {j k : Nat} (c : CxE X W k) (h : j ≤ k) : CxE X W j := ⟨c.calm, c.nd, c.room.mono h, c.takes⟩
theorem CxS.mono {X : Cx} {W : WX} {j k : Nat} (c : CxS X W k) (h : j ≤ k) : CxS X W j := ⟨c.toCxE.mono h, c.po, c.stk, c.frm⟩
theorem CxE.blk {X : Cx} {W : WX} {k : Nat} (c : CxE X W k) (s : Shared) (H : Hp) (scope : Scope) (ce : Env) (fp : List Addr) : CxE (X.blk s H scope ce fp) W0 k := ⟨c.calm, c.nd, c.room, takesN0⟩
abbrev dE (E : XK) : WX := fun c d _ H => E c d H
/-- a body leads to a promise -/
structure Leads (np ns : Nat) (b : AS) (m : AF) : Prop where
  ar : ∀ args st q er, m args st q er → args.length = np
  run : ∀ {K : PySem.W.Frag} {G : Gh} {st : S} {H : Hp} {args : List D} {q : Rs → S → Prop} {er : QX} {Q : VK} {E : XK} {vs : List V}, SS K G st H → Reps K G args vs → m args st q er →
    (∀ v r st2 G2 H2, Post G H G2 H2 → SS K G2 st2 H2 → ResOk K H G2 H2 r v → q r st2 → Q v H2) → (∀ e c dx st2 G2 H2, Post G H G2 H2 → SS K G2 st2 H2 → ErAt K G2 e c dx → er e st2 → E c dx H2) →
    ∃ k, b (args.map .d ++ List.replicate (ns - np) .no) st k ∧ ThenS K (dE E) G H k { nx := fun _ H' => Q .non H', rt := Q }
theorem leadsP {np ns : Nat} {b : AS} : Leads np ns b (fnP np ns b) := ⟨fun _ _ _ _ h => h.1, fun {K G st H args q er Q E vs} s r m hq he => ⟨_, m.2, fun env' σ' st2 G2 H2 p2 s2 l2 h => hq .non (.d .non) st2 G2 H2 p2 s2 Rep.non h, hq, fun _ _ _ _ _ _ _ _ z => z.elim, fun _ _ _ _ _ _ _ _ z => z.elim, fun e c dx env' σ' st2 G2 H2 p2 s2 l2 ea h => he e c dx st2 G2 H2 p2 s2 ea h⟩⟩
theorem DctAt.cut {K : PySem.W.Frag} {G : Gh} {H : Hp} {p : Addr} {l : List (D × D)} {as : List Addr} (e : as <+: G.as) (h : DctAt K G H p l) (hl : ltP as.length l) : DctAt K ⟨G.g, as⟩ H p l := by
  obtain ⟨kvs, h, r⟩ := h
  exact ⟨kvs, h, r.cut e hl⟩
theorem leadsC {np ns : Nat} {b : AS} : Leads np ns b (fnC np ns b) := ⟨fun _ _ _ _ h => h.1, fun {K G st H args q er Q E vs} s r m hq he => by
  have ka : G.as.length = st.length := s.len
  have la : ltL st.length args := by rw [← ka]; exact r.lt
  have rt : ∀ (v : V) (r : Rs) (st2 : S) (G2 : Gh) (H2 : Hp), Post G H G2 H2 → SS K G2 st2 H2 → ResOk K H G2 H2 r v → exC st.length q r st2 → Q v H2 := fun v r st2 G2 H2 p2 s2 r2 h => by
    obtain ⟨h1, h⟩ := h
    rw [← ka] at h1 h
    have s3 := s2.cut p2.le.a h1
    have p3 := p2.cut
    rcases h with ⟨h2, h⟩ | ⟨n, l, rfl, hn, e, hl, h⟩
    · refine hq v r _ _ H2 p3 s3 ?_ h
      cases r with
      | d x => exact Rep.cut p2.le.a r2 h2
      | own l =>
        obtain ⟨p, vs, e1, e2, e3, e4, e5, e6⟩ := r2
        exact ⟨p, vs, e1, e2, e3, fun z => e4 (p2.le.a.subset z), e5, e6.cut p2.le.a h2⟩
      | ownD l =>
        obtain ⟨p, e1, e2, e3, e4, e5⟩ := r2
        exact ⟨p, e1, e2.cut p2.le.a h2, e3, fun z => e4 (p2.le.a.subset z), e5⟩
    · refine hq v (.own l) _ _ H2 p3 s3 ?_ h
      cases r2 with
      | ref ep =>
        rename_i p
        obtain ⟨vs, gp, hp, rs⟩ := s2.cell n _ p e ep
        have np : p ∉ G.as := fun z => by
          obtain ⟨i, ei⟩ := List.mem_iff_getElem?.mp z
          have hi := (List.getElem?_eq_some_iff.mp ei).1
          have := (List.getElem?_inj (List.getElem?_eq_some_iff.mp ep).1 s2.nd).mp (ep.trans (pre_get p2.le.a ei).symm)
          omega
        refine ⟨p, vs, rfl, hp, gp, np, ?_, rs.cut p2.le.a hl⟩
        rcases p2.o p (List.mem_of_getElem? ep) with z | z
        · exact absurd z np
        · exact z
  refine ⟨_, m.2 la s.wf, fun env' σ' st2 G2 H2 p2 s2 l2 h => rt .non (.d .non) st2 G2 H2 p2 s2 Rep.non h, rt, fun _ _ _ _ _ _ _ _ z => z.elim, fun _ _ _ _ _ _ _ _ z => z.elim, fun e c dx env' σ' st2 G2 H2 p2 s2 l2 ea h => ?_⟩
  obtain ⟨h1, h2, h⟩ := h
  rw [← ka] at h1 h2 h
  exact he e c dx _ _ H2 p2.cut (s2.cut p2.le.a h2) (ea.cut p2.le.a h1) h⟩
theorem leadsD {np ns : Nat} {b : AS} : Leads np ns b (fnD np ns b) := ⟨fun _ _ _ _ h => h.1, fun {K G st H args q er Q E vs} s r m hq he => by
  have ka : G.as.length = st.length := s.len
  have la : ltL st.length args := by rw [← ka]; exact r.lt
  have rt : ∀ (v : V) (r : Rs) (st2 : S) (G2 : Gh) (H2 : Hp), Post G H G2 H2 → SS K G2 st2 H2 → ResOk K H G2 H2 r v → exD st.length q r st2 → Q v H2 := fun v r st2 G2 H2 p2 s2 r2 h => by
    obtain ⟨h1, h⟩ := h
    rw [← ka] at h1 h
    have s3 := s2.cut p2.le.a h1
    have p3 := p2.cut
    rcases h with ⟨h2, h⟩ | ⟨n, l, rfl, hn, e, hl, h⟩
    · refine hq v r _ _ H2 p3 s3 ?_ h
      cases r with
      | d x => exact Rep.cut p2.le.a r2 h2
      | own l =>
        obtain ⟨p, vs, e1, e2, e3, e4, e5, e6⟩ := r2
        exact ⟨p, vs, e1, e2, e3, fun z => e4 (p2.le.a.subset z), e5, e6.cut p2.le.a h2⟩
      | ownD l =>
        obtain ⟨p, e1, e2, e3, e4, e5⟩ := r2
        exact ⟨p, e1, e2.cut p2.le.a h2, e3, fun z => e4 (p2.le.a.subset z), e5⟩
    · refine hq v (.ownD l) _ _ H2 p3 s3 ?_ h
      cases r2 with
      | ref ep =>
        rename_i p
        obtain ⟨gp, hp⟩ := s2.cell n _ p e ep
        have np : p ∉ G.as := fun z => by
          obtain ⟨i, ei⟩ := List.mem_iff_getElem?.mp z
          have hi := (List.getElem?_eq_some_iff.mp ei).1
          have := (List.getElem?_inj (List.getElem?_eq_some_iff.mp ep).1 s2.nd).mp (ep.trans (pre_get p2.le.a ei).symm)
          omega
        refine ⟨p, rfl, DctAt.cut p2.le.a hp hl, gp, np, ?_⟩
        rcases p2.o p (List.mem_of_getElem? ep) with z | z
        · exact absurd z np
        · exact z
  refine ⟨_, m.2 la s.wf, fun env' σ' st2 G2 H2 p2 s2 l2 h => rt .non (.d .non) st2 G2 H2 p2 s2 Rep.non h, rt, fun _ _ _ _ _ _ _ _ z => z.elim, fun _ _ _ _ _ _ _ _ z => z.elim, fun e c dx env' σ' st2 G2 H2 p2 s2 l2 ea h => ?_⟩
  obtain ⟨h1, h2, h⟩ := h
  rw [← ka] at h1 h2 h
  exact he e c dx _ _ H2 p2.cut (s2.cut p2.le.a h2) (ea.cut p2.le.a h1) h⟩
/-- THE RULE for a def -/
theorem fn_ok {P : Program} {w : World} {K : PySem.W.Frag} {mg : Str → Option Value} {base : Heap} {x qual : Str} {params : Arguments} {body : List Stmt} {scope : Scope} {dvs : List V} {kws : List (Str × V)} {f : Addr} {fd : FuncData} {N ps : List Str} {k : Nat} {as : AS} {m : AF}
    (F : FunD K x qual params body scope dvs kws f fd) (S : FnScope N ps scope) (L : Leads ps.length N.length as m)
    (hb : ∀ (cdv : Value) (A : Around) (outer : List Env) (s : Shared) (H : Hp) (E : XK), CxS (cxOf (L2N.CX P w) P w K mg base N qual scope f cdv A outer s H E) (dE E) k → AXB (cxOf (L2N.CX P w) P w K mg base N qual scope f cdv A outer s H E) (dE E) body as) : FnOk P w K mg base (L2N.CX P w) (k + 1) f fd ps (SpA K m) := by
  refine F.ok S (fun vs H Q E h => ?_) (fun cdv A outer s H vs Q E hr h => ?_)
  · obtain ⟨G, st, args, q, er, ss, r, m, _⟩ := h
    rw [← r.length]
    exact L.ar _ _ _ _ m
  · obtain ⟨G, st, args, q, er, ss, r, m, hq, he⟩ := h
    obtain ⟨ts, p1, p2⟩ := hb cdv A outer s H E ⟨⟨rfl, S.nd, hr, L2N.takes_of rfl rfl rfl rfl⟩, passes_of rfl, rfl, rfl⟩
    refine ⟨ts, p1, ?_⟩
    obtain ⟨kk, hk, tk⟩ := L.run ss r m hq he
    have e : L2.start N vs = vs.map some ++ List.replicate (N.length - ps.length) none := by unfold L2.start; rw [← r.length, L.ar _ _ _ _ m]
    rw [e]
    exact p2 G _ st _ H _ kk ss (r.sl _) hk tk
/-! ### a call -/
def aCall (m : AF) (args : AEs) (dd : List D) : AE := fun env st q er => args env st (fun ds s1 => m (ds ++ dd) s1 (fun r s2 => match r with
  | .d d => q d s2
  | .own l => q (.lst l) s2
  | .ownD l => q (.dic l) s2) er) er
/-- .. whose list nobody else holds -/
def fCall (m : AF) (args : AEs) (dd : List D) : AFr := fun env st q er => args env st (fun ds s1 => m (ds ++ dd) s1 (fun r s2 => match r with
  | .own l => q l s2
  | _ => False) er) er
/-- a call whose dict nobody else holds -/
def fdCall (m : AF) (args : AEs) (dd : List D) : List A → S → (List (D × D) → S → Prop) → QX → Prop := fun env st q er => args env st (fun ds s1 => m (ds ++ dd) s1 (fun r s2 => match r with
  | .ownD l => q l s2
  | _ => False) er) er
section
variable {K : PySem.W.Frag} {W : WX}
theorem refE_call {m : AF} {ta : TA} {args : AEs} {dd : List D} {dvs : List V} (ha : RefA K W ta args) (hd : ∀ G, Reps K G dd dvs) : RefE K W (tCallSD (SpA K m) dvs (fun σ c d H => W c d σ H) ta) (aCall m args dd) := fun G env st σ H Q q er s l h tE tX => by
  refine ha G env st σ H _ _ er s l h (fun vs ds st2 G2 H2 p2 s2 a2 h2 => ?_) tX
  refine ⟨G2, st2, _, _, er, s2, a2.append (hd G2), h2, fun v r st3 G3 H3 p3 s3 r3 h3 => ?_, fun e c dx st3 G3 H3 p3 s3 ea h3 => tX e c dx st3 G3 H3 (p2.trans p3) s3 ea h3⟩
  cases r with
  | d x => exact tE v x st3 G3 H3 (p2.trans p3) s3 r3 h3
  | own l =>
    obtain ⟨G4, s4, p4, r4⟩ := own_frz s3 p3 r3
    exact tE v _ st3 G4 H3 (p2.trans p4) s4 r4 h3
  | ownD l =>
    obtain ⟨G4, s4, p4, r4⟩ := ownd_frz s3 p3 r3
    exact tE v _ st3 G4 H3 (p2.trans p4) s4 r4 h3
theorem refF_call {m : AF} {ta : TA} {args : AEs} {dd : List D} {dvs : List V} (ha : RefA K W ta args) (hd : ∀ G, Reps K G dd dvs) : RefF K W (tCallSD (SpA K m) dvs (fun σ c d H => W c d σ H) ta) (fCall m args dd) := fun G env st σ H Q q er s l h tE tX => by
  refine ha G env st σ H _ _ er s l h (fun vs ds st2 G2 H2 p2 s2 a2 h2 => ?_) tX
  refine ⟨G2, st2, _, _, er, s2, a2.append (hd G2), h2, fun v r st3 G3 H3 p3 s3 r3 h3 => ?_, fun e c dx st3 G3 H3 p3 s3 ea h3 => tX e c dx st3 G3 H3 (p2.trans p3) s3 ea h3⟩
  cases r with
  | d x => exact h3.elim
  | ownD l => exact h3.elim
  | own l => exact tE v l st3 G3 H3 (p2.trans p3) s3 (r3.on p2) h3
end
end AM
set_option Elab.async false
set_option linter.all false
set_option maxRecDepth 100000
set_option maxHeartbeats 4000000
namespace AM
open PySem L2 Evl
/-! ### one reading for a piece of data's reading -/
def rdE (K : PySem.W.Frag) (W : WX) (ae : AE) : TE := fun σ H Q => ∃ G env st q er, SS K G st H ∧ Sl K G env σ ∧ ae env st q er ∧ ThenE K G H q Q ∧ ThenX K W G H σ er
def rdT (K : PySem.W.Frag) (W : WX) (xt : AT) : TT := fun σ H Q => ∃ G env st q er, SS K G st H ∧ Sl K G env σ ∧ xt env st q er ∧ ThenT K G H q Q ∧ ThenX K W G H σ er
def rdS (K : PySem.W.Frag) (W : WX) (as : AS) : TS := fun D σ H => ∃ G env st k, SS K G st H ∧ Sl K G env σ ∧ as env st k ∧ ThenS K W G H k D
def rdI (K : PySem.W.Frag) (W : WX) (ai : AI) : TI := fun σ H R => ∃ G env st q er, SS K G st H ∧ Sl K G env σ ∧ ai env st q er ∧ (∀ J ds gd st2 G2 H2, Post G H G2 H2 → SS K G2 st2 H2 → Walks K G2 H2 J ds gd → q ds gd st2 → R J H2) ∧ ThenX K W G H σ er
def rdG (K : PySem.W.Frag) (vs : List Nat) (ag : AG) : TG := fun v σ H Q => ∃ G env st d q, SS K G st H ∧ Sl K G env σ ∧ Rep K G d v ∧ ag d env st q ∧ ∀ env' σ', Sl K G env' σ' → wipe σ' vs = wipe σ vs → q env' → Q σ' H
theorem AX.pe {X : Cx} {W : WX} {e : Expr} {ae : AE} (h : AX X W e ae) : PE X e (rdE X.K W ae) := by
  obtain ⟨te, p, r⟩ := h
  exact ⟨fun pins s σ H Q I ⟨G, env, st, q, er, sa, sl, a, tE, tX⟩ => p.run pins s σ H Q I (r G env st σ H Q q er sa sl a tE tX)⟩
theorem rdE_ref {K : PySem.W.Frag} {W : WX} {ae : AE} : RefE K W (rdE K W ae) ae := fun G env st σ H Q q er s l a tE tX => ⟨G, env, st, q, er, s, l, a, tE, tX⟩
theorem AXI.pi {X : Cx} {W : WX} {tg e : Expr} {ai : AI} (h : AXI X W tg e ai) : PI X tg e (rdI X.K W ai) := by
  obtain ⟨te, p, r⟩ := h
  exact ⟨fun pins s σ H Q I ⟨G, env, st, q, er, sa, sl, a, tE, tX⟩ => p.run pins s σ H Q I (r G env st σ H Q q er sa sl a tE tX)⟩
theorem rdI_ref {K : PySem.W.Frag} {W : WX} {ai : AI} : RefI K W (rdI K W ai) ai := fun G env st σ H Q q er s l a tE tX => ⟨G, env, st, q, er, s, l, a, tE, tX⟩
theorem AXB.ps {X : Cx} {W : WX} {b : List Stmt} {as : AS} (h : AXB X W b as) : PSs X b (rdS X.K W as) := by
  obtain ⟨ts, p, r⟩ := h
  exact ⟨fun pins s σ H D I ⟨G, env, st, k, sa, sl, a, t⟩ => p.run pins s σ H D I (r G env st σ H D k sa sl a t)⟩
theorem rdS_ref {K : PySem.W.Frag} {W : WX} {as : AS} : RefS K W (rdS K W as) as := fun G env st σ H D k s l a t => ⟨G, env, st, k, s, l, a, t⟩
def AXTs (X : Cx) (W : WX) (es : List Expr) (xt : AT) : Prop := ∃ tt, PTs X es tt ∧ RefT X.K W tt xt
theorem AXTs.pts {X : Cx} {W : WX} {e : List Expr} {xt : AT} (h : AXTs X W e xt) : PTs X e (rdT X.K W xt) := by
  obtain ⟨te, p, r⟩ := h
  exact ⟨fun pins s σ H Q I ⟨G, env, st, q, er, sa, sl, a, tE, tX⟩ => p.run pins s σ H Q I (r G env st σ H Q q er sa sl a tE tX)⟩
theorem rdT_ref {K : PySem.W.Frag} {W : WX} {xt : AT} : RefT K W (rdT K W xt) xt := fun G env st σ H Q q er s l a tE tX => ⟨G, env, st, q, er, s, l, a, tE, tX⟩
def aYes : AT := fun _ st q _ => q true st
theorem axts_nil {X : Cx} {W : WX} : AXTs X W [] aYes := ⟨_, pts_nil, fun G env st σ H Q q er s l h tT _ => tT true st G H Post.refl s h⟩
theorem axts_one {X : Cx} {W : WX} {e : Expr} {xt : AT} (h : AXT X W e xt) : AXTs X W [e] xt := by
  obtain ⟨te, p, r⟩ := h
  exact ⟨_, pts_one p, r⟩
/-- targets within a comprehension -/
def AXGc (X : Cx) (vs : List Nat) (e : Expr) (ag : AG) : Prop := ∃ g, PG X e g ∧ RefG X.K g ag ∧ Stays vs g
def AXGcs (X : Cx) (vs : List Nat) (es : List Expr) (ag : AGs) : Prop := ∃ g, PGs X es g ∧ RefGs X.K g ag ∧ Stayss vs g
theorem AXGc.pg {X : Cx} {vs : List Nat} {e : Expr} {ag : AG} (h : AXGc X vs e ag) : PG X e (rdG X.K vs ag) := by
  obtain ⟨g, p, r, st⟩ := h
  refine ⟨fun pins s σ H v u Q I rv ⟨G, env, sto, d, q, sa, sl, rd, a, t⟩ => p.run pins s σ H v u Q I rv ?_⟩
  exact st v σ H (fun σ' H' => ∃ env', H' = H ∧ Sl X.K G env' σ' ∧ q env') Q σ rfl (fun σ2 H2 hw ⟨env', e2, l2, h2⟩ => by rw [e2]; exact t env' σ2 l2 hw h2) (r G env sto σ H d v _ q sa sl rd a fun env' σ' l2 h2 => ⟨env', rfl, l2, h2⟩)
theorem rdG_ref {K : PySem.W.Frag} {vs : List Nat} {ag : AG} : RefG K (rdG K vs ag) ag := fun G env st σ H d v Q q s l r a t => ⟨G, env, st, d, q, s, l, r, a, fun env' σ' l2 _ h2 => t env' σ' l2 h2⟩
theorem rdG_stays {K : PySem.W.Frag} {vs : List Nat} {ag : AG} : Stays vs (rdG K vs ag) := fun v σ H Q Q' σ0 e k ⟨G, env, st, d, q, s, l, r, a, t⟩ => ⟨G, env, st, d, q, s, l, r, a, fun env' σ' l2 hw h2 => k σ' H (hw.trans e) (t env' σ' l2 hw h2)⟩
section
variable {X : Cx} {vs : List Nat} {pos : Pos} {e : Expr} {es : List Expr} {ag : AG} {ags : AGs}
theorem axgc_name {i : Nat} {x : Str} (hN : X.N.Nodup) (hm : i ∈ vs := by decide) (hi : X.N[i]? = some x := by rfl) (hx : Loc X.env.scope x := by first | exact Or.inl rfl | exact Or.inr rfl) (hf : X.fn x = true ∨ X.env.scope.names.lookup x = some .local := by first | exact .inl rfl | exact .inr rfl) : AXGc X vs (.Name x pos) (agName i) := ⟨_, pg_name hN hi hx hf, refG_name i, stays_name hm⟩
theorem axgcs_nil : AXGcs X vs [] agNil := ⟨_, pgs_nil, refGs_nil, stays_nil⟩
theorem axgcs_cons (h1 : AXGc X vs e ag) (h2 : AXGcs X vs es ags) (hs : (assignEach (e :: es) X.env).map (·.2) = assign e X.env :: (assignEach es X.env).map (·.2) := by rfl) : AXGcs X vs (e :: es) (agCons ag ags) := by
  obtain ⟨g, p, r, st⟩ := h1
  obtain ⟨g', p', r', st'⟩ := h2
  exact ⟨_, pgs_cons p p' hs, refGs_cons r r', stays_cons st st'⟩
theorem axgc_tup {k n : Nat} (hc : X.calm = true) (h : AXGcs X vs es ags) (hn : (assignEach es X.env).length = n := by rfl) (hst : (assignEach es X.env).findIdx? (·.1) = none := by rfl) : AXGc X vs (.Tuple es k pos) (agTup n ags) := by
  obtain ⟨g, p, r, st⟩ := h
  exact ⟨_, pg_tup hc p hn hst, refG_tup r, stays_tup st⟩
theorem axg_name {i : Nat} {x : Str} (hN : X.N.Nodup) (hi : X.N[i]? = some x := by rfl) (hx : Loc X.env.scope x := by first | exact Or.inl rfl | exact Or.inr rfl) (hf : X.fn x = true ∨ X.env.scope.names.lookup x = some .local := by first | exact .inl rfl | exact .inr rfl) : AXG X (.Name x pos) (agName i) := ⟨_, pg_name hN hi hx hf, refG_name i⟩
theorem axgs_nil : AXGs X [] agNil := ⟨_, pgs_nil, refGs_nil⟩
theorem axgs_cons (h1 : AXG X e ag) (h2 : AXGs X es ags) (hs : (assignEach (e :: es) X.env).map (·.2) = assign e X.env :: (assignEach es X.env).map (·.2) := by rfl) : AXGs X (e :: es) (agCons ag ags) := by
  obtain ⟨g, p, r⟩ := h1
  obtain ⟨g', p', r'⟩ := h2
  exact ⟨_, pgs_cons p p' hs, refGs_cons r r'⟩
theorem axg_tup {k n : Nat} (hc : X.calm = true) (h : AXGs X es ags) (hn : (assignEach es X.env).length = n := by rfl) (hst : (assignEach es X.env).findIdx? (·.1) = none := by rfl) : AXG X (.Tuple es k pos) (agTup n ags) := by
  obtain ⟨g, p, r⟩ := h
  exact ⟨_, pg_tup hc p hn hst, refG_tup r⟩
end
/-! ### statements -/
section
variable {X : Cx} {W : WX} {k : Nat} {pos pos' : Pos} {e c : Expr} {ae : AE} {xt : AT} {st : Stmt} {sts a b : List Stmt} {as bs : AS}
theorem axb_nil : AXB X W [] sNext := ⟨_, pss_nil, refS_next⟩
theorem axb_one (h : AXS X W st as) : AXB X W [st] as := by
  obtain ⟨t, p, r⟩ := h
  exact ⟨_, pss_one p, r⟩
theorem axb_cons (h : AXS X W st as) (h2 : AXB X W sts bs) : AXB X W (st :: sts) (sSeq as bs) := by
  obtain ⟨t, p, r⟩ := h
  obtain ⟨t2, p2, r2⟩ := h2
  exact ⟨_, pss_cons p p2, refS_seq r r2⟩
theorem axs_pass : AXS X W (.Pass pos) sNext := ⟨_, ps_pass, refS_next⟩
theorem axs_break : AXS X W (.Break pos) sBreak := ⟨_, ps_break, refS_break⟩
theorem axs_cont : AXS X W (.Continue pos) sCont := ⟨_, ps_continue, refS_cont⟩
theorem axs_expr (h : AX X W e ae) (hs : swapsWith e none pos.line X.env = pure false := by rfl) : AXS X W (.Expr e pos) (sDrop ae) := by
  obtain ⟨t, p, r⟩ := h
  exact ⟨_, ps_expr p hs, refS_drop r⟩
theorem axs_ret (h : AX X W e ae) : AXS X W (.Return (some e) pos) (sRet ae) := by
  obtain ⟨t, p, r⟩ := h
  exact ⟨_, ps_ret p, refS_ret r⟩
theorem axs_retN : AXS X W (.Return none pos) sRetN := ⟨_, ps_retN, refS_retN⟩
theorem axs_if (hc : AXT X W c xt) (ha : AXB X W a as) (hb : AXB X W b bs) : AXS X W (.If c a b pos) (sIf xt as bs) := by
  obtain ⟨t, p, r⟩ := hc
  obtain ⟨t1, p1, r1⟩ := ha
  obtain ⟨t2, p2, r2⟩ := hb
  exact ⟨_, ps_if p p1 p2, refS_if r r1 r2⟩
theorem axs_set {i : Nat} {x : Str} (hN : X.N.Nodup) (h : AX X W e ae) (hi : X.N[i]? = some x := by rfl) (hx : Loc X.env.scope x := by first | exact Or.inl rfl | exact Or.inr rfl) (hs : swapsWith e (some (.Name x pos')) pos.line X.env = pure false := by rfl) (hf : X.fn x = true ∨ X.env.scope.names.lookup x = some .local := by first | exact .inl rfl | exact .inr rfl) :
    AXS X W (.Assign [.Name x pos'] e pos) (sAsg ae (agName i)) := by
  obtain ⟨t, p, r⟩ := h
  exact ⟨_, ps_set hN hi hx p hs hf, refS_asg r (refG_name i)⟩
theorem axs_asg {tg : Expr} {ag : AG} (h : AX X W e ae) (hg : AXG X tg ag) (hs : swapsWithSole [tg] e pos.line X.env = pure false := by rfl) (hw : swappedStores [tg] e X.env = pure none := by rfl) (h1 : (assignEach [tg] X.env).map (·.2) = [assign tg X.env] := by rfl) : AXS X W (.Assign [tg] e pos) (sAsg ae ag) := by
  obtain ⟨t, p, r⟩ := h
  obtain ⟨g, p1, r1⟩ := hg
  exact ⟨_, ps_asg p p1 hs hw h1, refS_asg r r1⟩
theorem axs_par {i j : Nat} {x y : Str} {e1 e2 : Expr} {aa : AEs} {px py pt pt2 : Pos} {kt k2 : Nat} (hc : X.calm = true) (hN : X.N.Nodup) (ha : AXA X W [e1, e2] aa) (hij : i ≠ j := by decide) (hi : X.N[i]? = some x := by rfl) (hj : X.N[j]? = some y := by rfl) (hx : X.env.scope.names.lookup x = some .local := by rfl) (hy : X.env.scope.names.lookup y = some .local := by rfl)
    (hw : swappedStores [.Tuple [.Name x px, .Name y py] kt pt] (.Tuple [e1, e2] k2 pt2) X.env = pure (some [x, y]) := by rfl) (hs : swapsWithSole [.Tuple [.Name x px, .Name y py] kt pt] (.Tuple [e1, e2] k2 pt2) pos.line X.env = pure false := by rfl) :
    AXS X W (.Assign [.Tuple [.Name x px, .Name y py] kt pt] (.Tuple [e1, e2] k2 pt2) pos) (sPar i j aa) := by
  obtain ⟨t, p, r⟩ := ha
  exact ⟨_, ps_par hc hN hi hj hij hx hy p hw hs, refS_par r⟩
theorem axs_aug {i : Nat} {x : Str} {op : Operator} {ti : TIp} {f : O2} (hN : X.N.Nodup) (ho : PIp X op ti ∧ RefO X.K ti f) (h : AX X W e ae) (hi : X.N[i]? = some x := by rfl) (hx : Loc X.env.scope x := by first | exact Or.inl rfl | exact Or.inr rfl) (hf : X.fn x = true ∨ X.env.scope.names.lookup x = some .local := by first | exact .inl rfl | exact .inr rfl) :
    AXS X W (.AugAssign (.Name x pos') op e pos) (sAug i f ae) := by
  obtain ⟨t, p, r⟩ := h
  exact ⟨_, ps_aug hN hi hx p ho.1 hf, refS_aug r ho.2⟩
theorem axs_for {tg iter : Expr} {ai : AI} {ag : AG} (C : CxS X W k) (hi : AXI X W tg iter ai) (hg : AXG X tg ag) (hb : AXB X W b bs) (hs : ∀ x, foldedSetIterable iter X.env x = pure x := by intro _; rfl) : AXS X W (.For tg iter b [] pos) (sFor ai ag bs) := by
  obtain ⟨t, p, r⟩ := hi
  obtain ⟨g, p1, r1⟩ := hg
  obtain ⟨t2, p2, r2⟩ := hb
  exact ⟨_, ps_for C.po C.calm p p1 p2 hs, refS_for r r1 r2⟩
theorem axs_while (C : CxS X W k) (hc : AXT X W c xt) (hb : AXB X W b bs) : AXS X W (.While c b [] pos) (sWhile xt bs) := by
  obtain ⟨t, p, r⟩ := hc
  obtain ⟨t2, p2, r2⟩ := hb
  exact ⟨_, ps_while C.po p p2, refS_while r r2⟩
end
/-! ### fresh lists -/
/-- x = a fresh list: a cell -/
def sCell (f : AFr) (i : Nat) : AS := fun env st k => f env st (fun l s1 => k.nx (env.set i (.d (.ref s1.length))) (s1 ++ [.lst l])) (fun e s1 => k.er e env s1)
/-- return a fresh list -/
def sRetF (f : AFr) : AS := fun env st k => f env st (fun l s1 => k.rt (.own l) s1) (fun e s1 => k.er e env s1)
theorem refS_cell {K : PySem.W.Frag} {W : WX} {te : TE} {af : AFr} {i : Nat} (h : RefF K W te af) : RefS K W (tAsg te (gName i)) (sCell af i) := fun G env st σ H D k s l a t =>
  h G env st σ H _ _ _ s l a (fun v ds st2 G2 H2 p2 s2 r2 h2 => by
    obtain ⟨G3, s3, p3, r3⟩ := own_cell s2 p2 r2
    exact t.nx _ _ _ G3 H2 p3 s3 ((l.mono p3.le).set i r3) h2) (t.x l)
theorem refS_retF {K : PySem.W.Frag} {W : WX} {te : TE} {af : AFr} (h : RefF K W te af) : RefS K W (tRet te) (sRetF af) := fun G env st σ H D k s l a t =>
  h G env st σ H _ _ _ s l a (fun v ds st2 G2 H2 p2 s2 r2 h2 => t.rt v (.own ds) st2 G2 H2 p2 s2 r2 h2) (t.x l)
def fLst (as : AEs) : AFr := fun env st q er => as env st (fun xs s1 => xs.length ≤ 100000 ∧ q xs s1) er
theorem refF_lst {K : PySem.W.Frag} {W : WX} {tr : TA} {ar : AEs} (hr : RefA K W tr ar) : RefF K W (tLst tr) (fLst ar) := fun G env st σ H Q q er s l h tE tX =>
  hr G env st σ H _ _ er s l h (fun vs ds st1 G1 H1 p1 s1 r1 h1 => ⟨sz_of (by rw [← r1.length]; exact h1.1), fun p hp => by
    obtain ⟨s2, p2, np, gp⟩ := s1.room (o := .lst vs) hp
    refine tE _ ds st1 _ _ (p1.trans p2) s2 (ResOk.on p1 ⟨p, vs, rfl, upd_same, gp, np, hp, r1⟩) h1.2⟩) tX
def fIf (t : AT) (a b : AFr) : AFr := fun env st q er => t env st (fun c s1 => if c = true then a env s1 q er else b env s1 q er) er
theorem ThenF.on {K : PySem.W.Frag} {G G2 : Gh} {H H2 : Hp} {q : List D → S → Prop} {Q : VK} (t : ThenF K G H q Q) (p : Post G H G2 H2) : ThenF K G2 H2 q Q := fun v d st3 G3 H3 p2 s3 r3 => t v d st3 G3 H3 (p.trans p2) s3 (r3.on p)
theorem refF_if {K : PySem.W.Frag} {W : WX} {t : TT} {xt : AT} {ta tb : TE} {aa ab : AFr} (ht : RefT K W t xt) (ha : RefF K W ta aa) (hb : RefF K W tb ab) : RefF K W (tIf t ta tb) (fIf xt aa ab) := fun G env st σ H Q q er s l h tE tX => by
  refine ht G env st σ H _ _ er s l h (fun b st1 G1 H1 p1 s1 h1 => ?_) tX
  cases b with
  | true => exact ha G1 env st1 σ H1 Q q er s1 (l.mono p1.le) h1 (tE.on p1) (tX.on p1)
  | false => exact hb G1 env st1 σ H1 Q q er s1 (l.mono p1.le) h1 (tE.on p1) (tX.on p1)
section
variable {X : Cx} {W : WX} {k : Nat} {pos pos' : Pos} {e c a b : Expr} {es : List Expr} {ae : AE} {xt : AT} {af bf : AFr} {ar : AEs}
theorem axf_e (h : AXF X W e af) : AX X W e (aFr af) := by
  obtain ⟨t, p, r⟩ := h
  exact ⟨_, p, r.e⟩
theorem axf_lst (hr : AXA X W es ar) : AXF X W (.List es pos) (fLst ar) := by
  obtain ⟨t, p, r⟩ := hr
  exact ⟨_, pe_lst p, refF_lst r⟩
theorem axf_if (hc : AXT X W c xt) (ha : AXF X W a af) (hb : AXF X W b bf) : AXF X W (.IfExp c a b pos) (fIf xt af bf) := by
  obtain ⟨tc, pc, rc⟩ := hc
  obtain ⟨ta, pa, ra⟩ := ha
  obtain ⟨tb, pb, rb⟩ := hb
  exact ⟨_, pe_ifExp pc pa pb, refF_if rc ra rb⟩
theorem axs_cell {i : Nat} {x : Str} (hN : X.N.Nodup) (h : AXF X W e af) (hi : X.N[i]? = some x := by rfl) (hx : Loc X.env.scope x := by first | exact Or.inl rfl | exact Or.inr rfl) (hs : swapsWith e (some (.Name x pos')) pos.line X.env = pure false := by rfl) (hf : X.fn x = true ∨ X.env.scope.names.lookup x = some .local := by first | exact .inl rfl | exact .inr rfl) :
    AXS X W (.Assign [.Name x pos'] e pos) (sCell af i) := by
  obtain ⟨t, p, r⟩ := h
  exact ⟨_, ps_set hN hi hx p hs hf, refS_cell r⟩
theorem axs_retF (h : AXF X W e af) : AXS X W (.Return (some e) pos) (sRetF af) := by
  obtain ⟨t, p, r⟩ := h
  exact ⟨_, ps_ret p, refS_retF r⟩
end
/-! ### comprehensions -/
section
variable {X : Cx} {W : WX} {k : Nat} {pos spos : Pos} {elt tg iter tg1 iter1 : Expr} {ifs ifs1 : List Expr} {scope : Scope} {own : List (Str × Nat)} {ai ai1 : AI} {ag ag1 : AG} {xt xt1 : AT} {ae : AE}
theorem axf_lc (own : List (Str × Nat)) (C : CxE X W k) (ok : BlkOk X.N X.env.scope scope own) (hi : AXI X W tg iter ai)
    (hg : ∀ (s : Shared) (H : Hp) (C : Addr) (cl : List (Str × Addr)) (fp : List Addr), AXGc (X.blk s H scope (compEnvC scope cl C X.env) fp) (own.map (·.2)) tg ag) (ht : ∀ (s : Shared) (H : Hp) (C : Addr) (cl : List (Str × Addr)) (fp : List Addr), AXTs (X.blk s H scope (compEnvC scope cl C X.env) fp) W0 ifs xt)
    (he : ∀ (s : Shared) (H : Hp) (C : Addr) (cl : List (Str × Addr)) (fp : List Addr), AX (X.blk s H scope (compEnvC scope cl C X.env) fp) W0 elt ae) (hs : ∀ x, foldedSetIterable iter X.env x = pure x := by intro _; rfl) :
    AXF X W (.ListComp elt [⟨tg, iter, ifs, 0⟩] scope pos) (fLc ai ag xt ae (own.map (·.2))) := by
  obtain ⟨t, p, r⟩ := hi
  exact ⟨_, pe_lc C.calm C.nd p ok (fun s H C cl fp => (hg s H C cl fp).pg) (fun s H C cl fp => (ht s H C cl fp).pts) (fun s H C cl fp => (he s H C cl fp).pe) hs, refF_lc r rdG_ref rdG_stays rdT_ref rdE_ref⟩
/-- y = [..]: a frozen list, a cell -/
theorem axs_setLc (own : List (Str × Nat)) {i : Nat} {y : Str} {py : Pos} (C : CxE X W k) (ok : BlkOk X.N X.env.scope scope own) (hi : AXI X W tg iter ai)
    (hg : ∀ (s : Shared) (H : Hp) (C : Addr) (cl : List (Str × Addr)) (fp : List Addr), AXGc (X.blk s H scope (compEnvC scope cl C X.env) fp) (own.map (·.2)) tg ag) (ht : ∀ (s : Shared) (H : Hp) (C : Addr) (cl : List (Str × Addr)) (fp : List Addr), AXTs (X.blk s H scope (compEnvC scope cl C X.env) fp) W0 ifs xt)
    (he : ∀ (s : Shared) (H : Hp) (C : Addr) (cl : List (Str × Addr)) (fp : List Addr), AX (X.blk s H scope (compEnvC scope cl C X.env) fp) W0 elt ae)
    (hsw : swapsWith (.ListComp elt [⟨tg, iter, ifs, 0⟩] scope pos) (some (.Name y py)) spos.line X.env = pure true := by exact sw_true rfl rfl rfl (by decide +kernel)) (hy : X.N[i]? = some y := by rfl) (hyl : X.env.scope.names.lookup y = some .local := by rfl) (hs : ∀ x, foldedSetIterable iter X.env x = pure x := by intro _; rfl) :
    AXS X W (.Assign [.Name y py] (.ListComp elt [⟨tg, iter, ifs, 0⟩] scope pos) spos) (sAsg (aFr (fLc ai ag xt ae (own.map (·.2)))) (agName i)) ∧ AXS X W (.Assign [.Name y py] (.ListComp elt [⟨tg, iter, ifs, 0⟩] scope pos) spos) (sCell (fLc ai ag xt ae (own.map (·.2))) i) := by
  obtain ⟨t, p, r⟩ := hi
  have q := ps_setLc (i := i) (g := rdG X.K (own.map (·.2)) ag) (tt := rdT X.K W0 xt) (te := rdE X.K W0 ae) C.calm C.nd hy hyl hsw p ok (fun s H C cl fp => (hg s H C cl fp).pg) (fun s H C cl fp => (ht s H C cl fp).pts) (fun s H C cl fp => (he s H C cl fp).pe) hs
  have f := refF_lc (vs := own.map (·.2)) r (rdG_ref (vs := own.map (·.2)) (ag := ag)) rdG_stays (rdT_ref (xt := xt)) (rdE_ref (ae := ae))
  exact ⟨⟨_, q, refS_asg f.e (refG_name i)⟩, _, q, refS_cell f⟩
theorem axf_lc2 (own : List (Str × Nat)) (vs1 : List Nat) (C : CxE X W k) (ok : BlkOk X.N X.env.scope scope own) (hi : AXI X W tg iter ai)
    (hg : ∀ (s : Shared) (H : Hp) (C : Addr) (cl : List (Str × Addr)) (fp : List Addr), AXGc (X.blk s H scope (compEnvC scope cl C X.env) fp) (own.map (·.2)) tg ag) (ht : ∀ (s : Shared) (H : Hp) (C : Addr) (cl : List (Str × Addr)) (fp : List Addr), AXTs (X.blk s H scope (compEnvC scope cl C X.env) fp) W0 ifs xt)
    (hi1 : ∀ (s : Shared) (H : Hp) (C : Addr) (cl : List (Str × Addr)) (fp : List Addr), AXI (X.blk s H scope (compEnvC scope cl C X.env) fp) W0 tg1 iter1 ai1) (hg1 : ∀ (s : Shared) (H : Hp) (C : Addr) (cl : List (Str × Addr)) (fp : List Addr), AXGc (X.blk s H scope (compEnvC scope cl C X.env) fp) vs1 tg1 ag1) (ht1 : ∀ (s : Shared) (H : Hp) (C : Addr) (cl : List (Str × Addr)) (fp : List Addr), AXTs (X.blk s H scope (compEnvC scope cl C X.env) fp) W0 ifs1 xt1)
    (he : ∀ (s : Shared) (H : Hp) (C : Addr) (cl : List (Str × Addr)) (fp : List Addr), AX (X.blk s H scope (compEnvC scope cl C X.env) fp) W0 elt ae) (hv : ∀ i ∈ vs1, i ∈ own.map (·.2) := by decide) (hs : ∀ x, foldedSetIterable iter X.env x = pure x := by intro _; rfl) (hs1 : ∀ env x, foldedSetIterable iter1 env x = pure x := by intro _ _; rfl) :
    AXF X W (.ListComp elt [⟨tg, iter, ifs, 0⟩, ⟨tg1, iter1, ifs1, 0⟩] scope pos) (fLc2 ai ag xt ai1 ag1 xt1 ae (own.map (·.2)) vs1) := by
  obtain ⟨t, p, r⟩ := hi
  exact ⟨_, pe_lc2 C.calm C.nd p ok hv (fun s H C cl fp => (hg s H C cl fp).pg) (fun s H C cl fp => (ht s H C cl fp).pts) (fun s H C cl fp => (hi1 s H C cl fp).pi) (fun s H C cl fp => (hg1 s H C cl fp).pg) (fun s H C cl fp => (ht1 s H C cl fp).pts) (fun s H C cl fp => (he s H C cl fp).pe) hs hs1, refF_lc2 r rdG_ref rdG_stays rdT_ref rdI_ref rdG_ref rdG_stays rdT_ref rdE_ref⟩
theorem axs_setLc2 (own : List (Str × Nat)) (vs1 : List Nat) {i : Nat} {y : Str} {py : Pos} (C : CxE X W k) (ok : BlkOk X.N X.env.scope scope own) (hi : AXI X W tg iter ai)
    (hg : ∀ (s : Shared) (H : Hp) (C : Addr) (cl : List (Str × Addr)) (fp : List Addr), AXGc (X.blk s H scope (compEnvC scope cl C X.env) fp) (own.map (·.2)) tg ag) (ht : ∀ (s : Shared) (H : Hp) (C : Addr) (cl : List (Str × Addr)) (fp : List Addr), AXTs (X.blk s H scope (compEnvC scope cl C X.env) fp) W0 ifs xt)
    (hi1 : ∀ (s : Shared) (H : Hp) (C : Addr) (cl : List (Str × Addr)) (fp : List Addr), AXI (X.blk s H scope (compEnvC scope cl C X.env) fp) W0 tg1 iter1 ai1) (hg1 : ∀ (s : Shared) (H : Hp) (C : Addr) (cl : List (Str × Addr)) (fp : List Addr), AXGc (X.blk s H scope (compEnvC scope cl C X.env) fp) vs1 tg1 ag1) (ht1 : ∀ (s : Shared) (H : Hp) (C : Addr) (cl : List (Str × Addr)) (fp : List Addr), AXTs (X.blk s H scope (compEnvC scope cl C X.env) fp) W0 ifs1 xt1)
    (he : ∀ (s : Shared) (H : Hp) (C : Addr) (cl : List (Str × Addr)) (fp : List Addr), AX (X.blk s H scope (compEnvC scope cl C X.env) fp) W0 elt ae)
    (hsw : swapsWith (.ListComp elt [⟨tg, iter, ifs, 0⟩, ⟨tg1, iter1, ifs1, 0⟩] scope pos) (some (.Name y py)) spos.line X.env = pure true := by exact sw_true rfl rfl rfl (by decide +kernel)) (hy : X.N[i]? = some y := by rfl) (hyl : X.env.scope.names.lookup y = some .local := by rfl) (hv : ∀ i ∈ vs1, i ∈ own.map (·.2) := by decide) (hs : ∀ x, foldedSetIterable iter X.env x = pure x := by intro _; rfl) (hs1 : ∀ env x, foldedSetIterable iter1 env x = pure x := by intro _ _; rfl) :
    AXS X W (.Assign [.Name y py] (.ListComp elt [⟨tg, iter, ifs, 0⟩, ⟨tg1, iter1, ifs1, 0⟩] scope pos) spos) (sAsg (aFr (fLc2 ai ag xt ai1 ag1 xt1 ae (own.map (·.2)) vs1)) (agName i)) ∧ AXS X W (.Assign [.Name y py] (.ListComp elt [⟨tg, iter, ifs, 0⟩, ⟨tg1, iter1, ifs1, 0⟩] scope pos) spos) (sCell (fLc2 ai ag xt ai1 ag1 xt1 ae (own.map (·.2)) vs1) i) := by
  obtain ⟨t, p, r⟩ := hi
  have q := ps_setLc2 (i := i) (g := rdG X.K (own.map (·.2)) ag) (tt := rdT X.K W0 xt) (wi1 := rdI X.K W0 ai1) (g1 := rdG X.K vs1 ag1) (tt1 := rdT X.K W0 xt1) (te := rdE X.K W0 ae) C.calm C.nd hy hyl hsw p ok hv (fun s H C cl fp => (hg s H C cl fp).pg) (fun s H C cl fp => (ht s H C cl fp).pts) (fun s H C cl fp => (hi1 s H C cl fp).pi) (fun s H C cl fp => (hg1 s H C cl fp).pg) (fun s H C cl fp => (ht1 s H C cl fp).pts) (fun s H C cl fp => (he s H C cl fp).pe) hs hs1
  have f := refF_lc2 (vs := own.map (·.2)) (vs1 := vs1) r (rdG_ref (vs := own.map (·.2)) (ag := ag)) rdG_stays (rdT_ref (xt := xt)) (rdI_ref (ai := ai1)) (rdG_ref (vs := vs1) (ag := ag1)) rdG_stays (rdT_ref (xt := xt1)) (rdE_ref (ae := ae))
  exact ⟨⟨_, q, refS_asg f.e (refG_name i)⟩, _, q, refS_cell f⟩
end
/-! ### what is walked -/
def iSeq (K : PySem.W.Frag) (tl : TE) : TI := fun σ H R => tl σ H fun x H1 => ∃ a, x = .ref a ∧ ((∃ xs, SqL K H1 a xs ∧ R (Itl K a) H1) ∨ (∃ xs, SqT K H1 a xs ∧ R (Itt K a) H1))
def itemsD : D → Option (List D)
  | .lst l => some l
  | .tup l => some l
  | _ => none
/-- what must stand while d is walked -/
def gdOf (st : S) : D → Gd
  | .ref n => match st[n]? with
    | some c => [(n, c)]
    | none => []
  | _ => []
def aIter (a : AE) : AI := fun env st q er => a env st (fun d s1 => ∃ l, itemsD (vw s1 d) = some l ∧ q l (gdOf s1 d) s1) er
def aRng1 (a : AE) : AI := fun env st q er => a env st (fun d s1 => match d with
  | .int j => (-(2 ^ 62) ≤ j ∧ j < 2 ^ 62) ∧ q ((List.range j.toNat).map fun (i : Nat) => D.int (i : Int)) [] s1
  | _ => False) er
def aRng2 (a b : AE) : AI := fun env st q er => a env st (fun d s1 => b env s1 (fun d2 s2 => match d, d2 with
  | .int i, .int j => (-(2 ^ 62) ≤ i ∧ i < 2 ^ 62 ∧ -(2 ^ 62) ≤ j ∧ j < 2 ^ 62) ∧ q ((List.range (j - i).toNat).map fun (n : Nat) => D.int (i + (n : Int))) [] s2
  | _, _ => False) er) er
section
variable {X : Cx} {W : WX} {tg l e e2 : Expr} {tl : TE} {al ae ab : AE} {p pos : Pos}
theorem pi_seq (hl : PE X l tl) : PI X tg l (iSeq X.K tl) := by
  refine ⟨fun pins s σ H R I h => ?_⟩
  refine thn (hl.run pins s σ H _ I h) fun v s1 ⟨x, H1, I1, r1, q1⟩ => ?_
  obtain ⟨a, e, q1⟩ := q1
  subst e
  cases r1
  rcases q1 with ⟨xs, hq, q⟩ | ⟨xs, hq, q⟩
  · obtain ⟨its, rv, p, hz⟩ := I1.list hq
    refine wpAny_pyIter_list p.isList ?_
    refine ⟨s1.heap.objs.size, [s1.heap.objs.size], _, _, H1, rfl, I1.kept (t' := s1.toks) fun b o e => Heap.get?_push_of_some _ e, turn_list a _, ⟨_, Heap.get?_push_size _ rfl, rfl, rfl⟩, fun b hb => ?_, q⟩
    have e : b = s1.heap.objs.size := by simpa using hb
    subst e
    exact I1.fpOk (Nat.le_refl _) (I1.hok.fresh (Nat.le_refl _))
  · obtain ⟨its, rv, p, hz⟩ := I1.tuple hq
    refine wpAny_pyIter_tuple (show s1.heap.IsTuple a its.toArray from p) ?_
    refine ⟨s1.heap.objs.size, [s1.heap.objs.size], _, _, H1, rfl, I1.kept (t' := s1.toks) fun b o e => Heap.get?_push_of_some _ e, turn_tuple a _, ⟨_, Heap.get?_push_size _ rfl, rfl, rfl⟩, fun b hb => ?_, q⟩
    have e : b = s1.heap.objs.size := by simpa using hb
    subst e
    exact I1.fpOk (Nat.le_refl _) (I1.hok.fresh (Nat.le_refl _))
/-- a sequence that is read as long as it is walked -/
def SeqAt (K : PySem.W.Frag) (G0 : Gh) (gd : Gd) (a : Addr) (vs : List V) (tup : Bool) : Prop := ∀ G st H, G0.le G → SS K G st H → gdOk gd st → if tup = true then SqT K H a vs else SqL K H a vs
/-- the items, wherever they are represented -/
theorem rep_seq {K : PySem.W.Frag} {G : Gh} {st : S} {H : Hp} {d : D} {v : V} {l : List D} (s : SS K G st H) (r : Rep K G d v) (e : itemsD (vw st d) = some l) : ∃ a vs tup, v = .ref a ∧ Reps K G l vs ∧ gdOk (gdOf st d) st ∧ ∀ G2 st2 H2, G.le G2 → SS K G2 st2 H2 → gdOk (gdOf st d) st2 → ∃ us, Reps K G2 l us ∧ if tup = true then SqT K H2 a us else SqL K H2 a us := by
  cases r with
  | lst h rs =>
    cases e
    exact ⟨_, _, false, rfl, rs, fun _ z => (by cases z), fun G2 st2 H2 le s2 _ => ⟨_, rs.mono le, SqL.of (s2.ex.lst (le.g _ _ h))⟩⟩
  | tup h rs =>
    cases e
    exact ⟨_, _, true, rfl, rs, fun _ z => (by cases z), fun G2 st2 H2 le s2 _ => ⟨_, rs.mono le, SqT.of (s2.ex.tup (le.g _ _ h))⟩⟩
  | ref hp =>
    rename_i n p
    cases hc : st[n]? with
    | none => simp only [vw, hc] at e; cases e
    | some c =>
      have hgd : gdOf st (.ref n) = [(n, c)] := by unfold gdOf; simp only [hc]
      unfold vw at e
      simp only [hc] at e
      cases c with
      | lst l' =>
        cases e
        obtain ⟨vs, _, h1, rs⟩ := s.cell n _ p hc hp
        refine ⟨p, vs, false, rfl, rs, ?_, fun G2 st2 H2 le s2 gk => ?_⟩
        · rw [hgd]
          intro x hx
          have : x = (n, C.lst l) := by simpa using hx
          subst this
          exact hc
        · rw [hgd] at gk
          obtain ⟨us, _, h2, rs2⟩ := s2.cell n _ p (gk (n, C.lst l) (by simp)) (pre_get le.a hp)
          exact ⟨us, rs2, SqL.of h2⟩
      | _ => cases e
  | _ => cases e
theorem walks_seq {K : PySem.W.Frag} {G : Gh} {H0 : Hp} {gd : Gd} {a : Addr} {ds : List D} (h : ∀ G2 st2 H2, G.le G2 → SS K G2 st2 H2 → gdOk gd st2 → ∃ us, Reps K G2 ds us ∧ SqL K H2 a us) : Walks K G H0 (Itl K a) ds gd where
  stop := fun i G2 st H le s gk hi => by
    obtain ⟨us, r, q⟩ := h G2 st H le.le s gk
    exact ⟨us, q, by rw [← r.length]; exact Nat.le_of_eq hi⟩
  go := fun i G2 st H le s gk hi => by
    obtain ⟨us, r, q⟩ := h G2 st H le.le s gk
    exact ⟨us, us[i]'(by rw [← r.length]; exact hi), q, by simp [← r.length, hi]⟩
  yld := fun i G2 st H d x H' le s gk hd y => by
    obtain ⟨us, r, q⟩ := h G2 st H le.le s gk
    obtain ⟨e1, y⟩ := y
    obtain ⟨v, h1, h2⟩ := r.get hd
    have := y us q
    rw [h1] at this
    cases this
    exact ⟨G2, e1 ▸ Post.refl, e1 ▸ s, h2⟩
theorem walks_tup {K : PySem.W.Frag} {G : Gh} {H0 : Hp} {gd : Gd} {a : Addr} {ds : List D} (h : ∀ G2 st2 H2, G.le G2 → SS K G2 st2 H2 → gdOk gd st2 → ∃ us, Reps K G2 ds us ∧ SqT K H2 a us) : Walks K G H0 (Itt K a) ds gd where
  stop := fun i G2 st H le s gk hi => by
    obtain ⟨us, r, q⟩ := h G2 st H le.le s gk
    exact ⟨us, q, by rw [← r.length]; exact Nat.le_of_eq hi⟩
  go := fun i G2 st H le s gk hi => by
    obtain ⟨us, r, q⟩ := h G2 st H le.le s gk
    exact ⟨us, us[i]'(by rw [← r.length]; exact hi), q, by simp [← r.length, hi]⟩
  yld := fun i G2 st H d x H' le s gk hd y => by
    obtain ⟨us, r, q⟩ := h G2 st H le.le s gk
    obtain ⟨e1, y⟩ := y
    obtain ⟨v, h1, h2⟩ := r.get hd
    have := y us q
    rw [h1] at this
    cases this
    exact ⟨G2, e1 ▸ Post.refl, e1 ▸ s, h2⟩
theorem walks_rng {K : PySem.W.Frag} {G : Gh} {H0 : Hp} {lo : Int} {n : Nat} : Walks K G H0 (Itr lo n) ((List.range n).map fun (i : Nat) => D.int (lo + i)) [] where
  stop := fun i _ _ H _ _ _ hi => by
    rw [List.length_map, List.length_range] at hi
    exact Nat.le_of_eq hi
  go := fun i _ _ H _ _ _ hi => by
    rw [List.length_map, List.length_range] at hi
    exact hi
  yld := fun i G2 st H d x H' _ s _ hd y => by
    obtain ⟨e1, y⟩ := y
    rw [List.getElem?_map] at hd
    have hi : i < n := by
      by_cases h : i < n
      · exact h
      · rw [List.getElem?_eq_none (by simpa using h)] at hd; cases hd
    rw [List.getElem?_range hi] at hd
    cases hd
    subst y
    exact ⟨G2, e1 ▸ Post.refl, e1 ▸ s, .int _⟩
theorem axi_seq (h : AX X W l al) : AXI X W tg l (aIter al) := by
  obtain ⟨t, p, r⟩ := h
  refine ⟨_, pi_seq p, fun G env st σ H R q er s sl a t tX => r G env st σ H _ _ er s sl a (fun v d st2 G2 H2 p2 s2 r2 ⟨l, el, h2⟩ => ?_) tX⟩
  obtain ⟨a, vs, tup, rfl, rs, gk, hh⟩ := rep_seq s2 r2 el
  obtain ⟨us, _, q2⟩ := hh G2 st2 H2 (Gh.le.refl _) s2 gk
  refine ⟨a, rfl, ?_⟩
  cases tup with
  | false => exact .inl ⟨us, q2, t _ _ _ st2 G2 H2 p2 s2 (walks_seq hh) h2⟩
  | true => exact .inr ⟨us, q2, t _ _ _ st2 G2 H2 p2 s2 (walks_tup hh) h2⟩
theorem axi_rng1 (hm : X.mg "range" = none) (h : AX X W e ae) (hg : Gl X "range" := by rfl) (hs : starEach [e] X.env = [(false, eval e X.env)] := by rfl) : AXI X W tg (.Call (.Name "range" p) [e] [] pos) (aRng1 ae) := by
  obtain ⟨t, p, r⟩ := h
  refine ⟨_, pi_range1 hg hm (pa_cons p pa_nil (by rw [hs]; rfl)) hs, fun G env st σ H R q er s sl a t tX => r G env st σ H _ _ er s sl a (fun v d st2 G2 H2 p2 s2 r2 h2 => ?_) tX⟩
  cases r2 with
  | int j =>
    refine ⟨j, rfl, h2.1.1, h2.1.2, t _ _ _ st2 G2 H2 p2 s2 ?_ h2.2⟩
    have := walks_rng (K := X.K) (G := G2) (H0 := H2) (lo := 0) (n := j.toNat)
    simpa using this
  | _ => exact h2.elim
theorem axi_rng2 (hm : X.mg "range" = none) (h : AX X W e ae) (h' : AX X W e2 ab) (hg : Gl X "range" := by rfl) (hs : starEach [e, e2] X.env = [(false, eval e X.env), (false, eval e2 X.env)] := by rfl) (hs2 : starEach [e2] X.env = [(false, eval e2 X.env)] := by rfl) : AXI X W tg (.Call (.Name "range" p) [e, e2] [] pos) (aRng2 ae ab) := by
  obtain ⟨t, p, r⟩ := h
  obtain ⟨t', p', r'⟩ := h'
  refine ⟨_, pi_range2 hg hm (pa_cons p (pa_cons p' pa_nil (by rw [hs2]; rfl)) (by rw [hs, hs2])) hs hs2, fun G env st σ H R q er s sl a t tX => r G env st σ H _ _ er s sl a (fun v d st2 G2 H2 p2 s2 r2 h2 => r' G2 env st2 σ H2 _ _ er s2 (sl.mono p2.le) h2 (fun v' d' st3 G3 H3 p3 s3 r3 h3 => ?_) (tX.on p2)) tX⟩
  cases r2 with
  | int i =>
    cases r3 with
    | int j => exact ⟨i, j, rfl, h3.1, t _ _ _ st3 G3 H3 (p2.trans p3) s3 walks_rng h3.2⟩
    | _ => exact h3.elim
  | _ => cases d' <;> exact h3.elim
end
/-! ### calls -/
section
variable {X : Cx} {W : WX} {k j : Nat} {x : Str} {p pos : Pos} {e : Expr} {es : List Expr} {aa : AEs} {m : AF} {f : Addr} {fd : FuncData} {ps : List Str} {ds : List Value} {dd : List D} {dvs : List V}
/-- how defaults come in -/
def BindsD (K : PySem.W.Frag) (fd : FuncData) (ps : List Str) (dvs : List V) : Prop := ∃ ds, Vals dvs ds ∧ Binds K fd ps ds
theorem BindsD.no {K : PySem.W.Frag} {fd : FuncData} {ps : List Str} (b : Binds K fd ps []) : BindsD K fd ps [] := ⟨[], .nil, b⟩
theorem ax_call (C : CxE X W k) (F : FnOk X.prog X.w X.K X.mg X.base (L2N.CX X.prog X.w) j f fd ps (SpA X.K m)) (hm : X.mg x = some (.ref f)) (hk : PySem.W.keepIn X.K (.ref f) = true) (hb : BindsD X.K fd ps dvs) (hdd : ∀ G, Reps X.K G dd dvs) (ha : AXA X W (e :: es) aa) (hj : j ≤ k)
    (hg : Gl X x := by rfl) (hdb : (x == ("__debug__" : Str)) = false := by decide) (he : starEach (e :: es) X.env = (false, eval e X.env) :: starEach es X.env := by rfl) (hpl : (backTo pos (starEach es X.env)).any (·.1) = false := by rfl) : AX X W (.Call (.Name x p) (e :: es) [] pos) (aCall m aa dd) := by
  obtain ⟨t, p, r⟩ := ha
  obtain ⟨ds, hv, hb⟩ := hb
  exact ⟨_, pe_callSD F (C.room.mono hj) hg hm hk hb hv (fun σ => L2N.passAt C.takes σ) p hdb he hpl, refE_call r hdd⟩
theorem axf_call (C : CxE X W k) (F : FnOk X.prog X.w X.K X.mg X.base (L2N.CX X.prog X.w) j f fd ps (SpA X.K m)) (hm : X.mg x = some (.ref f)) (hk : PySem.W.keepIn X.K (.ref f) = true) (hb : BindsD X.K fd ps dvs) (hdd : ∀ G, Reps X.K G dd dvs) (ha : AXA X W (e :: es) aa) (hj : j ≤ k)
    (hg : Gl X x := by rfl) (hdb : (x == ("__debug__" : Str)) = false := by decide) (he : starEach (e :: es) X.env = (false, eval e X.env) :: starEach es X.env := by rfl) (hpl : (backTo pos (starEach es X.env)).any (·.1) = false := by rfl) : AXF X W (.Call (.Name x p) (e :: es) [] pos) (fCall m aa dd) := by
  obtain ⟨t, p, r⟩ := ha
  obtain ⟨ds, hv, hb⟩ := hb
  exact ⟨_, pe_callSD F (C.room.mono hj) hg hm hk hb hv (fun σ => L2N.passAt C.takes σ) p hdb he hpl, refF_call r hdd⟩
end
end AM
set_option Elab.async false
set_option linter.all false
set_option maxRecDepth 100000
set_option maxHeartbeats 4000000
namespace AM
open PySem L2 Evl PyProof.Rows
theorem OpR.or {X : Cx} {f : Value → Value → Sem Value} {r r' : R2} (h : OpR X f r) (h' : OpR X f r') : OpR X f (fun x y H Q => r x y H Q ∨ r' x y H Q) := fun pins s σ H x y v u Q I rx ry q => by
  rcases q with q | q
  · exact h pins s σ H x y v u Q I rx ry q
  · exact h' pins s σ H x y v u Q I rx ry q
theorem CallR.or {X : Cx} {f : Value} {r r' : List V → Hp → VK → Prop} (h : CallR X f r) (h' : CallR X f r') : CallR X f (fun x H Q => r x H Q ∨ r' x H Q) := fun pins s σ H x v Q I rx q => by
  rcases q with q | q
  · exact h pins s σ H x v Q I rx q
  · exact h' pins s σ H x v Q I rx q
/-! ### plain data, equality -/
mutual
def D.py : D → PyData
  | .non => .none
  | .bl b => .bool b
  | .int i => .int i
  | .str x => .str x
  | .lst l => .list (D.pys l)
  | .tup l => .tuple (D.pys l)
  | .dic _ => .dict []
  | .obj _ _ => .dict []
  | .fn _ => .dict []
  | .ty _ => .dict []
  | .ref _ => .dict []
  | .scr _ => .dict []
def D.pys : List D → List PyData
  | [] => []
  | d :: ds => d.py :: D.pys ds
end
mutual
def D.plain : D → Bool
  | .non => true
  | .bl _ => true
  | .int _ => true
  | .str x => PyData.strOk x
  | .lst l => D.plains l
  | .tup l => D.plains l
  | _ => false
def D.plains : List D → Bool
  | [] => true
  | d :: ds => d.plain && D.plains ds
end
mutual
def D.dep : D → Nat
  | .lst l => D.deps l + 1
  | .tup l => D.deps l + 1
  | _ => 0
def D.deps : List D → Nat
  | [] => 0
  | d :: ds => max d.dep (D.deps ds)
end
mutual
def D.eqv : D → D → Bool
  | .non, .non => true
  | .bl a, .bl b => a == b
  | .bl a, .int j => (if a then 1 else 0) == j
  | .int i, .bl b => i == (if b then 1 else 0)
  | .int i, .int j => i == j
  | .str x, .str y => x == y
  | .lst xs, .lst ys => D.eqvs xs ys
  | .tup xs, .tup ys => D.eqvs xs ys
  | _, _ => false
def D.eqvs : List D → List D → Bool
  | [], [] => true
  | x :: xs, y :: ys => D.eqv x y && D.eqvs xs ys
  | _, _ => false
end
mutual
theorem D.py_eqv : ∀ {a b : D}, a.plain = true → b.plain = true → PyData.eqv a.py b.py = D.eqv a b
  | .non, b, _, hb => by cases b <;> first | rfl | cases hb
  | .bl _, b, _, hb => by cases b <;> first | rfl | cases hb
  | .int _, b, _, hb => by cases b <;> first | rfl | cases hb
  | .str _, b, _, hb => by cases b <;> first | rfl | cases hb
  | .lst xs, b, ha, hb => by
    cases b with
    | lst ys => exact D.pys_eqv ha hb
    | _ => first | rfl | cases hb
  | .tup xs, b, ha, hb => by
    cases b with
    | tup ys => exact D.pys_eqv ha hb
    | _ => first | rfl | cases hb
  | .dic _, _, ha, _ => by cases ha
  | .obj _ _, _, ha, _ => by cases ha
  | .fn _, _, ha, _ => by cases ha
  | .ty _, _, ha, _ => by cases ha
  | .ref _, _, ha, _ => by cases ha
  | .scr _, _, ha, _ => by cases ha
theorem D.pys_eqv : ∀ {a b : List D}, D.plains a = true → D.plains b = true → PyData.eqvAll (D.pys a) (D.pys b) = D.eqvs a b
  | [], [], _, _ => rfl
  | [], _ :: _, _, _ => rfl
  | _ :: _, [], _, _ => rfl
  | x :: xs, y :: ys, ha, hb => by
    obtain ⟨h1, h2⟩ := Bool.and_eq_true_iff.mp (show (x.plain && D.plains xs) = true from ha)
    obtain ⟨h3, h4⟩ := Bool.and_eq_true_iff.mp (show (y.plain && D.plains ys) = true from hb)
    show (PyData.eqv x.py y.py && PyData.eqvAll (D.pys xs) (D.pys ys)) = (D.eqv x y && D.eqvs xs ys)
    rw [D.py_eqv h1 h3, D.pys_eqv h2 h4]
end
mutual
theorem D.py_lay : ∀ {a : D}, a.plain = true → PyData.canLay0 a.py = true
  | .non, _ => rfl
  | .bl _, _ => rfl
  | .int _, _ => rfl
  | .str _, h => h
  | .lst xs, h => D.pys_lay (a := xs) h
  | .tup xs, h => D.pys_lay (a := xs) h
  | .dic _, h => by cases h
  | .obj _ _, h => by cases h
  | .fn _, h => by cases h
  | .ty _, h => by cases h
  | .ref _, h => by cases h
  | .scr _, h => by cases h
theorem D.pys_lay : ∀ {a : List D}, D.plains a = true → PyData.canLayAll0 (D.pys a) = true
  | [], _ => rfl
  | x :: xs, h => by
    obtain ⟨h1, h2⟩ := Bool.and_eq_true_iff.mp (show (x.plain && D.plains xs) = true from h)
    show (PyData.canLay0 x.py && PyData.canLayAll0 (D.pys xs)) = true
    rw [D.py_lay h1, D.pys_lay h2]; rfl
end
mutual
theorem D.py_dep : ∀ {a : D}, a.plain = true → PyData.depth a.py = a.dep
  | .non, _ => rfl
  | .bl _, _ => rfl
  | .int _, _ => rfl
  | .str _, h => rfl
  | .lst xs, h => congrArg (· + 1) (D.pys_dep (a := xs) h)
  | .tup xs, h => congrArg (· + 1) (D.pys_dep (a := xs) h)
  | .dic _, h => by cases h
  | .obj _ _, h => by cases h
  | .fn _, h => by cases h
  | .ty _, h => by cases h
  | .ref _, h => by cases h
  | .scr _, h => by cases h
theorem D.pys_dep : ∀ {a : List D}, D.plains a = true → PyData.depthAll (D.pys a) = D.deps a
  | [], _ => rfl
  | x :: xs, h => by
    obtain ⟨h1, h2⟩ := Bool.and_eq_true_iff.mp (show (x.plain && D.plains xs) = true from h)
    show max (PyData.depth x.py) (PyData.depthAll (D.pys xs)) = max x.dep (D.deps xs)
    rw [D.py_dep h1, D.pys_dep h2]
end
def D.shp (d : D) : Prop := d.plain = true ∧ d.dep ≤ 64
theorem D.shaped {d : D} (h : d.shp) : SeqAt.shaped d.py = true := by
  unfold SeqAt.shaped
  rw [D.py_lay h.1, D.py_dep h.1]
  simpa using h.2
section
variable {K : PySem.W.Frag} {G : Gh} {H : Hp}
mutual
theorem Rep.dp (e : ExL G.g H) : ∀ {d : D} {v : V}, Rep K G d v → d.plain = true → Dp K H v d.py
  | _, _, .non, _ => .non
  | _, _, .bl b, _ => .bl b
  | _, _, .int b, _ => .int b
  | _, _, .str b, _ => .str b
  | _, _, .lst h r, p => .lst (SqL.of (e.lst h)) (Reps.dp e r p)
  | _, _, .tup h r, p => .tup (SqT.of (e.tup h)) (Reps.dp e r p)
  | _, _, .dicT _ _, p => by cases p
  | _, _, .obj _ _, p => by cases p
  | _, _, .fn _, p => by cases p
  | _, _, .ty _, p => by cases p
  | _, _, .ref _, p => by cases p
  | _, _, .scr _ _, p => by cases p
theorem Reps.dp (e : ExL G.g H) : ∀ {d : List D} {v : List V}, Reps K G d v → D.plains d = true → DpAll K H v (D.pys d)
  | _, _, .nil, _ => .nil
  | _, _, .cons (d := x) (ds := xs) h r, p => by
    obtain ⟨h1, h2⟩ := Bool.and_eq_true_iff.mp (show (x.plain && D.plains xs) = true from p)
    exact .cons (Rep.dp e h h1) (Reps.dp e r h2)
end
end
theorem Rv.dp {K : PySem.W.Frag} {G : Gh} {H : Hp} (e : ExL G.g H) {d : D} {v : V} (r : Rv K G H d v) (p : d.plain = true) : Dp K H v d.py := by
  cases r with
  | non => exact .non
  | bl b => exact .bl b
  | int b => exact .int b
  | str b => exact .str b
  | lst h r => exact .lst (SqL.of h) (Reps.dp e r p)
  | tup h r _ => exact .tup (SqT.of h) (Reps.dp e r p)
  | _ => cases p
def oEq : O2 := fun x y q => x.shp ∧ y.shp ∧ q (.bl (D.eqv x y))
def oNe : O2 := fun x y q => x.shp ∧ y.shp ∧ q (.bl (!D.eqv x y))
section
variable {X : Cx} {K : PySem.W.Frag}
theorem ref_eq : RefO K (rEqD K) oEq := fun G st H x y dx dy Q q s rx ry ⟨h1, h2, h⟩ t =>
  ⟨dx.py, dy.py, rx.dp s.ex h1.1, ry.dp s.ex h2.1, D.shaped h1, D.shaped h2, by rw [D.py_eqv h1.1 h2.1]; exact t.here s (.bl _) h⟩
theorem ref_ne : RefO K (rNeD K) oNe := fun G st H x y dx dy Q q s rx ry ⟨h1, h2, h⟩ t =>
  ⟨dx.py, dy.py, rx.dp s.ex h1.1, ry.dp s.ex h2.1, D.shaped h1, D.shaped h2, by rw [D.py_eqv h1.1 h2.1]; exact t.here s (.bl _) h⟩
theorem u64 {A : Around} {k : Nat} (h : Room k A) : A.units + 65 < cLine := by have := h.un; omega
theorem op_Eq {W : WX} {k : Nat} (C : CxE X W k) : OpR X (compareOp .Eq) (rEqD X.K) ∧ RefO X.K (rEqD X.K) oEq := ⟨op_eqD (by have := u64 C.room; omega), ref_eq⟩
theorem op_Ne {W : WX} {k : Nat} (C : CxE X W k) : OpR X (compareOp .NotEq) (rNeD X.K) ∧ RefO X.K (rNeD X.K) oNe := ⟨op_neD (by have := u64 C.room; omega), ref_ne⟩
/-! ### numbers -/
def oI (g : Int → Int → D) : O2 := fun x y q => match x, y with
  | .int i, .int j => q (g i j)
  | _, _ => False
def oIC (C : Int → Int → Prop) (g : Int → Int → D) : O2 := fun x y q => match x, y with
  | .int i, .int j => C i j ∧ q (g i j)
  | _, _ => False
def CFd (_ j : Int) : Prop := j ≠ 0 ∧ j.natAbs.log2 < 9000
theorem ref_i {g : Int → Int → V} {g' : Int → Int → D} (h : ∀ G i j, Rep K G (g' i j) (g i j)) : RefO K (rI0 g) (oI g') := fun G st H x y dx dy Q q s rx ry h1 t => by
  cases rx with
  | int i =>
    cases ry with
    | int j => exact ⟨i, j, rfl, rfl, t.here s (h G i j) h1⟩
    | _ => exact h1.elim
  | _ => cases dy <;> exact h1.elim
theorem ref_ic {C : Int → Int → Prop} {g : Int → Int → V} {g' : Int → Int → D} (h : ∀ G i j, Rep K G (g' i j) (g i j)) : RefO K (rI C g) (oIC C g') := fun G st H x y dx dy Q q s rx ry h1 t => by
  cases rx with
  | int i =>
    cases ry with
    | int j => exact ⟨i, j, rfl, rfl, h1.1, t.here s (h G i j) h1.2⟩
    | _ => exact h1.elim
  | _ => cases dy <;> exact h1.elim
abbrev oSub : O2 := oI fun i j => .int (i - j)
abbrev oMul : O2 := oIC CMulW fun i j => .int (i * j)
abbrev oFdiv : O2 := oIC CFd fun i j => .int (i.fdiv j)
abbrev oMod : O2 := oIC (fun _ j => j ≠ 0) fun i j => .int (i.fmod j)
abbrev oPow : O2 := oIC CPow fun i j => .int (i ^ j.toNat)
abbrev oLt : O2 := oI fun i j => .bl (decide (i < j))
abbrev oLe : O2 := oI fun i j => .bl (decide (i ≤ j))
abbrev oGt : O2 := oI fun i j => .bl (decide (j < i))
abbrev oGe : O2 := oI fun i j => .bl (decide (j ≤ i))
theorem op_fdivX : OpR X (binaryOp .FloorDiv) (rI CFd fun i j => .int (i.fdiv j)) := opI fun i j _ _ _ _ _ hc q => floordiv_int hc.1 q (.inl (PyProof.noPylong_of_log2 hc.2))
theorem op_Sub : OpR X (binaryOp .Sub) (rI0 fun i j => .int (i - j)) ∧ RefO X.K (rI0 fun i j => .int (i - j)) oSub := ⟨op_sub, ref_i fun _ _ _ => .int _⟩
theorem op_Mul : OpR X (binaryOp .Mult) (rI CMulW fun i j => .int (i * j)) ∧ RefO X.K (rI CMulW fun i j => .int (i * j)) oMul := ⟨op_mulW, ref_ic fun _ _ _ => .int _⟩
theorem op_Fdiv : OpR X (binaryOp .FloorDiv) (rI CFd fun i j => .int (i.fdiv j)) ∧ RefO X.K (rI CFd fun i j => .int (i.fdiv j)) oFdiv := ⟨op_fdivX, ref_ic fun _ _ _ => .int _⟩
theorem op_Mod : OpR X (binaryOp .Mod) (rI (fun _ j => j ≠ 0) fun i j => .int (i.fmod j)) ∧ RefO X.K (rI (fun _ j => j ≠ 0) fun i j => .int (i.fmod j)) oMod := ⟨op_modN, ref_ic fun _ _ _ => .int _⟩
theorem op_Pow : OpR X (binaryOp .Pow) (rI CPow fun i j => .int (i ^ j.toNat)) ∧ RefO X.K (rI CPow fun i j => .int (i ^ j.toNat)) oPow := ⟨op_pow, ref_ic fun _ _ _ => .int _⟩
theorem op_Lt : OpR X (compareOp .Lt) (rI0 fun i j => .bl (decide (i < j))) ∧ RefO X.K (rI0 fun i j => .bl (decide (i < j))) oLt := ⟨op_lt, ref_i fun _ _ _ => .bl _⟩
theorem op_Le : OpR X (compareOp .LtE) (rI0 fun i j => .bl (decide (i ≤ j))) ∧ RefO X.K (rI0 fun i j => .bl (decide (i ≤ j))) oLe := ⟨op_le, ref_i fun _ _ _ => .bl _⟩
theorem op_Gt : OpR X (compareOp .Gt) (rI0 fun i j => .bl (decide (j < i))) ∧ RefO X.K (rI0 fun i j => .bl (decide (j < i))) oGt := ⟨op_gt, ref_i fun _ _ _ => .bl _⟩
theorem op_Ge : OpR X (compareOp .GtE) (rI0 fun i j => .bl (decide (j ≤ i))) ∧ RefO X.K (rI0 fun i j => .bl (decide (j ≤ i))) oGe := ⟨op_ge, ref_i fun _ _ _ => .bl _⟩
def oNeg : O1 := fun x q => match x with
  | .int i => q (.int (-i))
  | _ => False
theorem op_Neg : UnR X (unaryOp .USub) (rU fun i => .int (-i)) ∧ RefU X.K (rU fun i => .int (-i)) oNeg := ⟨un_neg, fun G st H x dx Q q s rx h t => by
  cases rx with
  | int i => exact ⟨i, rfl, t.here s (.int _) h⟩
  | _ => exact h.elim⟩
/-- +: ints, lists, texts -/
def oAdd : O2 := fun x y q => match x, y with
  | .int i, .int j => q (.int (i + j))
  | .lst a, .lst b => a.length + b.length ≤ 100000 ∧ q (.lst (a ++ b))
  | .str a, .str b => a.length + b.length ≤ 100000 ∧ q (.str (a ++ b))
  | .tup a, .tup b => a.length + b.length ≤ 100000 ∧ q (.tup (a ++ b))
  | _, _ => False
def rSqL2 (K : PySem.W.Frag) : R2 := fun x y H Q => ∃ p p' a b, x = .ref p ∧ y = .ref p' ∧ SqL K H p a ∧ SqL K H p' b ∧ a.length + b.length ≤ sizeLine ∧ ∀ l, H l = none → Q (.ref l) (upd H l (.lst (a ++ b)))
end
section
variable {X : Cx} {K : PySem.W.Frag} {W : WX} {k : Nat}
def rAddA (K : PySem.W.Frag) : R2 := fun x y H Q => rI0 (fun i j => .int (i + j)) x y H Q ∨ rCat x y H Q ∨ rCatA K x y H Q ∨ (∃ i j, x = .str i ∧ y = .str j ∧ i.length + j.length ≤ sizeLine ∧ Q (.str (i ++ j)) H)
theorem op_Add : OpR X (binaryOp .Add) (rAddA X.K) ∧ RefO X.K (rAddA X.K) oAdd := by
  refine ⟨OpR.or op_add (OpR.or op_cat (OpR.or op_catA op_add_str)), fun G st H x y dx dy Q q s rx ry h t => ?_⟩
  cases rx with
  | int i =>
    cases ry with
    | int j => exact .inl ⟨i, j, rfl, rfl, t.here s (.int _) h⟩
    | _ => exact h.elim
  | lst h1 r1 =>
    cases ry with
    | lst h2 r2 => exact .inr (.inl ⟨_, _, _, _, rfl, rfl, h1, h2, sz_of (by rw [← r1.length, ← r2.length]; exact h.1), fun p hp => t.newL s (r1.append r2) h.2 hp⟩)
    | _ => exact h.elim
  | str i =>
    cases ry with
    | str j => exact .inr (.inr (.inr ⟨i, j, rfl, rfl, sz_of h.1, t.here s (.str _) h.2⟩))
    | _ => exact h.elim
  | tup h1 r1 ra =>
    cases ry with
    | tup h2 r2 rb =>
      refine .inr (.inr (.inl ⟨_, _, _, _, rfl, rfl, SqT.of h1, SqT.of h2, sz_of (by rw [← r1.length, ← r2.length]; exact h.1), fun e => ?_, fun _ e => ?_, fun _ _ p hp => t.newT s (r1.append r2) h.2 hp⟩))
      · subst e
        cases r1
        exact t.here s rb h.2
      · subst e
        cases r2
        have h2' := h.2
        rw [List.append_nil] at h2'
        exact t.here s ra h2'
    | _ => exact h.elim
  | _ => cases dy <;> exact h.elim
/-- x[i] -/
theorem atI_reps {G : Gh} {ds : List D} {vs : List V} {i : Int} {d : D} (r : Reps K G ds vs) (h : atI ds i = some d) : ∃ v, atI vs i = some v ∧ Rep K G d v := by
  unfold atI at h ⊢
  rw [← r.length]
  cases hj : ixN ds.length i with
  | none => rw [hj] at h; cases h
  | some j =>
    rw [hj] at h
    exact r.get h
def oIx : O2 := fun x y q => match x, y with
  | .lst l, .int i => ∃ d, atI l i = some d ∧ q d
  | .tup l, .int i => ∃ d, atI l i = some d ∧ q d
  | .str s, .int i => s.length ≤ 100000 ∧ ∃ c, atI s.cps.toList i = some c ∧ q (.str ⟨#[c]⟩)
  | _, _ => False
def rIxA (K : PySem.W.Frag) : R2 := fun x y H Q => rIxL K x y H Q ∨ rIxT K x y H Q ∨ rIxS x y H Q
theorem op_Ix : IxR X (rIxA X.K) ∧ RefO X.K (rIxA X.K) oIx := by
  refine ⟨IxR.or ix_list (IxR.or ix_tup ix_str), fun G st H x y dx dy Q q s rx ry h t => ?_⟩
  cases rx with
  | lst h1 r1 =>
    cases ry with
    | int i =>
      obtain ⟨d, hd, h⟩ := h
      obtain ⟨v, hv, rv⟩ := atI_reps r1 hd
      exact .inl ⟨_, _, i, v, rfl, rfl, SqL.of h1, hv, t.here s rv h⟩
    | _ => exact h.elim
  | tup h1 r1 rt =>
    cases ry with
    | int i =>
      obtain ⟨d, hd, h⟩ := h
      obtain ⟨v, hv, rv⟩ := atI_reps r1 hd
      exact .inr (.inl ⟨_, _, i, v, rfl, rfl, SqT.of h1, hv, t.here s rv h⟩)
    | _ => exact h.elim
  | str sx =>
    cases ry with
    | int i =>
      obtain ⟨hl, c, hc, h⟩ := h
      exact .inr (.inr ⟨sx, i, c, rfl, rfl, sz_of hl, hc, t.here s (.str _) h⟩)
    | _ => exact h.elim
  | _ => cases dy <;> exact h.elim
/-! ### built-ins -/
def bAbs : ON := fun xs q => match xs with
  | [.int i] => q (.int (if i < 0 then -i else i))
  | _ => False
theorem cb_abs : CB X (.builtin "abs") bAbs := ⟨_, call_abs, fun G st H xs ds Q q s r h t => by
  unfold bAbs at h
  split at h
  · cases r with
    | cons r1 r2 => cases r1; cases r2; exact ⟨_, rfl, t.here s (.int _) h⟩
  · exact h.elim⟩
def bMax2 : ON := fun xs q => match xs with
  | [.int i, .int j] => q (.int (if j > i then j else i))
  | _ => False
theorem cb_max2 (C : CxE X W k) : CB X (.builtin "max") bMax2 := ⟨_, call_max2 C.calm, fun G st H xs ds Q q s r h t => by
  unfold bMax2 at h
  split at h
  · cases r with
    | cons r1 r2 =>
      cases r2 with
      | cons r2 r3 => cases r1; cases r2; cases r3; exact ⟨_, _, rfl, t.here s (.int _) h⟩
  · exact h.elim⟩
def bMin2 : ON := fun xs q => match xs with
  | [.int i, .int j] => q (.int (if j < i then j else i))
  | _ => False
theorem cb_min2 (C : CxE X W k) : CB X (.builtin "min") bMin2 := ⟨_, call_min2 C.calm, fun G st H xs ds Q q s r h t => by
  unfold bMin2 at h
  split at h
  · cases r with
    | cons r1 r2 =>
      cases r2 with
      | cons r2 r3 => cases r1; cases r2; cases r3; exact ⟨_, _, rfl, t.here s (.int _) h⟩
  · exact h.elim⟩
def bInt : ON := fun xs q => match xs with
  | [.int i] => q (.int i)
  | [.bl b] => q (.int (if b then 1 else 0))
  | _ => False
theorem cb_int : CB X (.type "int") bInt := ⟨_, call_int1, fun G st H xs ds Q q s r h t => by
  unfold bInt at h
  split at h
  · cases r with
    | cons r1 r2 => cases r1; cases r2; exact .inl ⟨_, rfl, t.here s (.int _) h⟩
  · cases r with
    | cons r1 r2 => cases r1; cases r2; exact .inr ⟨_, rfl, t.here s (.int _) h⟩
  · exact h.elim⟩
def lenD : D → Option Nat
  | .lst l => some l.length
  | .tup l => some l.length
  | .str s => if s.length ≤ 100000 then some s.length else none
  | _ => none
def bLen : ON := fun xs q => match xs with
  | [x] => ∃ n, lenD x = some n ∧ q (.int n)
  | _ => False
theorem cb_len : CB X (.builtin "len") bLen := ⟨_, call_len, fun G st H xs ds Q q s r h t => by
  unfold bLen at h
  split at h
  · rename_i x
    obtain ⟨n, hn, h⟩ := h
    cases r with
    | cons r1 r2 =>
      cases r2
      refine ⟨_, n, rfl, ?_, t.here s (.int _) h⟩
      cases r1 with
      | lst h1 r1 => cases hn; exact .inl ⟨_, SqL.of h1, r1.length⟩
      | tup h1 r1 rt => cases hn; exact .inr ⟨_, SqT.of h1, r1.length⟩
      | str s =>
        have hn' : (if s.length ≤ 100000 then some s.length else none) = some n := hn
        by_cases hz : s.length ≤ 100000
        · rw [if_pos hz] at hn'
          cases hn'
          exact ⟨sz_of hz, rfl⟩
        · rw [if_neg hz] at hn'; cases hn'
      | _ => cases hn
  · exact h.elim⟩
def bList : ON := fun xs q => match xs with
  | [x] => ∃ l, itemsD x = some l ∧ q (.lst l)
  | _ => False
theorem cb_list : CB X (.type "list") bList := ⟨_, call_list_of, fun G st H xs ds Q q s r h t => by
  unfold bList at h
  split at h
  · obtain ⟨l, hl, h⟩ := h
    cases r with
    | cons r1 r2 =>
      cases r2
      cases r1 with
      | lst h1 r1 => cases hl; exact ⟨_, _, rfl, .inl (SqL.of h1), fun p hp => t.newL s r1 h hp⟩
      | tup h1 r1 rt => cases hl; exact ⟨_, _, rfl, .inr (SqT.of h1), fun p hp => t.newL s r1 h hp⟩
      | _ => cases hl
  · exact h.elim⟩
def bTuple : ON := fun xs q => match xs with
  | [x] => ∃ l, itemsD x = some l ∧ q (.tup l)
  | _ => False
theorem cb_tuple : CB X (.type "tuple") bTuple := ⟨_, call_tuple_of, fun G st H xs ds Q q s r h t => by
  unfold bTuple at h
  split at h
  · obtain ⟨l, hl, h⟩ := h
    cases r with
    | cons r1 r2 =>
      cases r2
      cases r1 with
      | lst h1 r1 => cases hl; exact ⟨_, _, rfl, .inl ⟨SqL.of h1, fun p hp => t.newT s r1 h hp⟩⟩
      | tup h1 r1 rt => cases hl; exact ⟨_, _, rfl, .inr ⟨SqT.of h1, t.here s rt h⟩⟩
      | _ => cases hl
  · exact h.elim⟩
/-! ### isinstance of data and built-in classes -/
def tyD : D → Option String
  | .non => some "NoneType"
  | .bl _ => some "bool"
  | .int _ => some "int"
  | .str _ => some "str"
  | .lst _ => some "list"
  | .tup _ => some "tuple"
  | .dic _ => some "dict"
  | _ => none
/-- a value's type; a dict may be locked -/
inductive TyY (K : PySem.W.Frag) (H : Hp) : V → Value → Prop where
  | x {v : V} {t : Value} (h : TyX K H v t) : TyY K H v t
  | fT {a : Addr} {o : Obj} {kvs : List (List Key × V)} (e : H a = some (.frz o (.dT kvs))) : TyY K H (.ref a) (.type "dict")
theorem kit_ofY {Y : Cx} {pins : List (Addr × Obj)} {σ : L2.St} {H : Hp} {s : Shared} {x : V} {u t : Value} (I : Inv Y pins σ H s) (rx : RelV x u) (ty : TyY Y.K H x t) : ∃ P : Heap → Prop, PySem.W.KitX Y.K u t P ∧ P s.heap ∧ u ≠ .builtin "__main__.__loader__#opaque" := by
  cases ty with
  | x h => exact kit_of I rx h
  | @fT a ob kvs ea =>
    cases (show u = Value.ref a from rx)
    obtain ⟨_, _, _, xs, _, o, es, ep, h1, h2, _⟩ := (show ObjOk Y.prog Y.w H s.heap a (.frz ob (.dT kvs)) from I.hok a _ ea)
    exact ⟨_, PySem.W.kitx_dict, ⟨o, h1, h2.1⟩, fun z => nomatch z⟩
def rIsiY (K : PySem.W.Frag) : List V → Hp → VK → Prop := fun xs H Q => ∃ (x c : V) (t u : Value) (b : Bool), xs = [x, c] ∧ ClsV c u ∧ TyY K H x t ∧ PySem.W.kitOne K t u = some b ∧ Q (.bl b) H
def rIsiTY (K : PySem.W.Frag) : List V → Hp → VK → Prop := fun xs H Q => ∃ (x : V) (tp : Addr) (cs : List V) (t : Value) (us : List Value) (b : Bool), xs = [x, .ref tp] ∧ H tp = some (.tup cs) ∧ Paired ClsV cs us ∧ TyY K H x t ∧ PySem.W.kitAny K t us = some b ∧ Q (.bl b) H
theorem call_isiY {Y : Cx} : CallR Y (.builtin "isinstance") (rIsiY Y.K) := by
  intro pins s σ H xs us Q I r h
  obtain ⟨x, c, t, u, b, rfl, k, ty, e, q⟩ := h
  obtain ⟨u1, u2, rfl, r1, r2⟩ := vals2 r
  have e2 := k.eq r2
  subst e2
  obtain ⟨P, Z, p, hx⟩ := kit_ofY I r1 ty
  exact PySem.W.kia_one Z I.kIn p e hx fun tk => ⟨.bl b, H, I.tok tk, rfl, q⟩
theorem call_isiTY {Y : Cx} : CallR Y (.builtin "isinstance") (rIsiTY Y.K) := by
  intro pins s σ H xs us Q I r h
  obtain ⟨x, tp, cs, t, ws, b, rfl, hT, k, ty, e, q⟩ := h
  obtain ⟨u1, u2, rfl, r1, r2⟩ := vals2 r
  cases (show u2 = Value.ref tp from r2)
  obtain ⟨P, Z, p, hx⟩ := kit_ofY I r1 ty
  obtain ⟨_, its, rv, o, h1, h2, n, h3⟩ := (show ObjOk Y.prog Y.w H s.heap tp (.tup cs) from I.hok tp _ hT)
  have e3 := ClsV.all k rv
  subst e3
  obtain ⟨oc, od, dt, sl⟩ := o
  simp only at h2 h3
  subst h2 h3
  exact PySem.W.kia_tup Z I.kIn p h1 e hx fun tk => ⟨.bl b, H, I.tok tk, rfl, q⟩
theorem ty_ok {G : Gh} {H : Hp} {d : D} {v : V} {t : String} (r : Rv K G H d v) (h : tyD d = some t) : TyY K H v (.type t) := by
  cases r with
  | non => cases h; exact .x (.base .non)
  | bl b => cases h; exact .x (.base (.bl b))
  | int b => cases h; exact .x (.base (.int b))
  | str b => cases h; exact .x (.base (.str b))
  | lst h1 _ => cases h; exact .x (.base (.lst h1))
  | tup h1 _ _ => cases h; exact .x (.base (.tup h1))
  | dicT h1 _ =>
    cases h
    rcases h1 with h1 | ⟨o, h1⟩
    · exact .x (.base (.dT h1))
    · exact .fT h1
  | _ => cases h
def clsD : D → Option (List String)
  | .ty n => some [n]
  | .tup l => l.mapM fun d => match d with
    | .ty n => some n
    | _ => none
  | _ => none
def kitS (t : String) : List String → Option Bool
  | [] => some false
  | c :: r => match kitB t c with
    | some true => some true
    | some false => kitS t r
    | none => none
def bIsi : ON := fun xs q => match xs with
  | [x, .ty c] => ∃ t b, tyD x = some t ∧ kitB t c = some b ∧ q (.bl b)
  | [x, .tup l] => ∃ t cs b, tyD x = some t ∧ l = cs.map D.ty ∧ kitS t cs = some b ∧ q (.bl b)
  | _ => False
theorem kitS_ok {t : String} {b : Bool} : ∀ {cs : List String}, kitS t cs = some b → PySem.W.kitAny K (.type t) (cs.map fun c => Value.type c) = some b
  | [], h => h
  | c :: cs, h => by
    have h' : (match kitB t c with | some true => some true | some false => kitS t cs | none => none) = some b := h
    show (match PySem.W.kitOne K (.type t) (.type c) with | some true => some true | some false => PySem.W.kitAny K (.type t) (cs.map fun c => Value.type c) | none => none) = some b
    cases hk : kitB t c with
    | none => rw [hk] at h'; cases h'
    | some x =>
      rw [kit_ty hk]
      rw [hk] at h'
      cases x with
      | true => exact h'
      | false => exact kitS_ok h'
theorem tys_ok {G : Gh} : ∀ {cs : List String} {vs : List V}, Reps K G (cs.map D.ty) vs → vs = cs.map V.ty
  | [], _, .nil => rfl
  | c :: cs, _, .cons h r => by
    cases h
    rw [tys_ok (cs := cs) r]; rfl
theorem cls_tys : ∀ (cs : List String), Paired ClsV (cs.map V.ty) (cs.map fun c => Value.type c)
  | [] => .nil
  | c :: cs => .cons (.ty c) (cls_tys cs)
theorem cb_isi : CB X (.builtin "isinstance") bIsi := ⟨_, CallR.or call_isiY call_isiTY, fun G st H xs ds Q q s r h t => by
  unfold bIsi at h
  split at h
  · obtain ⟨ty, b, h1, h2, h⟩ := h
    cases r with
    | cons r1 r2 =>
      cases r2 with
      | cons r2 r3 =>
        cases r2; cases r3
        exact .inl ⟨_, _, _, _, b, rfl, .ty _, ty_ok r1 h1, kit_ty h2, t.here s (.bl _) h⟩
  · obtain ⟨ty, cs, b, h1, rfl, h2, h⟩ := h
    cases r with
    | cons r1 r2 =>
      cases r2 with
      | cons r2 r3 =>
        cases r3
        cases r2 with
        | tup ht rt _ =>
          have := tys_ok rt
          subst this
          exact .inr ⟨_, _, _, _, _, b, rfl, ht, cls_tys cs, ty_ok r1 h1, kitS_ok h2, t.here s (.bl _) h⟩
  · exact h.elim⟩
/-- a built-in class's name as a value -/
theorem ax_ty {x : Str} {n : String} {pos : Pos} (hm : X.mg x = none) (hv : bootBuiltins x = some (.type n)) (hg : Gl X x := by rfl) (hn : x ≠ "__name__" := by decide) (hd : (x == ("__debug__" : Str)) = false := by decide) : AX X W (.Name x pos) (aC (.ty n)) := ⟨_, pe_bltn (v := .ty n) hg hm hv rfl hn hd, refE_c fun _ => .ty n⟩
/-- all, any, sum of lists -/
theorem bls_ok {G : Gh} : ∀ {bs : List Bool} {vs : List V}, Reps K G (bs.map D.bl) vs → vs = bs.map V.bl
  | [], _, .nil => rfl
  | c :: cs, _, .cons h r => by
    cases h
    rw [bls_ok (bs := cs) r]; rfl
theorem ints_ok {G : Gh} : ∀ {bs : List Int} {vs : List V}, Reps K G (bs.map D.int) vs → vs = bs.map V.int
  | [], _, .nil => rfl
  | c :: cs, _, .cons h r => by
    cases h
    rw [ints_ok (bs := cs) r]; rfl
def bAll : ON := fun xs q => ∃ bs : List Bool, xs = [.lst (bs.map D.bl)] ∧ q (.bl (bs.all id))
def bAny : ON := fun xs q => ∃ bs : List Bool, xs = [.lst (bs.map D.bl)] ∧ q (.bl (bs.any id))
def bSum : ON := fun xs q => ∃ ns : List Int, xs = [.lst (ns.map D.int)] ∧ q (.int ns.sum)
theorem cb_all (C : CxE X W k) : CB X (.builtin "all") bAll := ⟨_, cr_all C.calm, fun G st H xs ds Q q s r ⟨bs, eb, h⟩ t => by
  subst eb
  cases r with
  | cons r1 r2 =>
    cases r2
    cases r1 with
    | lst h1 r1 =>
      have := bls_ok r1
      subst this
      exact ⟨_, bs, rfl, SqL.of h1, t.here s (.bl _) h⟩⟩
theorem cb_any (C : CxE X W k) : CB X (.builtin "any") bAny := ⟨_, cr_any C.calm, fun G st H xs ds Q q s r ⟨bs, eb, h⟩ t => by
  subst eb
  cases r with
  | cons r1 r2 =>
    cases r2
    cases r1 with
    | lst h1 r1 =>
      have := bls_ok r1
      subst this
      exact ⟨_, bs, rfl, SqL.of h1, t.here s (.bl _) h⟩⟩
theorem cb_sum (C : CxE X W k) : CB X (.builtin "sum") bSum := ⟨_, cr_sum C.calm, fun G st H xs ds Q q s r ⟨bs, eb, h⟩ t => by
  subst eb
  cases r with
  | cons r1 r2 =>
    cases r2
    cases r1 with
    | lst h1 r1 =>
      have := ints_ok r1
      subst this
      exact ⟨_, bs, rfl, SqL.of h1, t.here s (.int _) h⟩⟩
end
end AM
set_option Elab.async false
set_option linter.all false
set_option maxRecDepth 100000
set_option maxHeartbeats 4000000
namespace AM
open PySem PySem.W PySem.Calls PyProof.Rows
/-! ### an own error's __init__: super().__init__(text), then at most one field -/
section
variable {prog : Program} {w : World} {A : Around} {E : Value → Shared → Prop} {h : Heap} {g : Array GenState} {d : Drawn} {t : Nat} {os : OsState}
variable {nm q : Str} {C N : Addr} {bs bm : List Value} {hdct : Bool} {sn : List Str} {sub : List Value} {ab : Bool} {col : Option Bool} {dd : Option Addr} {k0 k1 k2 k3 k5 : Option Value}
theorem call_mw {u e t0 : Addr} {rest : List Value} {Q : Value → Shared → Prop}
    (hC : h.get? C = some (excClassObj nm q C N bs bm hdct sn sub ab col dd k0 k1 k2 k3 k5 "ValueError.__new__")) (he : h.get? e = some (HandSPX.excO C t0)) (hu : h.get? u = some (kxs_mw "ValueError.__init__" e)) (hrest : rest.length ≤ sizeLine)
    (hq : ∀ h' t1, (∀ b o, b ≠ e → h.get? b = some o → h'.get? b = some o) → h'.get? e = some (HandSPX.excO C t1) → h.objs.size ≤ h'.objs.size → Q .none ⟨h', g, d, t, os⟩) :
    wpAny (model prog w) A (call (.ref u) rest) Q E ⟨h, g, d, t, os⟩ := by
  refine wpAny_call (codeAny_of_tree ?_)
  show wpAny _ A.in1 (callAny (.ref u) ⟨rest, []⟩) _ _ _
  simp only [callAny]
  refine wpAny_bind (wpAny_load hu ?_)
  simp only [kxs_mw, show (Value.type "method-wrapper" == Value.type "method" || Value.type "method-wrapper" == Value.type "builtin_function_or_method" || Value.type "method-wrapper" == Value.type "method-wrapper") = true by decide, if_true]
  refine KFB.if_so (by decide) ?_
  refine wpAny_bind (check_bound_init F.excBase_ValueError.toExcCallFacts hC he rfl ?_)
  refine wpAny_bind (wpAny_pure (wpAny_pure ?_))
  refine ⟨Code.quiet_builtin _ (by decide +kernel), codeAny_builtin F.excBase_ValueError.initEntry ?_⟩
  rw [Around.under_plainId F.excBase_ValueError.init.plain _]
  wp_walk
  refine hq _ h.objs.size (fun b o hb ho => ?_) ?_ ?_
  · rw [Heap.get?_update_other _ _ (Ne.symm hb)]
    exact Heap.get?_push_of_some _ ho
  · rw [Heap.get?_update_self _ (Heap.get?_push_of_some _ he) rfl]
    rfl
  · rw [Heap.size_update, Heap.size_push]; exact Nat.le_succ _
end
/-- what is known of the class and of its __init__ -/
structure XC (P : Program) (K : Frag) (mg : Str → Option Value) (C f : Addr) (fd : FuncData) (params : Arguments) (body : List Stmt) (scope : Scope) : Prop where
  ox : L2.OexC K C
  fn : ∃ (qual : Str) (kV doc pm ct oc : Value) (an od : Option Addr) (osl : Array (Option Value)) (cc cda : Addr) (cl : Value) (cld : Option Addr) (csl : Array (Option Value)) (ccl : Value) (cdd : Option Addr) (vs : Array Value) (ccs : Array (Option Value)) (tf : Tok),
    fd = ksFn "__init__" qual params body scope .none kV doc pm an (.ref cda) ct cc ∧ K.lookup f = some ⟨oc, od, .func fd, osl⟩ ∧ codeIn K (.ref cda) qual = true ∧ K.lookup cc = some ⟨cl, cld, .cell (some (.ref C)), csl⟩ ∧
    K.lookup cda = some ⟨ccl, cdd, .fields vs, ccs⟩ ∧ vs[2]? = some (.str P.main.file tf)
  su : ks_superIn K C C "__init__" = some (some (.builtin "ValueError.__init__"))
  ve : subIn K (.ref C) (.type "ValueError") = some true
  mr : mroIn K C (.ref C) = some true
  st : nsIn K cStatics "thirdparty.any" = some none
  mgs : mg "super" = none
  top : (P.main.scope.names.lookup ("super" : Str)).isSome = false
  ini : findIn K (.ref C) "__init__" = some (some (.ref f))
  tyf : typeIn K (.ref f) = some (.type "function")
section
variable {P : Program} {w : World} {K : Frag} {mg : Str → Option Value} {C f : Addr} {fd : FuncData} {params : Arguments} {body : List Stmt} {scope : Scope} {A : Around} {R : Result → Shared → Prop} {base : Heap}
/-- the run of super().__init__(text) within the def's frame -/
theorem run_super {rest : List Stmt} {E : Value → Shared → Prop} {L cc cda e t0 : Addr} {qual : Str} {dV kV doc pm ct oc : Value} {an od : Option Addr} {osl : Array (Option Value)} {cl : Value} {cld : Option Addr} {csl : Array (Option Value)} {ccl : Value} {cdd : Option Addr} {vs : Array Value} {ccs : Array (Option Value)} {tf : Tok} {body : List Stmt}
    {m : Str → Option Value} {hh : Heap} {g : Array GenState} {d : Drawn} {t : Nat} {os : OsState} {txt : Str} {k : Nat} {p0 p1 p2 p3 p4 p5 : Pos} {ar : PySem.Arg} {Q : Flow → Shared → Prop}
    (ox : L2.OexC K C) (hf : K.lookup f = some ⟨oc, od, .func (ksFn "__init__" qual params body scope dV kV doc pm an (.ref cda) ct cc), osl⟩) (hcell : K.lookup cc = some ⟨cl, cld, .cell (some (.ref C)), csl⟩) (hcode : K.lookup cda = some ⟨ccl, cdd, .fields vs, ccs⟩) (hvs : vs[2]? = some (.str P.main.file tf))
    (su : ks_superIn K C C "__init__" = some (some (.builtin "ValueError.__init__"))) (ve : subIn K (.ref C) (.type "ValueError") = some true) (mr : mroIn K C (.ref C) = some true) (st : nsIn K cStatics "thirdparty.any" = some none) (mgs : mg "super" = none) (top : (P.main.scope.names.lookup ("super" : Str)).isSome = false)
    (X : K.In hh) (G : hh.Ns mainGlobals mg) (B : ∃ mb, hh.Ns builtinsNs mb ∧ ∀ x : Str, x ≠ "__name__" → mb x = bootBuiltins x) (hL : hh.Ns L m) (hself : m "self" = some (.ref e)) (he : hh.get? e = some (HandSPX.excO C t0))
    (hev : ∀ env : Env, ∃ pl : Sem Bool, eval (.Call (.Attribute (.Call (.Name "super" p0) [] [] p1) "__init__" p2) [.Constant (.str txt) k p3] [] p4) env = (do
      let ov ← attributeBase (.Call (.Name "super" p0) [] [] p1) "__init__" env (eval (.Call (.Name "super" p0) [] [] p1) env)
      standAt p2.atName
      let (f, first) ← holding [ov] (getMethod ov "__init__" pl)
      callWith p4 f first (backTo p4 (starEach [.Constant (.str txt) k p3] env)) []))
    (hp : (params.posonlyargs ++ params.args).head? = some ar) (har : ar.arg = "self") (hks : scope.names.lookup ("super" : Str) = some .globalImplicit) (hkc : scope.names.lookup ("__class__" : Str) = some .free) (hka : scope.names.lookup ("self" : Str) = some .local) (hk : scope.kind = .function)
    (h : ∀ h' t1 tk, (∀ b o, b ≠ e → hh.get? b = some o → h'.get? b = some o) → h'.get? e = some (HandSPX.excO C t1) → hh.objs.size ≤ h'.objs.size → _root_.PySem.wpAt (model P w) A (.func body (ksEnv qual scope L f (.ref cda) cc)) (execs rest (ksEnv qual scope L f (.ref cda) cc)) Q E ⟨h', g, d, tk, os⟩) :
    _root_.PySem.wpAt (model P w) A (.func body (ksEnv qual scope L f (.ref cda) cc)) (execs (.Expr (.Call (.Attribute (.Call (.Name "super" p0) [] [] p1) "__init__" p2) [.Constant (.str txt) k p3] [] p4) p5 :: rest) (ksEnv qual scope L f (.ref cda) cc)) Q E ⟨hh, g, d, t, os⟩ := by
  obtain ⟨nm, q, N, bs, bm, sn, sub, ab, col, dd, k0, k1, k2, k3, k5, hC, hbm⟩ := ox.cls
  obtain ⟨mb, hmb, hbb⟩ := B
  have hcd : clsIn K C = some { name := nm, bases := bs, mro := .ref C :: bm, ns := N, qualname := q, hasDict := true, slotNames := sn, subclasses := sub, abstract := ab, collection := col, hasDel := false } := by unfold clsIn; rw [hC] <;> rfl
  have I : InstAt hh e (HandSPX.excO C t0) C none := ⟨he, rfl, rfl, trivial⟩
  obtain ⟨pl, hev⟩ := hev (ksEnv qual scope L f (.ref cda) cc)
  refine ks_wpAt_execs_cons (ks_wpAt_Expr_any (ks_wpAt_MethodCall (pl := pl) ?_ hev) (by show interactive _ = false; simp [interactive, hk]) rfl)
  refine ks_wpAt_super_base (env := ksEnv qual scope L f (.ref cda) cc) hks hkc (by decide) rfl (X _ _ hf) rfl hp rfl (X _ _ hcode) rfl hvs (by simp) top ?_
  refine ks_loadName_global hk hks (loadGlobal_builtin (env := ksEnv qual scope L f (.ref cda) cc) G mgs hmb ((hbb _ (by decide +kernel)).trans (by decide +kernel)) ⟨rfl, ?_⟩)
  refine wpAny_loadName_free hk hkc rfl ⟨_, X _ _ hcell, rfl⟩ ?_
  rw [har]
  refine wpAny_loadName_local hk hka hL hself ?_
  refine ks_wpAny_isType_cls (X _ _ hC) rfl ⟨rfl, ?_⟩
  refine ks_wpAny_call_super (X _ _ hC) rfl he rfl (fun c z => by cases z) (looks_mroIn X mr) (fun h1 e1 k1 => ?_)
  have X1 : K.In h1 := X.keeps k1
  have I1 : InstAt h1 e (HandSPX.excO C t0) C none := ⟨k1 _ _ he, rfl, rfl, trivial⟩
  unfold ks_superIn at su
  rw [hcd] at su
  refine kxs_getMethod kxs_ValueError (so := hh.objs.size) (D := C) (x := e) (C := C) e1 (looks_opaque X1 st) (l₀ := .ref C :: bm) ?_ rfl X1 su (I1.type.andThen (looks_subIn X1 ve)) (ks_ne X1 I1 hcd) (by decide) ?_
  · exact fun A Q E s k q => wpAny_bind ((looks_clsIn X1 hcd) A _ E s k (wpAny_pure q))
  have hu : (h1.push (kxs_mw "ValueError.__init__" e)).get? h1.objs.size = some (kxs_mw "ValueError.__init__" e) := Heap.get?_push_size _ rfl
  have k2 : ∀ b o, h1.get? b = some o → (h1.push (kxs_mw "ValueError.__init__" e)).get? b = some o := fun b o z => Heap.get?_push_of_some _ z
  refine kxs_callWith (i := "ValueError.__init__") (x := e) rfl ?_
  refine evalArgs_plain (spliced_cons (Calls.Constant_str (k := k) (pos := p3) ?_))
  refine Calls.spliced_nil ⟨hu, ?_⟩
  refine call_mw (t0 := t0) (X1.keeps k2 _ _ hC) (k2 _ _ (k1 _ _ he)) hu (by show 1 ≤ sizeLine; decide) fun h' t1 k3 e3 z3 => ?_
  refine h h' t1 _ (fun b o hb ho => k3 b o hb (k2 _ _ (k1 _ _ ho))) e3 ?_
  have e5 : hh.objs.size < h1.objs.size := Heap.lt_size e1
  rw [Heap.size_push] at z3
  omega
end
open L2 in
/-- no field -/
def spX0 (C : Addr) : L2.Sp := fun vs H Q _ => ∃ e : Addr, vs = [.ref e] ∧ H e = some (L2.exo e C none) ∧ Q .non H
open L2 in
/-- one field -/
def spX1 (C : Addr) (fld : Str) : L2.Sp := fun vs H Q _ => ∃ (e : Addr) (v : V), vs = [.ref e, v] ∧ H e = some (L2.exo e C none) ∧ ∀ dx, H dx = none → dx ≠ e → Q .non (L2.upd (L2.upd H dx (L2.exd dx [(fld, v)])) e (L2.exo e C (some dx)))
section
open L2
variable {P : Program} {w : World} {K : Frag} {mg : Str → Option Value} {C f : Addr} {fd : FuncData} {params : Arguments} {scope : Scope} {base : Heap} {CX : CXT}
theorem ns_keep {h h' : Heap} {L e : Addr} {m : Str → Option Value} (n : h.Ns L m) (ne : L ≠ e) (k : ∀ b o, b ≠ e → h.get? b = some o → h'.get? b = some o) : h'.Ns L m := by
  obtain ⟨o, es, ep, ho, r⟩ := n
  exact ⟨o, es, ep, k _ _ ne ho, r⟩
theorem ns_lt {h : Heap} {L : Addr} {m : Str → Option Value} (n : h.Ns L m) : L < h.objs.size := by
  obtain ⟨o, es, ep, ho, r⟩ := n
  exact Heap.lt_size ho
/-- the tracked things but e, where e's own object has changed -/
theorem un_at {fs : List Addr} {H H' : Hp} {h h' : Heap} {e : Addr} {x : HO} (hx : H e = some x) (k : ∀ b o, b ≠ e → h.get? b = some o → h'.get? b = some o) (he : ∃ o, h'.get? e = some o) (fr : ∀ b o, h.get? b = some o → H b = none → H' b = none)
    (tu : ∀ b xs, H b = some (.tup xs) → H' b = some (.tup xs)) (fz : ∀ b o v, H b = some (.frz o v) → H' b = some (.frz o v)) (tb : ∀ b ps, H b = some (.tbl ps) → H' b = some (.tbl ps)) : Un fs [] H H' h h' where
  keep := fun b o q n _ _ => k b o (fun z => by rw [z, hx] at n; cases n) q
  slot := fun b o q n _ _ => ⟨o.slots, k b o (fun z => by rw [z, hx] at n; cases n) q⟩
  free := fun b o q n _ => fr b o q n
  there := fun b o q _ => by
    by_cases hb : b = e
    · rw [hb]; exact he
    · exact ⟨o, k b o hb q⟩
  tups := tu
  frzs := fz
  tbls := fun b ps q => ⟨#[], by rw [tb b ps q]; simp⟩
theorem xfn0 {txt : Str} {k : Nat} {p0 p1 p2 p3 p4 p5 : Pos} {ar : PySem.Arg} {j : Nat}
    (T : XC P K mg C f fd params [.Expr (.Call (.Attribute (.Call (.Name "super" p0) [] [] p1) "__init__" p2) [.Constant (.str txt) k p3] [] p4) p5] scope)
    (hev : ∀ env : Env, ∃ pl : Sem Bool, eval (.Call (.Attribute (.Call (.Name "super" p0) [] [] p1) "__init__" p2) [.Constant (.str txt) k p3] [] p4) env = (do
      let ov ← attributeBase (.Call (.Name "super" p0) [] [] p1) "__init__" env (eval (.Call (.Name "super" p0) [] [] p1) env)
      standAt p2.atName
      let (f, first) ← holding [ov] (getMethod ov "__init__" pl)
      callWith p4 f first (backTo p4 (starEach [.Constant (.str txt) k p3] env)) []))
    (hp : (params.posonlyargs ++ params.args).head? = some ar) (har : ar.arg = "self") (hks : scope.names.lookup ("super" : Str) = some .globalImplicit) (hkc : scope.names.lookup ("__class__" : Str) = some .free) (hka : scope.names.lookup ("self" : Str) = some .local) (hk : scope.kind = .function)
    (hcell : ∀ x ∈ scope.names, x.2 ≠ .cell) (hco : scope.isCoroutine = false) (hgen : scope.isGenerator = false) : FnOk P w K mg base CX (j + 1) f fd ["self"] (spX0 C) := by
  obtain ⟨qual, kV, doc, pm, ct, oc, an, od, osl, cc, cda, cl, cld, csl, ccl, cdd, vs, ccs, tf, rfl, lk, hcd, hcc, hcda, hvs⟩ := T.fn
  refine ⟨fun vs H Q E h => ?_, fun A outer s H args us vs Q E hr e0 hb r h => ?_⟩
  · obtain ⟨e, rfl, _⟩ := h
    rfl
  · obtain ⟨e, rfl, hx, hq⟩ := h
    cases r with
    | @cons _ u0 _ ur ra rr =>
    cases rr
    obtain rfl : u0 = Value.ref e := ra
    have KX : K.In s.heap := e0.mod.kin.keeps fun b o z => (e0.bs b o z).1
    obtain ⟨t1, he⟩ := exo_at e0.hok hx
    have hel := Heap.lt_size he
    refine ks_codeAny_call_defAt (fd := ksFn "__init__" qual params _ scope .none kV doc pm an (.ref cda) ct cc) (body := _) (binds := (["self"] : List Str).zip [Value.ref e]) (by have := hr.dp; omega) (KX _ _ lk) rfl (e0.mod.nolimit.keeps fun b o z => (e0.bs b o z).1) (codeRec_of KX hcd) rfl hb hcell (fun x hx => ?_) (fun h0 hns hk0 => ?_) hco hgen hk
    · have : x = (("self" : Str), Value.ref e) := by simpa using hx
      subst this
      exact hka
    · obtain ⟨hh, gg, dd, tt, oo⟩ := s
      refine run_super (L := hh.objs.size) (e := e) (t0 := t1) (m := fun x => ((["self"] : List Str).zip [Value.ref e]).reverse.lookup x) T.ox lk hcc hcda hvs T.su T.ve T.mr T.st T.mgs T.top (KX.keeps hk0) (e0.mod.glob.keeps fun b o z => hk0 _ _ (e0.bs b o z).1) ?_ hns rfl (hk0 _ _ he) hev hp har hks hkc hka hk fun h2 t2 tk k2 e2 z2 => ?_
      · obtain ⟨mb, hmb, hbb⟩ := e0.mod.blt
        exact ⟨mb, hmb.keeps fun b o z => hk0 _ _ (e0.bs b o z).1, hbb⟩
      · refine wpAt_of_wpAny (wpAny_execs_nil ?_)
        have kk : ∀ b o, b ≠ e → hh.get? b = some o → h2.get? b = some o := fun b o hb z => k2 b o hb (hk0 _ _ z)
        refine ⟨.non, H, rfl, e0.bare, un_at hx kk ⟨_, e2⟩ (fun _ _ _ z => z) (fun _ _ z => z) (fun _ _ _ z => z) (fun _ _ z => z), fun b o z => ?_, rfl, hq⟩
        by_cases hb : b = e
        · subst hb
          rw [hx] at z
          cases z
          exact exo_ok e2
        · exact (e0.hok b o z).stay (fun c v hc y => kk c v (by
            rcases hc with hc | hc
            · rw [hc]; exact hb
            · exact at_ne hx hc exo_own) y) (fun c hc => hc) (fun c xs hc => hc)
theorem xfn1 {txt fld : Str} {k : Nat} {p0 p1 p2 p3 p4 p5 p6 p7 p8 p9 : Pos} {ar : PySem.Arg} {j : Nat}
    (T : XC P K mg C f fd params [.Expr (.Call (.Attribute (.Call (.Name "super" p0) [] [] p1) "__init__" p2) [.Constant (.str txt) k p3] [] p4) p5, .Assign [.Attribute (.Name "self" p6) fld p7] (.Name fld p8) p9] scope)
    (hev : ∀ env : Env, ∃ pl : Sem Bool, eval (.Call (.Attribute (.Call (.Name "super" p0) [] [] p1) "__init__" p2) [.Constant (.str txt) k p3] [] p4) env = (do
      let ov ← attributeBase (.Call (.Name "super" p0) [] [] p1) "__init__" env (eval (.Call (.Name "super" p0) [] [] p1) env)
      standAt p2.atName
      let (f, first) ← holding [ov] (getMethod ov "__init__" pl)
      callWith p4 f first (backTo p4 (starEach [.Constant (.str txt) k p3] env)) []))
    (hp : (params.posonlyargs ++ params.args).head? = some ar) (har : ar.arg = "self") (hks : scope.names.lookup ("super" : Str) = some .globalImplicit) (hkc : scope.names.lookup ("__class__" : Str) = some .free) (hka : scope.names.lookup ("self" : Str) = some .local) (hkf : scope.names.lookup fld = some .local) (hk : scope.kind = .function)
    (hcell : ∀ x ∈ scope.names, x.2 ≠ .cell) (hco : scope.isCoroutine = false) (hgen : scope.isGenerator = false) (hno : findIn K (.ref C) fld = some none) (hsf : ("self" : Str) ≠ fld) (hdb : (fld == ("__debug__" : Str)) = false) (hsw : ∀ env : Env, swapsWith (.Name fld p8) (some (.Attribute (.Name "self" p6) fld p7)) p9.line env = pure false) :
    FnOk P w K mg base CX (j + 1) f fd ["self", fld] (spX1 C fld) := by
  obtain ⟨qual, kV, doc, pm, ct, oc, an, od, osl, cc, cda, cl, cld, csl, ccl, cdd, vs, ccs, tf, rfl, lk, hcd, hcc, hcda, hvs⟩ := T.fn
  refine ⟨fun vs H Q E h => ?_, fun A outer s H args us vs Q E hr e0 hb r h => ?_⟩
  · obtain ⟨e, v, rfl, _⟩ := h
    rfl
  · obtain ⟨e, v, rfl, hx, hq⟩ := h
    cases r with
    | @cons _ u0 _ ur ra rr =>
    cases rr with
    | @cons _ u1 _ ur rv rr =>
    cases rr
    obtain rfl : u0 = Value.ref e := ra
    have KX : K.In s.heap := e0.mod.kin.keeps fun b o z => (e0.bs b o z).1
    obtain ⟨t1, he⟩ := exo_at e0.hok hx
    have hel := Heap.lt_size he
    refine ks_codeAny_call_defAt (fd := ksFn "__init__" qual params _ scope .none kV doc pm an (.ref cda) ct cc) (body := _) (binds := (["self", fld] : List Str).zip [Value.ref e, u1]) (by have := hr.dp; omega) (KX _ _ lk) rfl (e0.mod.nolimit.keeps fun b o z => (e0.bs b o z).1) (codeRec_of KX hcd) rfl hb hcell (fun x hx => ?_) (fun h0 hns hk0 => ?_) hco hgen hk
    · have : x = (("self" : Str), Value.ref e) ∨ x = (fld, u1) := by simpa using hx
      rcases this with rfl | rfl
      · exact hka
      · exact hkf
    · obtain ⟨hh, gg, dd, tt, oo⟩ := s
      have m1 : ((["self", fld] : List Str).zip [Value.ref e, u1]).reverse.lookup ("self" : Str) = some (.ref e) := by
        show ([(fld, u1), (("self" : Str), Value.ref e)]).lookup ("self" : Str) = some (.ref e)
        have : (("self" : Str) == fld) = false := by simpa using hsf
        simp [List.lookup, this]
      have m2 : ((["self", fld] : List Str).zip [Value.ref e, u1]).reverse.lookup fld = some u1 := by
        show ([(fld, u1), (("self" : Str), Value.ref e)]).lookup fld = some u1
        simp [List.lookup]
      refine run_super (L := hh.objs.size) (e := e) (t0 := t1) (m := fun x => ((["self", fld] : List Str).zip [Value.ref e, u1]).reverse.lookup x) T.ox lk hcc hcda hvs T.su T.ve T.mr T.st T.mgs T.top (KX.keeps hk0) (e0.mod.glob.keeps fun b o z => hk0 _ _ (e0.bs b o z).1) ?_ hns m1 (hk0 _ _ he) hev hp har hks hkc hka hk fun h2 t2 tk k2 e2 z2 => ?_
      · obtain ⟨mb, hmb, hbb⟩ := e0.mod.blt
        exact ⟨mb, hmb.keeps fun b o z => hk0 _ _ (e0.bs b o z).1, hbb⟩
      · have kk : ∀ b o, b ≠ e → hh.get? b = some o → h2.get? b = some o := fun b o hb z => k2 b o hb (hk0 _ _ z)
        have ns2 := ns_keep hns (Ne.symm (Nat.ne_of_lt hel)) k2
        obtain ⟨nm, q, N, bs, bm, sn, sub, ab, col, dd', k0, k1, k2', k3, k5, hC, hbm⟩ := T.ox.cls
        have hcl : clsIn K C = some { name := nm, bases := bs, mro := .ref C :: bm, ns := N, qualname := q, hasDict := true, slotNames := sn, subclasses := sub, abstract := ab, collection := col, hasDel := false } := by unfold clsIn; rw [hC] <;> rfl
        have KC : K.In h2 := fun a o z => by
          refine kk a o (fun y => ?_) (KX a o z)
          subst y
          have y := e0.mod.kin a o z
          have y2 := (e0.bs a o y).2
          rw [hx] at y2
          cases y2
        refine ks_wpAt_execs_cons (ks_wpAt_Assign_Attr (wpAt_of_wpAny (wpAny_Name (wpAny_loadName_local hk hkf ns2 m2 ?_) hdb)) (hsw _))
        refine wpAny_Name (wpAny_loadName_local hk hka ns2 m1 ?_) (by decide)
        refine set_plain KC (ox := HandSPX.excO C t2) (od := none) ⟨e2, rfl, rfl, trivial⟩ T.ox.sa ?_
        refine HandSPX.exc_osa KC e2 hcl (show HandSPX.refsVE (.ref C :: bm) = true from hbm) rfl hno (fun h3 tk3 dx k3 dn dne hx3 hn3 => ?_)
        refine wpAt_of_wpAny (wpAny_execs_nil ?_)
        have nL : hh.objs.size < h0.objs.size := ns_lt hns
        have z5 : hh.objs.size ≤ dx := Nat.le_trans (Nat.le_of_lt nL) (Nat.le_trans z2 dn)
        have hnd : H dx = none := e0.hok.fresh z5
        have kk3 : ∀ b o, b ≠ e → hh.get? b = some o → h3.get? b = some o := fun b o hb z => k3 b o hb (kk b o hb z)
        have nd : ∀ {b : Addr} {o : Obj}, hh.get? b = some o → b ≠ dx := fun {b o} z y => by
          have z6 := Heap.lt_size z
          rw [y] at z6
          exact absurd z6 (Nat.not_lt_of_le z5)
        have na : ∀ {b : Addr}, H b = none → b ≠ e := fun {b} n z => by
          rw [z, hx] at n
          cases n
        refine ⟨.non, _, rfl, e0.bare, un_at hx kk3 ⟨_, hx3⟩ (fun b o z n => by rw [upd_ne (na n), upd_ne (nd z)]; exact n) (fun b xs z => by rw [upd_ne (at_ne hx z exo_tup), upd_ne (ne_of_none z hnd)]; exact z) (fun b o v z => by rw [upd_ne (at_ne hx z exo_frz), upd_ne (ne_of_none z hnd)]; exact z) (fun b ps z => by rw [upd_ne (at_ne hx z exo_tbl), upd_ne (ne_of_none z hnd)]; exact z), fun b o z => ?_, rfl, hq dx hnd dne⟩
        by_cases hb : b = e
        · subst hb
          rw [upd_same] at z
          cases z
          exact exo_ok hx3
        · rw [upd_ne hb] at z
          by_cases hd : b = dx
          · subst hd
            rw [upd_same] at z
            cases z
            exact exd_ok hn3 (relO_put (fs := []) rv fun g => True.intro)
          · rw [upd_ne hd] at z
            exact (e0.hok b o z).stay (fun c v hc y => kk3 c v (by
              rcases hc with hc | hc
              · rw [hc]; exact hb
              · exact at_ne hx hc exo_own) y)
              (fun c hc => by rw [upd_ne (at_ne hx hc exo_own), upd_ne (ne_of_none hc hnd)]; exact hc) (fun c xs hc => by rw [upd_ne (at_ne hx hc exo_tup), upd_ne (ne_of_none hc hnd)]; exact hc)
end
end AM
set_option Elab.async false
set_option linter.all false
set_option maxRecDepth 100000
set_option maxHeartbeats 4000000
namespace AM
open PySem PySem.Spec PyProof.Rows L2 Evl
section
variable {X : Cx} {e : Expr} {es : List Expr} {ta : TA} {p pos : Pos}
theorem mk_endN {pins : List (Addr × Obj)} {σ : L2.St} {H1 H2 : Hp} {Q : XK} {hp hp2 h2 : Heap} {g1 g2 : Array GenState} {d1 d2 : Drawn} {t1 t2 : Nat} {os1 os2 : OsState} {a C : Addr} (T : Raises X (.ref C)) (I1 : Inv X pins σ H1 ⟨hp, g1, d1, t1, os1⟩)
    (ha : hp.objs.size ≤ a) (k : ∀ b o, hp.get? b = some o → hp2.get? b = some o) (un : Un (frs X.stack) [] (upd H1 a (exo a C none)) H2 hp2 h2) (hok : HOk X.prog X.w H2 h2) (ho : os2 = os1) (hb : AllBare g2)
    (ea : H2 a = some (exo a C none)) (q : Q (.ref C) none (del H2 a)) : L2N.MkP X pins σ Q (.ref a) ⟨h2, g2, d2, t2, os2⟩ := by
  obtain ⟨t0, hoe⟩ := exo_at hok ea
  have hn : H1 a = none := I1.hok.fresh ha
  obtain ⟨G, g1', g2'⟩ := restrict h2 fun b => decide (b ≠ a)
  have gk : ∀ b, b ≠ a → G.get? b = h2.get? b := fun b hb => g1' b (decide_eq_true hb)
  have ge : G.get? a = none := g2' a (by simp)
  have nha : ∀ {b : Addr} {o : Obj}, hp.get? b = some o → b ≠ a := fun {b o} z => Nat.ne_of_lt (Nat.lt_of_lt_of_le (Heap.lt_size z) ha)
  have up : ∀ {b : Addr}, b ≠ a → H1 b = none → upd H1 a (exo a C none) b = none := fun {b} hb n => by rw [upd_ne hb]; exact n
  have U : Un (frs X.stack) [] H1 (del H2 a) hp G := {
    keep := fun b o z n hf hx => by
      rw [gk b (nha z)]
      exact un.keep b o (k b o z) (up (nha z) n) hf hx
    slot := fun b o z n hf hx => by
      rw [gk b (nha z)]
      exact un.slot b o (k b o z) (up (nha z) n) hf hx
    free := fun b o z n hx => by
      rw [del_ne (nha z)]
      exact un.free b o (k b o z) (up (nha z) n) hx
    there := fun b o z hx => by
      rw [gk b (nha z)]
      exact un.there b o (k b o z) hx
    tups := fun b xs z => by
      rw [del_ne (ne_of_none z hn)]
      exact un.tups b xs (by rw [upd_ne (ne_of_none z hn)]; exact z)
    frzs := fun b o v z => by
      rw [del_ne (ne_of_none z hn)]
      exact un.frzs b o v (by rw [upd_ne (ne_of_none z hn)]; exact z)
    tbls := fun b ps z => by
      rw [del_ne (ne_of_none z hn)]
      exact un.tbls b ps (by rw [upd_ne (ne_of_none z hn)]; exact z) }
  have hok3 : HOk X.prog X.w (del H2 a) G := fun b o z => by
    have hba : b ≠ a := fun e => by
      rw [e, del_same] at z
      cases z
    rw [del_ne hba] at z
    have noa : ∀ {c : Addr}, H2 c = some (.own b) → c ≠ a := fun {c} hc => at_ne ea hc exo_own
    exact (hok b o z).stay (fun c v hc y => by
        have hca : c ≠ a := by
          rcases hc with hc | hc
          · rw [hc]
            exact hba
          · exact noa hc
        rw [gk c hca]
        exact y)
      (fun c hc => by rw [del_ne (noa hc)]; exact hc) (fun c xs hc => by rw [del_ne (at_ne ea hc exo_tup)]; exact hc)
  have J : Inv X pins σ (del H2 a) ⟨G, g2, d2, t2, os2⟩ := I1.call' (ch := []) ho U hok3 hb (fun b z => absurd z (by simp))
  have kG : ∀ b o, G.get? b = some o → h2.get? b = some o := fun b o z => by
    by_cases hba : b = a
    · rw [hba, ge] at z
      cases z
    · exact (gk b hba).symm.trans z
  exact ⟨a, _, _, ⟨G, g2, d2, t2, os2⟩, _, .ref C, none, rfl, J, kG, ge, hoe, ⟨rfl, rfl, fun vs hv => by cases hv; rfl⟩, rfl, rfl, del_same, rfl, hb, T, q⟩
/-- C() -/
def tMk0 (C : Addr) : L2.St → Hp → XK → Prop := fun σ H Q => Q (.ref C) none H
theorem pmk_oex0 {CX : CXT} {x : Str} {C fI : Addr} {k : Nat} {fd : FuncData} {ps : List Str} (T : OexC X.K C) (iC : PySem.W.findIn X.K (.ref C) "__init__" = some (some (.ref fI))) (tI : PySem.W.typeIn X.K (.ref fI) = some (.type "function"))
    (F1 : FnOk X.prog X.w X.K X.mg X.base CX k fI fd ps (spX0 C)) (hr : Room (k + 1) X.A) (hb : Binds X.K fd ps []) (hx : Passes CX X (fun _ _ _ => False)) (hg : Gl X x) (hm : X.mg x = some (.ref C))
    (hdb : (x == ("__debug__" : Str)) = false := by decide) :
    L2N.PMk X (.Call (.Name x p) [] [] pos) (tMk0 C) := by
  intro pins s σ H Q I h
  obtain ⟨nm, q, N, bs, bm, sn, sub, ab, col, dd, k0, k1, k2, k3, k5, hC, hbm⟩ := T.cls
  refine wpAny_Call_Name_kw (ld_glob I hg hm ?_ hdb)
  refine PySem.W.callWith_K0 I.kIn T.kC ?_
  show wpAny _ _ (call (.ref C) []) _ _ _
  obtain ⟨hp, g, dr, tk, os⟩ := s
  have hsz : hp.objs.size ≤ hp.objs.size + 1 := Nat.le_succ _
  have hn : H (hp.objs.size + 1) = none := I.hok.fresh hsz
  have kk : ∀ b o, hp.get? b = some o → ((hp.push (PySem.W.kdv_tup [])).push (PySem.HandSPX.excO C hp.objs.size)).get? b = some o := fun b o e => Heap.get?_push_of_some _ (Heap.get?_push_of_some _ e)
  have hget : ((hp.push (PySem.W.kdv_tup [])).push (PySem.HandSPX.excO C hp.objs.size)).get? (hp.objs.size + 1) = some (PySem.HandSPX.excO C hp.objs.size) := by heap_get
  have I2 : Inv X pins σ (upd H (hp.objs.size + 1) (exo (hp.objs.size + 1) C none)) ⟨(hp.push (PySem.W.kdv_tup [])).push (PySem.HandSPX.excO C hp.objs.size), g, dr, tk, os⟩ :=
    I.laid (t' := tk) (a := hp.objs.size + 1) (o := exo (hp.objs.size + 1) C none) (h' := (hp.push (PySem.W.kdv_tup [])).push (PySem.HandSPX.excO C hp.objs.size)) kk hsz (exo_ok hget)
  have r2 : Vals [V.ref (hp.objs.size + 1)] [Value.ref (hp.objs.size + 1)] := .cons rfl .nil
  have hq : spX0 C [V.ref (hp.objs.size + 1)] (upd H (hp.objs.size + 1) (exo (hp.objs.size + 1) C none)) (fun v H2 => v = .non ∧ H2 (hp.objs.size + 1) = some (exo (hp.objs.size + 1) C none) ∧ Q (.ref C) none (del H2 (hp.objs.size + 1))) (fun _ _ _ => False) := by
    refine ⟨_, rfl, upd_same, rfl, upd_same, ?_⟩
    have e : del (upd H (hp.objs.size + 1) (exo (hp.objs.size + 1) C none)) (hp.objs.size + 1) = H := by
      funext b
      by_cases hb : b = hp.objs.size + 1
      · rw [hb, del_same, hn]
      · rw [del_ne hb, upd_ne hb]
    rw [e]
    exact h
  have hl : ([Value.ref (hp.objs.size + 1)] ++ [] : List Value).length = ps.length := by
    have e := F1.len _ _ _ _ hq
    exact e
  have bb := hb ⟨(hp.push (PySem.W.kdv_tup [])).push (PySem.HandSPX.excO C hp.objs.size), g, dr, tk, os⟩ [Value.ref (hp.objs.size + 1)] I2.kIn hl
  rw [List.append_nil] at bb
  refine wpAny_call (PySem.HandSPX.call_own F.excBase_ValueError (fun Y => PySem.HandSPX.refsVE_contains Y bm hbm) (I.kIn _ _ hC) (PySem.W.looks_findIn I.kIn iC) (fun self => PySem.W.bind_fn I.kIn self tI) (Nat.zero_le _)
    (codeAny_mono (F1.run _ X.stack _ _ ⟨[Value.ref (hp.objs.size + 1)], []⟩ [Value.ref (hp.objs.size + 1)] _ _ (fun _ _ _ => False) (hr.make C [] []) (I2.env0.make C [] []) bb r2 hq) fun r s' hq' => ?_))
  cases r with
  | error er => exact hx pins σ _ _ er s' I2 hq'
  | ok fl =>
    cases fl with
    | ret u =>
      obtain ⟨v, H2, os2, bare2, un2, hok2, rv, ev, ea, q2⟩ := hq'
      subst ev
      obtain ⟨h2, g2, d2, t2, os'⟩ := s'
      exact ⟨rv, mk_endN (raises_own T.exC T.tyC) I hsz kk un2 hok2 os2 bare2 ea q2⟩
    | next => exact False.elim hq'
    | brk => exact False.elim hq'
    | cont => exact False.elim hq'
/-- C(e, ..) -/
theorem pmk_oex1 {CX : CXT} {x : Str} {C fI : Addr} {k : Nat} {fd : FuncData} {ps : List Str} {sp : Sp} (T : OexC X.K C) (iC : PySem.W.findIn X.K (.ref C) "__init__" = some (some (.ref fI))) (tI : PySem.W.typeIn X.K (.ref fI) = some (.type "function"))
    (F1 : FnOk X.prog X.w X.K X.mg X.base CX k fI fd ps sp) (hr : Room (k + 1) X.A) (hb : Binds X.K fd ps []) (hx : Passes CX X (fun _ _ _ => False)) (hg : Gl X x) (hm : X.mg x = some (.ref C)) (ha : PA X (e :: es) ta)
    (hdb : (x == ("__debug__" : Str)) = false := by decide) (he : starEach (e :: es) X.env = (false, eval e X.env) :: starEach es X.env := by rfl) (hpl : (backTo pos (starEach es X.env)).any (·.1) = false := by rfl) :
    L2N.PMk X (.Call (.Name x p) (e :: es) [] pos) (tMkO C sp [] ta) := by
  intro pins s σ H Q I h
  obtain ⟨nm, q, N, bs, bm, sn, sub, ab, col, dd, k0, k1, k2, k3, k5, hC, hbm⟩ := T.cls
  refine wpAny_Call_Name_kw (ld_glob I hg hm ?_ hdb)
  refine PySem.W.callWith_K (h₀ := X.base) I.ok.mod.kin T.kC (thn (ha.run pos pins s σ H _ I h) fun us s1 ⟨vs, H1, I1, r1, hz, q1⟩ => ⟨I1.kIn, ?_⟩) he hpl
  show wpAny _ _ (call (.ref C) us) _ _ _
  obtain ⟨hp, g, dr, tk, os⟩ := s1
  have hn : H1 (hp.objs.size + 1) = none := I1.hok.fresh (Nat.le_succ _)
  have hq := q1 (hp.objs.size + 1) hn
  rw [List.append_nil] at hq
  have kk : ∀ b o, hp.get? b = some o → ((hp.push (PySem.W.kdv_tup us)).push (PySem.HandSPX.excO C hp.objs.size)).get? b = some o := fun b o e => Heap.get?_push_of_some _ (Heap.get?_push_of_some _ e)
  have I2 : Inv X pins σ (upd H1 (hp.objs.size + 1) (exo (hp.objs.size + 1) C none)) ⟨(hp.push (PySem.W.kdv_tup us)).push (PySem.HandSPX.excO C hp.objs.size), g, dr, tk, os⟩ :=
    I1.laid (t' := tk) (a := hp.objs.size + 1) (o := exo (hp.objs.size + 1) C none) (h' := (hp.push (PySem.W.kdv_tup us)).push (PySem.HandSPX.excO C hp.objs.size)) kk (Nat.le_succ _) (exo_ok (by heap_get))
  have r2 : Vals (V.ref (hp.objs.size + 1) :: vs) (Value.ref (hp.objs.size + 1) :: us) := .cons rfl r1
  have hl : (Value.ref (hp.objs.size + 1) :: us ++ []).length = ps.length := by
    rw [List.append_nil, ← r2.length]
    exact F1.len _ _ _ _ hq
  have hus : us.length ≤ sizeLine := by rw [← Paired.length r1, sizeLine_eq]; omega
  have b2 := hb _ (Value.ref (hp.objs.size + 1) :: us) I2.kIn hl
  rw [List.append_nil] at b2
  refine wpAny_call (PySem.HandSPX.call_own F.excBase_ValueError (fun Y => PySem.HandSPX.refsVE_contains Y bm hbm) (I1.kIn _ _ hC) (PySem.W.looks_findIn I1.kIn iC) (fun self => PySem.W.bind_fn I1.kIn self tI) hus
    (codeAny_mono (F1.run _ X.stack _ _ ⟨Value.ref (hp.objs.size + 1) :: us, []⟩ (Value.ref (hp.objs.size + 1) :: us) _ _ (fun _ _ _ => False) (hr.make C us []) (I2.env0.make C us []) b2 r2 hq) fun r s' hq' => ?_))
  cases r with
  | error er => exact hx pins σ _ _ er s' I2 hq'
  | ok fl =>
    cases fl with
    | ret u =>
      obtain ⟨v, H2, os2, bare2, un2, hok2, rv, ev, d, fs, ea, ed, hd1, q2⟩ := hq'
      subst ev
      obtain ⟨h2, g2, d2, t2, os'⟩ := s'
      obtain ⟨t0, G, J, kG, ge, hoe, na⟩ := mk_end0 (d2 := d2) (t2 := t2) I1 (Nat.le_succ _) kk un2 hok2 os2 bare2 ea ed hd1
      exact ⟨rv, hp.objs.size + 1, _, _, ⟨G, g2, d2, t2, os'⟩, _, .ref C, some d, rfl, J, kG, ge, hoe, ⟨rfl, rfl, fun vs hv => by cases hv; rfl⟩, rfl, rfl, na, rfl, bare2, raises_own T.exC T.tyC, q2⟩
    | _ => exact False.elim hq'
end
/-! ### raise, by data -/
def sRaise0 (c : Str) : AS := fun env st k => k.er ⟨c, none⟩ env st
def sRaise1 (c f : Str) (a : AE) : AS := fun env st k => a env st (fun d s1 => k.er ⟨c, some (f, d)⟩ env s1) (fun e s1 => k.er e env s1)
section
variable {X : Cx} {W : WX} {k j : Nat} {e : Expr} {ae : AE} {c fld : Str} {fI : Addr} {fd : FuncData} {p pos pos' : Pos}
theorem axs_raise0 (C : CxS X W (k + 1)) (T : OexC X.K (He.ga X.K c)) (iC : PySem.W.findIn X.K (.ref (He.ga X.K c)) "__init__" = some (some (.ref fI))) (tI : PySem.W.typeIn X.K (.ref fI) = some (.type "function"))
    (F1 : FnOk X.prog X.w X.K X.mg X.base CX0 k fI fd ["self"] (spX0 (He.ga X.K c))) (hb : Binds X.K fd ["self"] []) (hm : X.mg c = some (.ref (He.ga X.K c))) (hg : Gl X c := by rfl) (hdb : (c == ("__debug__" : Str)) = false := by decide) :
    AXS X W (.Raise (some (.Call (.Name c p) [] [] pos)) none pos') (sRaise0 c) :=
  ⟨_, L2N.ps_raise C.calm C.takes (pmk_oex0 T iC tI F1 C.room hb pass0 hg hm hdb), fun G env st σ H D k s l h t => t.er ⟨c, none⟩ _ _ env σ st G H Post.refl s l ⟨rfl, rfl⟩ h⟩
theorem axs_raise1 (C : CxS X W (k + 1)) (T : OexC X.K (He.ga X.K c)) (iC : PySem.W.findIn X.K (.ref (He.ga X.K c)) "__init__" = some (some (.ref fI))) (tI : PySem.W.typeIn X.K (.ref fI) = some (.type "function"))
    (F1 : FnOk X.prog X.w X.K X.mg X.base CX0 k fI fd ["self", fld] (spX1 (He.ga X.K c) fld)) (hb : Binds X.K fd ["self", fld] []) (hm : X.mg c = some (.ref (He.ga X.K c))) (ha : AX X W e ae) (hg : Gl X c := by rfl) (hdb : (c == ("__debug__" : Str)) = false := by decide)
    (hs : starEach [e] X.env = (false, eval e X.env) :: starEach [] X.env := by rfl) :
    AXS X W (.Raise (some (.Call (.Name c p) [e] [] pos)) none pos') (sRaise1 c fld ae) := by
  obtain ⟨ta, pa, ra⟩ := ha
  refine ⟨_, L2N.ps_raise C.calm C.takes (pmk_oex1 T iC tI F1 C.room hb pass0 hg hm (pa_cons pa pa_nil hs) hdb hs rfl), fun G env st σ H D k s l h t => ?_⟩
  refine ra G env st σ H _ _ _ s l h (fun v d st1 G1 H1 p1 s1 r1 h1 => ?_) (t.x l)
  refine ⟨by show 1 ≤ 1000; decide, fun a hna => ⟨a, v, rfl, upd_same, fun dx hdx ne => ⟨rfl, dx, [(fld, v)], upd_same, ?_, ?_, ?_⟩⟩⟩
  · rw [upd_ne ne, upd_same]
  · rw [upd_ne ne] at hdx; exact hdx
  · have hdx1 : H1 dx = none := by rw [upd_ne ne] at hdx; exact hdx
    have e : upd (del (upd (upd (upd H1 a (exo a (He.ga X.K c) none)) dx (exd dx [(fld, v)])) a (exo a (He.ga X.K c) (some dx))) a) dx (.xd [(fld, v)]) = upd H1 dx (.xd [(fld, v)]) := by
      funext b
      by_cases hb : b = dx
      · rw [hb, upd_same, upd_same]
      · rw [upd_ne hb, upd_ne hb]
        by_cases hba : b = a
        · rw [hba, del_same, hna]
        · rw [del_ne hba, upd_ne hba, upd_ne hb, upd_ne hba]
    rw [e]
    obtain ⟨s2, p2⟩ := s1.new (o := .xd [(fld, v)]) hdx1
    exact t.er ⟨c, some (fld, d)⟩ _ _ env σ st1 _ _ (p1.trans p2) s2 (l.mono (p1.trans p2).le) ⟨rfl, dx, v, rfl, upd_same, r1.mono p2.le⟩ h1
end
end AM
set_option Elab.async false
set_option linter.all false
set_option maxRecDepth 100000
set_option maxHeartbeats 4000000
namespace AM
open PySem PySem.Spec L2 Evl
/-! ### try: body, except h as n: suite -/
/-- what an error of the body meets: xm tells which classes the clause takes -/
def erAs (xm : Str → Option Bool) (i : Nat) (su : Addr → Value → Option Addr → AS) (k : AK) : Er → List A → S → Prop := fun e env st => ∃ b, xm e.cls = some b ∧
  (b = true → ∀ a c dx, su a c dx (env.set i (.exc a c dx e)) st { nx := fun env' s => k.nx (env'.set i .no) s, rt := k.rt, bk := fun env' s => k.bk (env'.set i .no) s, ct := fun env' s => k.ct (env'.set i .no) s, er := fun _ _ _ => False }) ∧
  (b = false → k.er e env st)
def sTryAs (xm : Str → Option Bool) (i : Nat) (b : AS) (su : Addr → Value → Option Addr → AS) : AS := fun env st k => b env st { k with er := erAs xm i su k }
/-- clauses without names -/
def erOnly : List ((Str → Option Bool) × AS) → AK → Er → List A → S → Prop
  | [], k, e, env, st => k.er e env st
  | (xm, su) :: r, k, e, env, st => ∃ b, xm e.cls = some b ∧ (b = true → su env st { k with er := fun _ _ _ => False }) ∧ (b = false → erOnly r k e env st)
def sTryOnly (b : AS) (cs : List ((Str → Option Bool) × AS)) : AS := fun env st k => b env st { k with er := erOnly cs k }
/-- the field of a caught error -/
def aXf (a : Addr) (c : Value) (dx : Option Addr) (cn : Str) (i : Nat) (f : Str) : AE := fun env st q _ => match env[i]? with
  | some (.exc a' c' dx' e) => a' = a ∧ c' = c ∧ dx' = dx ∧ e.cls = cn ∧ ∃ x, e.fld = some (f, x) ∧ q x st
  | _ => False
section
variable {X : Cx} {W : WX} {k : Nat} {x n cn f : Str} {i : Nat} {body suite : List Stmt} {b0 : Stmt} {np pos pos' : Pos} {ab : AS} {xm : Str → Option Bool}
theorem CxS.tr (C : CxS X W k) {W' : WX} {pn : List (Addr × Obj)} {xe : Value → Shared → Prop} (tk : L2N.Takes (X.tr pn xe) W') (po : PassesOwn (model X.prog X.w) X.A X.env xe) : CxS (X.tr pn xe) W' k := ⟨⟨C.calm, C.nd, C.room, tk⟩, po, C.stk, C.frm⟩
theorem axs_tryAs {su : Addr → Value → Option Addr → AS} (C : CxS X W k) (hm : X.mg x = some (.ref (He.ga X.K x))) (hx : ∀ c b, xm c = some b → PySem.W.exmOne X.K (.ref (He.ga X.K c)) (.ref (He.ga X.K x)) = some b)
    (hb : ∀ (W' : WX) (pn : List (Addr × Obj)) (xe : Value → Shared → Prop), CxS (X.tr pn xe) W' k → AXB (X.tr pn xe) W' body ab)
    (hs : ∀ (a : Addr) (oe : Obj) (cls : Value) (d : Option Addr) (pn : List (Addr × Obj)), L2N.Zn cls d oe → (∃ vs, oe.data = .fields vs) → AXB (X.suite a ((a, oe) :: pn)) W0 (b0 :: suite) (su a cls d))
    (hi : X.N[i]? = some n := by rfl) (hln : X.env.kindOf n = some .local := by rfl) (hg : Gl X x := by rfl) (hdb : (x == ("__debug__" : Str)) = false := by decide) :
    AXS X W (.Try body [.ExceptHandler (some (.Name x np)) (some n) (b0 :: suite) pos'] [] [] pos) (sTryAs xm i ab su) := by
  refine ⟨_, L2N.ps_try_as (tb := fun W' => rdS X.K W' ab) (ts := fun a cls d => rdS X.K W0 (su a cls d)) C.stk C.frm C.nd hi hln ⟨hg, hdb, .inl hm⟩ C.takes (fun W' pn xe tk po => (hb W' pn xe (C.tr tk po)).ps) (fun a oe cls d pn hz hf => (hs a oe cls d pn hz hf).ps), fun G env st σ H D kk s l h t => ?_⟩
  refine ⟨G, env, st, _, s, l, h, ⟨t.nx, t.rt, t.bk, t.ct, fun e c dx env' σ' st2 G2 H2 p2 s2 l2 ea he => ?_⟩⟩
  obtain ⟨b, hb1, h1, h2⟩ := he
  refine ⟨b, ?_, fun hbt a ha => ?_, fun hbf => t.er e c dx env' σ' st2 G2 H2 p2 s2 l2 ea (h2 hbf)⟩
  · obtain ⟨rfl, _⟩ := ea
    exact hx _ _ hb1
  · refine ⟨G2, _, st2, _, s2, l2.put i (x := .exc a c dx e) (v := some (.ref a)) ⟨rfl, ea⟩, h1 hbt a c dx, ?_⟩
    exact ⟨fun env4 σ4 st4 G4 H4 p4 s4 l4 h4 => t.nx _ _ st4 G4 H4 (p2.trans p4) s4 (l4.drop i none) h4, (t.on p2).rt,
      fun env4 σ4 st4 G4 H4 p4 s4 l4 h4 => t.bk _ _ st4 G4 H4 (p2.trans p4) s4 (l4.drop i none) h4, fun env4 σ4 st4 G4 H4 p4 s4 l4 h4 => t.ct _ _ st4 G4 H4 (p2.trans p4) s4 (l4.drop i none) h4, fun _ _ _ _ _ _ _ _ _ _ _ _ z => z.elim⟩
/-- the clauses of a try, one by one: which classes each takes, what it does -/
def AXHs (X : Cx) (hds : List ExceptHandler) (cs : List ((Str → Option Bool) × AS)) : Prop := ∃ l, L2N.HdsOk X hds l ∧ ∀ (W : WX) (G : Gh) (H : Hp) (kk : AK) (D : Ends), ThenS X.K W G H kk D → ∀ e c dx env σ st, SS X.K G st H → Sl X.K G env σ → ErAt X.K G e c dx → erOnly cs kk e env st → wMany X.K W D l c dx σ H
theorem axh_nil : AXHs X [] [] := ⟨[], .nil, fun W G H kk D t e c dx env σ st s l ea h => t.er e c dx env σ st G H Post.refl s l ea h⟩
theorem axh_cons {hds : List ExceptHandler} {cs : List ((Str → Option Bool) × AS)} {su : AS} (hm : X.mg x = some (.ref (He.ga X.K x))) (hx : ∀ c b, xm c = some b → PySem.W.exmOne X.K (.ref (He.ga X.K c)) (.ref (He.ga X.K x)) = some b)
    (hs : ∀ (a : Addr) (oe : Obj) (cls : Value) (d : Option Addr) (pn : List (Addr × Obj)), L2N.Zn cls d oe → (∃ vs, oe.data = .fields vs) → AXB (X.suite a ((a, oe) :: pn)) W0 (b0 :: suite) su) (hr : AXHs X hds cs)
    (hg : Gl X x := by rfl) (hdb : (x == ("__debug__" : Str)) = false := by decide) : AXHs X (.ExceptHandler (some (.Name x np)) none (b0 :: suite) pos' :: hds) ((xm, su) :: cs) := by
  obtain ⟨l, hl, hh⟩ := hr
  refine ⟨_, .cons (ts := fun a cls d => rdS X.K W0 su) ⟨hg, hdb, .inl hm⟩ (fun a oe cls d pn hz hf => (hs a oe cls d pn hz hf).ps) hl, fun W G H kk D t e c dx env σ st s sl ea h => ?_⟩
  obtain ⟨b, hb1, h1, h2⟩ := h
  refine ⟨b, ?_, fun hbt a ha => ?_, fun hbf => hh W G H kk D t e c dx env σ st s sl ea (h2 hbf)⟩
  · obtain ⟨rfl, _⟩ := ea
    exact hx _ _ hb1
  · exact ⟨G, _, st, _, s, sl, h1 hbt, ⟨t.nx, t.rt, t.bk, t.ct, fun _ _ _ _ _ _ _ _ _ _ _ _ z => z.elim⟩⟩
theorem axs_tryOnly {h0 : ExceptHandler} {hds : List ExceptHandler} {cs : List ((Str → Option Bool) × AS)} (C : CxS X W k)
    (hb : ∀ (W' : WX) (pn : List (Addr × Obj)) (xe : Value → Shared → Prop), CxS (X.tr pn xe) W' k → AXB (X.tr pn xe) W' body ab) (hh : AXHs X (h0 :: hds) cs) :
    AXS X W (.Try body (h0 :: hds) [] [] pos) (sTryOnly ab cs) := by
  obtain ⟨l, hl, hh⟩ := hh
  refine ⟨_, L2N.ps_try_many (tb := fun W' => rdS X.K W' ab) C.stk C.frm C.takes (fun W' pn xe tk po => (hb W' pn xe (C.tr tk po)).ps) hl, fun G env st σ H D kk s sl h t => ?_⟩
  exact ⟨G, env, st, _, s, sl, h, ⟨t.nx, t.rt, t.bk, t.ct, fun e c dx env' σ' st2 G2 H2 p2 s2 l2 ea he => hh W G2 H2 kk D (t.on p2) e c dx env' σ' st2 s2 l2 ea he⟩⟩
theorem ax_xf {a : Addr} {oe : Obj} {cls : Value} {d : Option Addr} {pn : List (Addr × Obj)} {y : Str} (T : XfC X.K (He.ga X.K cn)) (hno : PySem.W.findIn X.K (.ref (He.ga X.K cn)) f = some none) (hz : L2N.Zn cls d oe) (hf : ∃ vs, oe.data = .fields vs)
    (hN : X.N[i]? = some y := by rfl) (hv : Vis X.env.scope y := by first | exact Or.inl rfl | exact Or.inr (Or.inl rfl)) (hd : (y == ("__debug__" : Str)) = false := by decide) (hcd : (y == ("__classdict__" : Str)) = false := by decide)
    (hb : attributeBase (.Name y np) f X.env (eval (.Name y np) X.env) = eval (.Name y np) X.env := by rfl) : AX (X.suite a ((a, oe) :: pn)) W0 (.Attribute (.Name y np) f pos) (aXf a cls d cn i f) := by
  refine ⟨_, pe_xf T hno hz.zc hf (pe_var (X := X.suite a ((a, oe) :: pn)) (i := i) hN hv hd hcd) hb, fun G env st σ H Q q er s l h tE tX => ?_⟩
  unfold aXf at h
  split at h
  · rename_i a' c' dx' e ee
    obtain ⟨rfl, rfl, rfl, hcn, x, hx, h⟩ := h
    obtain ⟨e1, e2, e3⟩ := l.slot i _ ee
    rw [hx] at e3
    obtain ⟨dd, v, h1, h2, h3⟩ := e3
    refine ⟨.ref a', e1, rfl, by rw [e2, hcn], dd, _, v, h1, s.ex.xd h2, ?_, tE v x st G H Post.refl s h3 h⟩
    simp [List.lookup]
  · exact h.elim
end
end AM
set_option Elab.async false
set_option linter.all false
set_option maxRecDepth 100000
set_option maxHeartbeats 4000000
namespace AM
open PySem PySem.Spec L2 Evl
/-! ### cells are changed -/
section
variable {K : PySem.W.Frag} {W : WX}
/-- x.append(e) -/
def aApp (o a : AE) : AE := fun env st q er => o env st (fun x s1 => ∃ n l, x = .ref n ∧ s1[n]? = some (.lst l) ∧ a env s1 (fun y s2 => ∃ l, s2[n]? = some (.lst l) ∧ l.length < 100000 ∧ q .non (s2.set n (.lst (l ++ [y])))) er) er
theorem refE_app {to te : TE} {ao ae : AE} (ho : RefE K W to ao) (he : RefE K W te ae) : RefE K W (tBM K "list" rAppend to (tCons te tNil)) (aApp ao ae) := fun G env st σ H Q q er s l h tE tX => by
  refine ho G env st σ H _ _ er s l h (fun v d st1 G1 H1 p1 s1 r1 h1 => ?_) tX
  obtain ⟨n, ls, rfl, hn, h1⟩ := h1
  cases r1 with
  | ref ep =>
    rename_i p
    obtain ⟨vs, gp, hp, rs⟩ := s1.cell n _ p hn ep
    refine ⟨Or.inl ⟨rfl, _, Or.inl (Or.inl hp)⟩, he G1 env st1 σ H1 _ _ er s1 (l.mono p1.le) h1 (fun w d st2 G2 H2 p2 s2 r2 h2 => ?_) (tX.on p1)⟩
    obtain ⟨ls2, hn2, hl, h2⟩ := h2
    obtain ⟨vs2, gp2, hp2, rs2⟩ := s2.cell n _ p hn2 (pre_get p2.le.a ep)
    obtain ⟨s3, p3⟩ := s2.setCell (n := n) (c' := .lst (ls2 ++ [d])) (o := .lst (vs2 ++ [w])) (pre_get p2.le.a ep) gp2 ⟨_, gp2, upd_same, rs2.append (.one r2)⟩
    exact ⟨p, vs2, w, rfl, rfl, hp2, sz_lt (by rw [← rs2.length]; exact hl), tE .non .non _ G2 _ ((p1.trans p2).trans p3) s3 .non h2⟩
/-- x[i] = e: the value first -/
def sSetIx (o b a : AE) : AS := fun env st k => a env st (fun d s1 => o env s1 (fun x s2 => b env s2 (fun j s3 => match x, j with
  | .ref n, .int i => ∃ l j, s3[n]? = some (.lst l) ∧ ixN l.length i = some j ∧ k.nx env (s3.set n (.lst (l.set j d)))
  | _, _ => False) (fun e s => k.er e env s)) (fun e s => k.er e env s)) (fun e s => k.er e env s)
theorem refS_setIx {ta to tb : TE} {aa ao ab : AE} (ha : RefE K W ta aa) (ho : RefE K W to ao) (hb : RefE K W tb ab) : RefS K W (tAsg ta (gSub to tb rSetL)) (sSetIx ao ab aa) := fun G env st σ H D k s l h t => by
  refine ha G env st σ H _ _ _ s l h (fun v d st1 G1 H1 p1 s1 r1 h1 => ?_) (t.x l)
  refine ho G1 env st1 σ H1 _ _ _ s1 (l.mono p1.le) h1 (fun w x st2 G2 H2 p2 s2 r2 h2 => ?_) ((t.x l).on p1)
  refine hb G2 env st2 σ H2 _ _ _ s2 (l.mono (p1.trans p2).le) h2 (fun u j st3 G3 H3 p3 s3 r3 h3 => ?_) ((t.x l).on (p1.trans p2))
  split at h3
  · rename_i n i
    obtain ⟨ls, j, hn, hj, h3⟩ := h3
    cases r2 with
    | ref ep =>
      rename_i p
      cases r3
      have ep3 := pre_get p3.le.a ep
      obtain ⟨vs, gp, hp, rs⟩ := s3.cell n _ p hn ep3
      obtain ⟨s4, p4⟩ := s3.setCell (n := n) (c' := .lst (ls.set j d)) (o := .lst (vs.set j v)) ep3 gp ⟨_, gp, upd_same, rs.set (r1.mono (p2.trans p3).le) j⟩
      exact ⟨p, vs, i, j, rfl, rfl, hp, by rw [← rs.length]; exact hj, t.nx env σ _ G3 _ (((p1.trans p2).trans p3).trans p4) s4 (l.mono (((p1.trans p2).trans p3).trans p4).le) h3⟩
  · exact h3.elim
/-- list(e), fresh -/
def fList (a : AE) : AFr := fun env st q er => a env st (fun d s1 => ∃ l, itemsD (vw s1 d) = some l ∧ q l s1) er
end
section
variable {X : Cx} {W : WX} {k : Nat} {o e a b : Expr} {ao ae ab aa : AE} {p pos apos spos : Pos} {x : Str}
theorem ax_app (ho : AX X W o ao) (he : AX X W e ae) (hbase : attributeBase o "append" X.env (eval o X.env) = eval o X.env := by rfl)
    (hfew : ((backTo pos (starEach [e] X.env)).all (fun x => !x.1) && (backToKw pos (keywordEach [] X.env)).all (fun x => x.1.isSome) && decide (([e] : List Expr).length + ([] : List Keyword).length + (if ([] : List Keyword).isEmpty then 0 else 1) < 30)) = true := by rfl)
    (hline : (apos.endLine == pos.line) = true := by rfl) (hs : starEach [e] X.env = (false, eval e X.env) :: starEach [] X.env := by rfl) : AX X W (.Call (.Attribute o "append" apos) [e] [] pos) (aApp ao ae) := by
  obtain ⟨to, po, ro⟩ := ho
  obtain ⟨te, pe, re⟩ := he
  exact ⟨_, pe_bm PySem.F.plainAttrs_list PySem.F.slot_list_append PySem.F.type_list_append mt_append po (pa_cons pe pa_nil hs) hbase hfew hline hs rfl, refE_app ro re⟩
theorem axs_setIx (ha : AX X W a aa) (ho : AX X W o ao) (hb : AX X W b ab)
    (hg : ∀ v, assign (.Subscript o b spos) X.env v = (do
      let ov ← holding [v] (eval o X.env)
      let iv ← holding [v, ov] (eval b X.env)
      standAt spos
      holding [v, ov, iv] (setItem ov iv v)
      release [v, ov, iv] []) := by intro _; rfl)
    (hs : swapsWithSole [.Subscript o b spos] a pos.line X.env = pure false := by rfl) (hw : swappedStores [.Subscript o b spos] a X.env = pure none := by rfl) (h1 : (assignEach [.Subscript o b spos] X.env).map (·.2) = [assign (.Subscript o b spos) X.env] := by rfl) :
    AXS X W (.Assign [.Subscript o b spos] a pos) (sSetIx ao ab aa) := by
  obtain ⟨ta, pa, ra⟩ := ha
  obtain ⟨to, po, ro⟩ := ho
  obtain ⟨tb, pb, rb⟩ := hb
  exact ⟨_, ps_asg pa (pg_sub po pb set_list hg) hs hw h1, refS_setIx ra ro rb⟩
theorem axf_list (hm : X.mg "list" = none) (ha : AX X W e ae) (hg : Gl X "list" := by rfl) (he : starEach [e] X.env = (false, eval e X.env) :: starEach [] X.env := by rfl) (hpl : (backTo pos (starEach [] X.env)).any (·.1) = false := by rfl) : AXF X W (.Call (.Name "list" p) [e] [] pos) (fList ae) := by
  obtain ⟨ta, pa, ra⟩ := ha
  refine ⟨_, pe_callTy call_list_of hg hm (by decide +kernel) (pa_cons pa pa_nil he) (by decide) (by decide) he hpl, fun G env st σ H Q q er s sl h tF tX => ra G env st σ H _ _ er s sl h (fun v d st1 G1 H1 p1 s1 r1 h1 => ?_) tX⟩
  obtain ⟨l, hl, h1⟩ := h1
  have fin : ∀ {vs : List V}, Reps X.K G1 l vs → ∀ ad, H1 ad = none → Q (.ref ad) (upd H1 ad (.lst vs)) := fun {vs} rs ad hn => by
    obtain ⟨s2, p2, n2, g2⟩ := s1.room (o := .lst vs) hn
    exact tF _ l st1 G1 _ (p1.trans p2) s2 (ResOk.on p1 ⟨ad, vs, rfl, upd_same, g2, n2, hn, rs⟩) h1
  have rv := r1.vw s1
  generalize vw st1 d = d' at hl rv
  cases rv with
  | lst h1 rs => cases hl; exact ⟨_, _, rfl, .inl (SqL.of h1), fin rs⟩
  | tup h1 rs _ => cases hl; exact ⟨_, _, rfl, .inr (SqT.of h1), fin rs⟩
  | _ => cases hl
end
/-! ### a cell's list is frozen, ahead of a piece -/
def sFrz (i : Nat) (a : AS) : AS := fun env st k => ∃ n l, env[i]? = some (.d (.ref n)) ∧ st[n]? = some (.lst l) ∧ a (env.set i (.d (.lst l))) (st.set n .dead) k
theorem refS_frz {K : PySem.W.Frag} {W : WX} {ts : TS} {as : AS} (i : Nat) (h : RefS K W ts as) : RefS K W ts (sFrz i as) := fun G env st σ H D k s l a t => by
  obtain ⟨n, ls, ei, hn, a⟩ := a
  obtain ⟨u, eu, r⟩ := l.slot i _ ei
  cases r with
  | ref ep =>
    obtain ⟨vs, gp, hp, rs⟩ := s.cell n _ _ hn ep
    obtain ⟨s2, p2⟩ := s.freezeCell ep gp hp
    refine h _ _ _ σ H D k s2 ?_ a (t.on p2)
    refine ⟨by rw [List.length_set]; exact l.len, fun j x e => ?_⟩
    rcases get_set e with ⟨rfl, rfl, _⟩ | ⟨hj, e⟩
    · exact ⟨_, eu, .lst upd_same (rs.mono p2.le)⟩
    · exact (l.slot j x e).mono p2.le
theorem axs_frz {X : Cx} {W : WX} {st : Stmt} {as : AS} (i : Nat) (h : AXS X W st as) : AXS X W st (sFrz i as) := by
  obtain ⟨t, p, r⟩ := h
  exact ⟨_, p, refS_frz i r⟩
/-- a slot is forgotten, ahead of a piece -/
def sForget (i : Nat) (a : AS) : AS := fun env st k => a (env.set i .no) st k
theorem axs_forget {X : Cx} {W : WX} {st : Stmt} {as : AS} (i : Nat) (h : AXS X W st as) : AXS X W st (sForget i as) := by
  obtain ⟨t, p, r⟩ := h
  refine ⟨_, p, fun G env st σ H D k s l a t => r G _ st σ H D k s ⟨by rw [List.length_set]; exact l.len, fun j x e => ?_⟩ a t⟩
  rcases get_set e with ⟨rfl, rfl, _⟩ | ⟨hj, e⟩
  · trivial
  · exact l.slot j x e
/-! ### the pool -/
theorem ax_listScr {X : Cx} {W : WX} {p p' pos : Pos} {x : Str} (i : Nat) (hm : X.mg "list" = none) (hN : X.N[i]? = some x := by rfl) (hv : Vis X.env.scope x := by first | exact Or.inl rfl | exact Or.inr (Or.inl rfl)) (hd : (x == ("__debug__" : Str)) = false := by decide) (hcd : (x == ("__classdict__" : Str)) = false := by decide)
    (hg : Gl X "list" := by rfl) (he : starEach [.Name x p'] X.env = (false, eval (.Name x p') X.env) :: starEach [] X.env := by rfl) (hpl : (backTo pos (starEach [] X.env)).any (·.1) = false := by rfl) :
    AX X W (.Call (.Name "list" p) [.Name x p'] [] pos) (fun env st q _ => ∃ ns, env[i]? = some (.d (.scr ns)) ∧ q (.lst (ns.map .int)) st) := by
  refine ⟨_, pe_callTy call_list_of hg hm (by decide +kernel) (pa_cons (pe_var (i := i) hN hv hd hcd) pa_nil he) (by decide) (by decide) he hpl, fun G env st σ H Q q er s sl h tF tX => ?_⟩
  obtain ⟨ns, e, h⟩ := h
  obtain ⟨u, eu, r⟩ := sl.slot i _ e
  cases r with
  | scr hs hl =>
    refine ⟨_, eu, _, _, rfl, .inl (s.ex.sq hs), fun ad hn => ?_⟩
    obtain ⟨s2, p2⟩ := s.new (o := .lst (ns.map V.int)) hn
    exact tF _ _ st _ _ p2 s2 (.lst upd_same (Reps.ints ns)) h
def aPoolIx (i c : Nat) : AE := fun env st q _ => ∃ n m ns, env[i]? = some (.d (.ref n)) ∧ st[n]? = some (.pool m ns) ∧ match c with
  | 0 => ∀ a : Int, 0 ≤ a → a ≤ m → q (.int a) st
  | 1 => ∀ l : Int, 0 ≤ l → q (.int l) st
  | _ => ns.length ≤ 63 → q (.lst (ns.map .int)) st
theorem ax_poolIx {X : Cx} {W : WX} {c : Nat} {kk : Nat} {p p' pos : Pos} {x : Str} (i : Nat) (hc : c < 3 := by decide) (hN : X.N[i]? = some x := by rfl) (hv : Vis X.env.scope x := by first | exact Or.inl rfl | exact Or.inr (Or.inl rfl)) (hd : (x == ("__debug__" : Str)) = false := by decide) (hcd : (x == ("__classdict__" : Str)) = false := by decide) :
    AX X W (.Subscript (.Name x p) (.Constant (.int (c : Int)) kk p') pos) (aPoolIx i c) := by
  refine ⟨_, pe_ix ix_list (pe_var (i := i) hN hv hd hcd) pe_int (fun _ _ => rfl), fun G env st σ H Q q er s sl h tE tX => ?_⟩
  obtain ⟨n, m, ns, e, hn, h⟩ := h
  obtain ⟨u, eu, r⟩ := sl.slot i _ e
  cases r with
  | ref ep =>
    rename_i a
    obtain ⟨ga, at_, lf, qa, hp, h1, h2, h3, h4, h5⟩ := s.cell n _ a hn ep
    refine ⟨.ref a, eu, ?_⟩
    match c, hc, h with
    | 0, _, h => exact ⟨a, _, 0, .int at_, rfl, rfl, SqL.of hp, rfl, tE _ _ st G H Post.refl s (.int _) (h at_ h1 h2)⟩
    | 1, _, h => exact ⟨a, _, 1, .int lf, rfl, rfl, SqL.of hp, rfl, tE _ _ st G H Post.refl s (.int _) (h lf h3)⟩
    | 2, _, h => exact ⟨a, _, 2, .ref qa, rfl, rfl, SqL.of hp, rfl, tE _ _ st G H Post.refl s (.lst h4 (Reps.ints _)) (h h5)⟩
def sPoolSet (i : Nat) (c : Nat) (a : AE) : AS := fun env st k => a env st (fun d s1 => ∃ n m ns v, env[i]? = some (.d (.ref n)) ∧ s1[n]? = some (.pool m ns) ∧ d = .int v ∧ 0 ≤ v ∧ match c with
  | 0 => k.nx env (s1.set n (.pool (max m v.toNat) ns))
  | _ => k.nx env (s1.set n (.pool m ns))) (fun e s => k.er e env s)
theorem axs_poolSet {X : Cx} {W : WX} {c : Nat} {kk : Nat} {p p' pos spos : Pos} {x : Str} {a : Expr} {ae : AE} (i : Nat) (ha : AX X W a ae) (hc : c < 2 := by decide) (hN : X.N[i]? = some x := by rfl) (hv : Vis X.env.scope x := by first | exact Or.inl rfl | exact Or.inr (Or.inl rfl)) (hd : (x == ("__debug__" : Str)) = false := by decide) (hcd : (x == ("__classdict__" : Str)) = false := by decide)
    (hg : ∀ v, assign (.Subscript (.Name x p) (.Constant (.int (c : Int)) kk p') spos) X.env v = (do
      let ov ← holding [v] (eval (.Name x p) X.env)
      let iv ← holding [v, ov] (eval (.Constant (.int (c : Int)) kk p') X.env)
      standAt spos
      holding [v, ov, iv] (setItem ov iv v)
      release [v, ov, iv] []) := by intro _; rfl)
    (hs : swapsWithSole [.Subscript (.Name x p) (.Constant (.int (c : Int)) kk p') spos] a pos.line X.env = pure false := by rfl) (hw : swappedStores [.Subscript (.Name x p) (.Constant (.int (c : Int)) kk p') spos] a X.env = pure none := by rfl) (h1 : (assignEach [.Subscript (.Name x p) (.Constant (.int (c : Int)) kk p') spos] X.env).map (·.2) = [assign (.Subscript (.Name x p) (.Constant (.int (c : Int)) kk p') spos) X.env] := by rfl) :
    AXS X W (.Assign [.Subscript (.Name x p) (.Constant (.int (c : Int)) kk p') spos] a pos) (sPoolSet i c ae) := by
  obtain ⟨ta, pa, ra⟩ := ha
  refine ⟨_, ps_asg pa (pg_sub (pe_var (i := i) hN hv hd hcd) pe_int set_list hg) hs hw h1, fun G env st σ H D k s l h t => ?_⟩
  refine ra G env st σ H _ _ _ s l h (fun v d st1 G1 H1 p1 s1 r1 h1 => ?_) (t.x l)
  obtain ⟨n, m, ns, w, e, hn, rfl, h0, h1⟩ := h1
  cases r1
  obtain ⟨u, eu, r⟩ := (l.mono p1.le).slot i _ e
  cases r with
  | ref ep =>
    rename_i ad
    obtain ⟨ga, at_, lf, qa, hp, g1, g2, g3, g4, g5⟩ := s1.cell n _ ad hn ep
    refine ⟨.ref ad, eu, ad, _, (c : Int), c, rfl, rfl, hp, ?_, ?_⟩
    · match c, hc with
      | 0, _ => rfl
      | 1, _ => rfl
    · match c, hc, h1 with
      | 0, _, h1 =>
        obtain ⟨s2, p2⟩ := s1.setCell (n := n) (c' := .pool (max m w.toNat) ns) (o := .lst [.int w, .int lf, .ref qa]) ep ga ⟨ga, w, lf, qa, upd_same, h0, by show w ≤ ((max m w.toNat : Nat) : Int); omega, g3, g4, g5⟩
        exact t.nx _ _ _ G1 _ (p1.trans p2) s2 (l.mono (p1.trans p2).le) h1
      | 1, _, h1 =>
        obtain ⟨s2, p2⟩ := s1.setCell (n := n) (c' := .pool m ns) (o := .lst [.int at_, .int w, .ref qa]) ep ga ⟨ga, at_, w, qa, upd_same, g1, g2, h0, g4, g5⟩
        exact t.nx _ _ _ G1 _ (p1.trans p2) s2 (l.mono (p1.trans p2).le) h1
/-- a cell that is a pool's list is a pool from now on -/
theorem SS.pool {K : PySem.W.Frag} {G : Gh} {st : S} {H : Hp} (s : SS K G st H) {n : Nat} {a l : Int} {ns : List Int} (h : st[n]? = some (.lst [.int a, .int l, .lst (ns.map .int)])) (h0 : 0 ≤ a) (h1 : 0 ≤ l) (h2 : ns.length ≤ 63) : SS K G (st.set n (.pool a.toNat ns)) H := by
  refine ⟨s.ex, by rw [List.length_set]; exact s.len, s.nd, fun m c p e1 e2 => ?_⟩
  rcases get_set e1 with ⟨rfl, rfl, _⟩ | ⟨hj, e1⟩
  · obtain ⟨vs, gp, hp, rs⟩ := s.cell m _ p h e2
    match vs, rs with
    | [_, _, _], .cons (.int _) (.cons (.int _) (.cons (.lst hq rq) .nil)) =>
      have : ∀ {ns : List Int} {vs : List V}, Reps K G (ns.map D.int) vs → vs = ns.map V.int := fun {ns} => by
        induction ns with
        | nil => intro vs r; cases r; rfl
        | cons n ns ih =>
          intro vs r
          cases r with
          | cons h r => cases h; rw [ih r]; rfl
      have e := this rq
      subst e
      exact ⟨gp, a, l, _, hp, h0, by omega, h1, hq, h2⟩
  · exact s.cell m c p e1 e2
end AM
set_option Elab.async false
set_option linter.all false
set_option maxRecDepth 100000
set_option maxHeartbeats 4000000
namespace AM
open PySem PySem.Spec L2 Evl
/-! ### a def's data by its place -/
def fdAt (K : PySem.W.Frag) (a : Addr) : FuncData := match K.lookup a with
  | some ⟨_, _, .func fd, _⟩ => fd
  | _ => PySem.W.fnOf "" "" { posonlyargs := [], args := [], vararg := none, kwonlyargs := [], kw_defaults := [], kwarg := none, defaults := [] } [] { kind := .function, names := [], isGenerator := false, isCoroutine := false } .none .none .none .none none .none .none
theorem fdAt_of {K : PySem.W.Frag} {x qual : Str} {params : Arguments} {body : List Stmt} {scope : Scope} {dvs : List V} {kws : List (Str × V)} {f : Addr} {fd : FuncData} (F : FunD K x qual params body scope dvs kws f fd) : FunD K x qual params body scope dvs kws f (fdAt K f) := by
  have e : fdAt K f = fd := by
    obtain ⟨oc, od, dV, kV, doc, pm, an, cdv, ct, osl, _, lk, _⟩ := F.ex
    unfold fdAt
    rw [lk]
  rw [e]
  exact F
theorem XC.binds {P : Program} {K : PySem.W.Frag} {mg : Str → Option Value} {C f : Addr} {fd : FuncData} {params : Arguments} {body : List Stmt} {scope : Scope} {ps : List Str} (T : XC P K mg C f fd params body scope)
    (h : ∀ (qual : Str) (kV doc pm ct : Value) (an : Option Addr) (cda cc : Addr) (us : List Value), us.length = ps.length → bindArgs (PySem.W.ksFn "__init__" qual params body scope .none kV doc pm an (.ref cda) ct cc) ⟨us, []⟩ = pure (ps.zip us)) : Binds K fd ps [] := by
  obtain ⟨qual, kV, doc, pm, ct, oc, an, od, osl, cc, cda, cl, cld, csl, ccl, cdd, vs, ccs, tf, rfl, _⟩ := T.fn
  exact .all (h qual kV doc pm ct an cda cc)
/-! ### a comprehension's scope, looked at once -/
def blkB (N : List Str) (sc scope : Scope) (own : List (Str × Nat)) : Bool := decide (scope.kind = .function) && (scope.names.all (fun y => decide (scope.names.lookup y.1 = some y.2)) && (own.all (fun p => decide (N[p.2]? = some p.1)) &&
  (scope.names.all (fun y => !decide (y.2 = .free) || (decide (sc.names.lookup y.1 = some .cell) || decide (sc.names.lookup y.1 = some .free))) && scope.names.all (fun y => !(decide (y.2 = .local) || decide (y.2 = .cell)) || (decide (y.1 ∈ own.map (·.1)) || !decide (y.1 ∈ N))))))
theorem blk_of {N : List Str} {sc scope : Scope} {own : List (Str × Nat)} (h : blkB N sc scope own = true) : BlkOk N sc scope own := by
  unfold blkB at h
  simp only [Bool.and_eq_true, decide_eq_true_eq, List.all_eq_true, Bool.or_eq_true, Bool.not_eq_true', decide_eq_false_iff_not] at h
  obtain ⟨h1, h2, h3, h4, h5⟩ := h
  refine ⟨h1, fun y hy => h2 y hy, fun p hp => h3 p hp, fun y hy e => ?_, fun y hy e => ?_⟩
  · exact (h4 y hy).resolve_left fun n => n e
  · rcases h5 y hy with n | n
    · rcases e with e | e <;> simp [e] at n
    · exact n
/-! ### a promise may be weakened -/
theorem FnOk.weak {P : Program} {w : World} {K : PySem.W.Frag} {mg : Str → Option Value} {base : Heap} {CX : CXT} {k : Nat} {f : Addr} {fd : FuncData} {ps : List Str} {m m' : AF} (F : FnOk P w K mg base CX k f fd ps (SpA K m)) (h : ∀ args st q er, m' args st q er → m args st q er) : FnOk P w K mg base CX k f fd ps (SpA K m') := by
  have e : ∀ vs H Q E, SpA K m' vs H Q E → SpA K m vs H Q E := fun vs H Q E ⟨G, st, args, q, er, a, b, c, d⟩ => ⟨G, st, args, q, er, a, b, h _ _ _ _ c, d⟩
  exact ⟨fun vs H Q E z => F.len vs H Q E (e _ _ _ _ z), fun A outer s H args us vs Q E h1 h2 h3 h4 z => F.run A outer s H args us vs Q E h1 h2 h3 h4 (e _ _ _ _ z)⟩
/-! ### the law's own def -/
def aPoolNew : AS := sRetF (fLst (aCons (aC (.int 0)) (aCons (aC (.int 0)) (aCons (fun env st q _ => ∃ ns, env[0]? = some (.d (.scr ns)) ∧ q (.lst (ns.map .int)) st) (aNil)))))
def spLaw (K : PySem.W.Frag) : Sp := fun vs H Q _ => ∃ (a : Addr) (ns : List Int), vs = [.ref a] ∧ SqL K H a (ns.map V.int) ∧ ns.length ≤ 63 ∧ ∀ H', Q (.bl true) H'
/-- the end that a law wants -/
def yes : AK := ⟨fun _ _ => False, fun r _ => r = .d (.bl true), fun _ _ => False, fun _ _ => False, fun _ _ _ => False⟩
theorem law_fn {P : Program} {w : World} {K : PySem.W.Frag} {mg : Str → Option Value} {base : Heap} {x qual : Str} {params : Arguments} {st : Stmt} {rest : List Stmt} {scope : Scope} {dvs : List V} {kws : List (Str × V)} {f : Addr} {fd : FuncData} {p1 p2 : Str} {N : List Str} {k : Nat} {as : AS}
    (F : FunD K x qual params (st :: rest) scope dvs kws f fd) (S : FnScope (p1 :: p2 :: N) [p1] scope)
    (hb : ∀ (cdv : Value) (Ar : Around) (outer : List Env) (s : Shared) (H : Hp) (E : XK), CxS (cxOf (L2N.CX P w) P w K mg base (p1 :: p2 :: N) qual scope f cdv Ar outer s H E) (dE E) k → AXS (cxOf (L2N.CX P w) P w K mg base (p1 :: p2 :: N) qual scope f cdv Ar outer s H E) (dE E) st (sCell (fCall (fnP 1 1 aPoolNew) (aCons (aVar 0) aNil) []) 1) ∧ AXB (cxOf (L2N.CX P w) P w K mg base (p1 :: p2 :: N) qual scope f cdv Ar outer s H E) (dE E) rest as)
    (hm : ∀ (ns : List Int), ns.length ≤ 63 → as (.d (.scr ns) :: .d (.ref 0) :: List.replicate N.length .no) [.pool 0 ns] yes) : FnOk P w K mg base (L2N.CX P w) (k + 1) f fd [p1] (spLaw K) := by
  refine F.ok S (fun vs H Q E h => ?_) (fun cdv Ar outer s H vs Q E hr h => ?_)
  · obtain ⟨a, ns, rfl, _⟩ := h
    rfl
  · obtain ⟨a, ns, rfl, hs, hl, hq⟩ := h
    obtain ⟨⟨t1, q1, r1⟩, t2, q2, r2⟩ := hb cdv Ar outer s H E ⟨⟨rfl, S.nd, hr, L2N.takes_of rfl rfl rfl rfl⟩, passes_of rfl, rfl, rfl⟩
    refine ⟨_, pss_cons q1 q2, ?_⟩
    have G0 : ∃ G : Hp, Ex G H ∧ SqL K G a (ns.map V.int) := by
      rcases hs with hs | hs
      · refine ⟨fun b => if b = a then H a else none, fun b o e => ?_, .inl ?_⟩
        · by_cases hb : b = a
          · subst hb; simpa using e
          · simp [hb] at e
        · rcases hs with hs | ⟨o, hs⟩
          · exact .inl (by show (if a = a then H a else none) = _; rw [if_pos rfl]; exact hs)
          · exact .inr ⟨o, by show (if a = a then H a else none) = _; rw [if_pos rfl]; exact hs⟩
      · exact ⟨fun _ => none, fun _ _ e => (by cases e), .inr hs⟩
    obtain ⟨G, gx, gs⟩ := G0
    have e : L2.start (p1 :: p2 :: N) [V.ref a] = [V.ref a].map some ++ List.replicate (N.length + 1) none := by
      unfold L2.start
      rfl
    have ss : SS K ⟨G, []⟩ [] H := ⟨(ExL.of gx), rfl, List.nodup_nil, fun n c p e => by simp at e⟩
    have rr : Reps K ⟨G, []⟩ [.scr ns] [V.ref a] := .one (.scr gs hl)
    rw [e]
    refine r1 ⟨G, []⟩ _ [] _ H _ ⟨fun env st => env = .d (.scr ns) :: .d (.ref 0) :: List.replicate N.length .no ∧ st = [.lst [.int 0, .int 0, .lst (ns.map .int)]], fun _ _ => False, fun _ _ => False, fun _ _ => False, fun _ _ _ => False⟩ ss (rr.sl (N.length + 1)) ?_ ⟨fun env' σ' st2 G2 H2 _ s2 l2 h2 => ?_, fun _ _ _ _ _ _ _ _ z => z.elim, fun _ _ _ _ _ _ _ _ z => z.elim, fun _ _ _ _ _ _ _ _ z => z.elim, fun _ _ _ _ _ _ _ _ _ _ _ _ z => z.elim⟩
    · refine ⟨rfl, ?_⟩
      refine ⟨ns, rfl, ?_⟩
      exact ⟨by show 3 ≤ 100000; decide, rfl, rfl⟩
    · obtain ⟨rfl, rfl⟩ := h2
      have s3 := s2.pool (n := 0) (a := 0) (l := 0) (ns := ns) rfl (by decide) (by decide) hl
      refine r2 G2 _ _ σ' H2 _ yes s3 l2 (hm ns hl) ⟨fun _ _ _ _ _ _ _ _ z => z.elim, fun v r _ _ H3 _ _ r3 h3 => ?_, fun _ _ _ _ _ _ _ _ z => z.elim, fun _ _ _ _ _ _ _ _ z => z.elim, fun _ _ _ _ _ _ _ _ _ _ _ _ z => z.elim⟩
      have h4 : r = .d (.bl true) := h3
      subst h4
      cases r3
      exact hq H3
end AM
set_option Elab.async false
set_option linter.all false
set_option maxRecDepth 100000
set_option maxHeartbeats 4000000
namespace AM
open PySem PySem.Spec L2 Evl
/-! ### f(k = e, ..): keywords alone, every parameter named or filled up -/
/-- the values in the parameters' order: ix tells where each stands among the keywords -/
def pick {α : Type} (ix : List Nat) (l : List α) : List α := ix.filterMap fun i => l[i]?
theorem pick_vals {zs : List V} {ws : List Value} (r : Vals zs ws) : ∀ ix, Vals (pick ix zs) (pick ix ws)
  | [] => .nil
  | i :: ix => by
    have ih := pick_vals r ix
    unfold pick at ih ⊢
    cases h : zs[i]? with
    | some z =>
      obtain ⟨u, hu, rv⟩ := r.get h
      rw [List.filterMap_cons_some h, List.filterMap_cons_some hu]
      exact .cons rv ih
    | none =>
      have hn : ws[i]? = none := by
        rw [List.getElem?_eq_none_iff] at h ⊢
        rw [← r.length]; exact h
      rw [List.filterMap_cons_none h, List.filterMap_cons_none hn]
      exact ih
theorem pick_reps {K : PySem.W.Frag} {G : Gh} : ∀ {ds : List D} {vs : List V} (i : Nat), Reps K G ds vs → (∀ d, ds[i]? = some d → ∃ v, vs[i]? = some v ∧ Rep K G d v) ∧ (ds[i]? = none → vs[i]? = none)
  | [], _, i, .nil => ⟨fun d h => by simp at h, fun _ => by simp⟩
  | d :: ds, v :: vs, 0, .cons r _ => ⟨fun d' h => ⟨v, rfl, by cases h; exact r⟩, fun h => by simp at h⟩
  | d :: ds, v :: vs, i + 1, .cons _ rs => ⟨fun d' h => (pick_reps i rs).1 d' h, fun h => (pick_reps i rs).2 h⟩
theorem pick_rep {K : PySem.W.Frag} {G : Gh} {ds : List D} {vs : List V} (r : Reps K G ds vs) : ∀ ix, Reps K G (pick ix ds) (pick ix vs)
  | [] => .nil
  | i :: ix => by
    have ih := pick_rep r ix
    unfold pick at ih ⊢
    cases h : ds[i]? with
    | some z =>
      obtain ⟨u, hu, rv⟩ := (pick_reps i r).1 z h
      rw [List.filterMap_cons_some h, List.filterMap_cons_some hu]
      exact .cons rv ih
    | none =>
      rw [List.filterMap_cons_none h, List.filterMap_cons_none ((pick_reps i r).2 h)]
      exact ih
def BindsK (K : PySem.W.Frag) (fd : FuncData) (ps ks : List Str) (ix : List Nat) : Prop := ∀ (s : Shared) (ws : List Value), K.In s.heap → ws.length = ks.length → BindsTo s fd ⟨[], ks.zip ws⟩ (ps.zip (pick ix ws))
section
variable {K : PySem.W.Frag} {x qual : Str} {params : Arguments} {body : List Stmt} {scope : Scope} {dvs : List V} {kws : List (Str × V)} {f : Addr} {fd : FuncData} {ps ks : List Str} {ix : List Nat}
/-- with defaults, none of them read -/
theorem bindsK1 (F : FunD K x qual params body scope dvs kws f fd) (hd : dvs ≠ [])
    (h : ∀ (T : Addr) (kV doc pm : Value) (an : Option Addr) (cdv ct : Value) (ws its : List Value), ws.length = ks.length → its.length = dvs.length → ∃ k, bindArgs (PySem.W.fnOf x qual params body scope (.ref T) kV doc pm an cdv ct) ⟨[], ks.zip ws⟩ = seqItems? (.ref T) >>= k ∧ k (some its.toArray) = pure (ps.zip (pick ix ws))) : BindsK K fd ps ks ix := by
  obtain ⟨oc, od, dV, kV, doc, pm, an, cdv, ct, osl, rfl, lk, hcd, hD, hK⟩ := F.ex
  rcases hD with ⟨e, _⟩ | ⟨_, T, o, its, m, rfl, lT, oT, rT⟩
  · exact absurd e hd
  · intro s ws X hl
    obtain ⟨k, e1, e2⟩ := h T kV doc pm an cdv ct ws its hl rT.length.symm
    refine BindsTo.of_looks fun M => ?_
    rw [e1]
    exact looks_items X lT oT (.of_pure e2)
theorem bindsK0 (F : FunD K x qual params body scope [] kws f fd)
    (h : ∀ (kV doc pm : Value) (an : Option Addr) (cdv ct : Value) (ws : List Value), ws.length = ks.length → bindArgs (PySem.W.fnOf x qual params body scope .none kV doc pm an cdv ct) ⟨[], ks.zip ws⟩ = pure (ps.zip (pick ix ws))) : BindsK K fd ps ks ix := by
  obtain ⟨oc, od, dV, kV, doc, pm, an, cdv, ct, osl, rfl, lk, hcd, hD, hK⟩ := F.ex
  rcases hD with ⟨_, rfl⟩ | ⟨e, _⟩
  · exact fun s ws X hl => .of_eq (h kV doc pm an cdv ct ws hl)
  · exact absurd rfl e
end
def tCallK0 (n : Nat) (sp : Sp) (ix : List Nat) (E : L2.St → XK) (tk : TA) : TE := fun σ H Q => tk σ H fun zs H2 => zs.length = n ∧ sp (pick ix zs) H2 Q (E σ)
section
variable {X : Cx} {CX : CXT} {W : WX} {j k : Nat} {f : Addr} {fd : FuncData} {ps ks : List Str} {ix : List Nat} {sp : Sp} {E : L2.St → XK} {x : Str} {p pos : Pos} {kws : List Keyword} {tk : TA}
theorem pe_callK0 (F : FnOk X.prog X.w X.K X.mg X.base CX k f fd ps sp) (hr : Room k X.A) (hg : Gl X x) (hm : X.mg x = some (.ref f)) (hk : PySem.W.keepIn X.K (.ref f) = true) (hb : BindsK X.K fd ps ks ix) (hx : ∀ σ, PassesAt CX X σ (E σ)) (hkw : PK X kws tk)
    (hall : (backToKw pos (keywordEach kws X.env)).all (·.1.isSome) = true := by rfl) (hks : (backToKw pos (keywordEach kws X.env)).filterMap (·.1) = ks := by rfl) (hdb : (x == ("__debug__" : Str)) = false := by decide)
    (hpl : ((backTo pos (starEach [] X.env)).any (·.1) || (backToKw pos (keywordEach kws X.env)).any (·.1.isNone)) = false := by rfl) : PE X (.Call (.Name x p) [] kws pos) (tCallK0 ks.length sp ix E tk) := by
  refine ⟨fun pins s σ H Q I h => ?_⟩
  refine wpAny_Call_Name_kw (ld_glob I hg hm ?_ hdb)
  refine PySem.W.callWith_KW0 (h₀ := X.base) I.ok.mod.kin hk hall (thn (hkw.run pos pins s σ H _ I h) fun ws s2 ⟨zs, H2, I2, rz, l2, q2⟩ => ⟨I2.kIn, ?_⟩) hpl
  rw [hks]
  refine wpAny_call (codeAny_mono (F.run X.A X.stack s2 H2 ⟨[], ks.zip ws⟩ (pick ix ws) (pick ix zs) Q (E σ) hr I2.env0 (hb s2 ws I2.kIn (rz.length.symm.trans l2)) (pick_vals rz ix) q2) fun r s' hq => ?_)
  cases r with
  | error e => exact hx σ pins H2 s2 e s' I2 hq
  | ok fl =>
    cases fl with
    | ret u => exact I2.after hq
    | _ => exact False.elim hq
def AXK (X : Cx) (W : WX) (kws : List Keyword) (aa : AEs) : Prop := ∃ ta, PK X kws ta ∧ RefA X.K W ta aa
theorem axk_nil : AXK X W [] aNil := ⟨_, pk_nil, refA_nil⟩
theorem axk_cons {e : Expr} {aa : AE} {ar : AEs} {nm : Option Str} {kpos : Pos} (ha : AX X W e aa) (hr : AXK X W kws ar) : AXK X W (⟨nm, e, kpos⟩ :: kws) (aCons aa ar) := by
  obtain ⟨t, p, r⟩ := ha
  obtain ⟨t2, p2, r2⟩ := hr
  exact ⟨_, pk_cons p p2, refA_cons r r2⟩
def aCallK (n : Nat) (m : AF) (ix : List Nat) (as : AEs) : AE := fun env st q er => as env st (fun ds s1 => ds.length = n ∧ m (pick ix ds) s1 (fun r s2 => match r with
  | .d d => q d s2
  | .own xs => q (.lst xs) s2
  | .ownD xs => q (.dic xs) s2) er) er
theorem refE_callK {K : PySem.W.Frag} {m : AF} {as : AEs} {n : Nat} (ha : RefA K W tk as) : RefE K W (tCallK0 n (SpA K m) ix (fun σ c d H => W c d σ H) tk) (aCallK n m ix as) := fun G env st σ H Q q er s l h tE tX => by
  refine ha G env st σ H _ _ er s l h (fun vs ds st2 G2 H2 p2 s2 r2 h2 => ?_) tX
  obtain ⟨hl, h2⟩ := h2
  refine ⟨by rw [← r2.length]; exact hl, G2, st2, _, _, er, s2, pick_rep r2 ix, h2, fun v r st3 G3 H3 p3 s3 r3 h3 => ?_, fun e c dx st3 G3 H3 p3 s3 ea h3 => tX e c dx st3 G3 H3 (p2.trans p3) s3 ea h3⟩
  cases r with
  | d x => exact tE v x st3 G3 H3 (p2.trans p3) s3 r3 h3
  | own l =>
    obtain ⟨G4, s4, p4, r4⟩ := own_frz s3 p3 r3
    exact tE v _ st3 G4 H3 (p2.trans p4) s4 r4 h3
  | ownD l =>
    obtain ⟨G4, s4, p4, r4⟩ := ownd_frz s3 p3 r3
    exact tE v _ st3 G4 H3 (p2.trans p4) s4 r4 h3
theorem ax_callK {m : AF} {as : AEs} {C0 : Nat} (C : CxE X W k) (F : FnOk X.prog X.w X.K X.mg X.base (L2N.CX X.prog X.w) j f fd ps (SpA X.K m)) (hm : X.mg x = some (.ref f)) (hk : PySem.W.keepIn X.K (.ref f) = true) (hb : BindsK X.K fd ps ks ix) (ha : AXK X W kws as) (hj : j ≤ k)
    (hg : Gl X x := by rfl) (hall : (backToKw pos (keywordEach kws X.env)).all (·.1.isSome) = true := by rfl) (hks : (backToKw pos (keywordEach kws X.env)).filterMap (·.1) = ks := by rfl) (hdb : (x == ("__debug__" : Str)) = false := by decide)
    (hpl : ((backTo pos (starEach [] X.env)).any (·.1) || (backToKw pos (keywordEach kws X.env)).any (·.1.isNone)) = false := by rfl) : AX X W (.Call (.Name x p) [] kws pos) (aCallK ks.length m ix as) := by
  obtain ⟨t, p, r⟩ := ha
  exact ⟨_, pe_callK0 F (C.room.mono hj) hg hm hk hb (fun σ => L2N.passAt C.takes σ) p hall hks hdb hpl, refE_callK r⟩
end
end AM
set_option Elab.async false
set_option linter.all false
set_option maxRecDepth 100000
set_option maxHeartbeats 4000000
namespace AM
open PySem PySem.Spec L2 Evl
/-! ### defs called within an except suite -/
theorem fn_okH {P : Program} {w : World} {K : PySem.W.Frag} {mg : Str → Option Value} {base : Heap} {x qual : Str} {params : Arguments} {body : List Stmt} {scope : Scope} {dvs : List V} {kws : List (Str × V)} {f : Addr} {fd : FuncData} {N ps : List Str} {k : Nat} {as : AS} {m : AF}
    (F : FunD K x qual params body scope dvs kws f fd) (S : FnScope N ps scope) (L : Leads ps.length N.length as m)
    (hb : ∀ (cdv : Value) (A : Around) (outer : List Env) (s : Shared) (H : Hp) (E : XK) (p : Addr × Obj), AXB (L2H.cxH (L2N.CX P w) P w K mg base N qual scope f cdv A outer s H E p) (dE E) body as) : L2H.FnH P w K mg base (L2N.CX P w) (k + 1) f fd ps (SpA K m) := by
  obtain ⟨oc, od, dV, kV, doc, pm, an, cdv, ct, osl, rfl, lk, hcd, _, _⟩ := F.ex
  refine L2H.fn_ofH lk hcd S (fun vs H Q E h => ?_) (fun A outer s H vs Q E p hot hr h => ?_)
  · obtain ⟨G, st, args, q, er, ss, r, m, _⟩ := h
    rw [← r.length]
    exact L.ar _ _ _ _ m
  · obtain ⟨G, st, args, q, er, ss, r, m, hq, he⟩ := h
    obtain ⟨ts, p1, p2⟩ := hb cdv A outer s H E p
    refine ⟨ts, p1, ?_⟩
    obtain ⟨kk, hk, tk⟩ := L.run ss r m hq he
    have e : L2.start N vs = vs.map some ++ List.replicate (N.length - ps.length) none := by unfold L2.start; rw [← r.length, L.ar _ _ _ _ m]
    rw [e]
    exact p2 G _ st _ H _ kk ss (r.sl _) hk tk
section
variable {X : Cx} {W : WX} {k j : Nat} {x : Str} {p pos : Pos} {e : Expr} {es : List Expr} {aa : AEs} {m : AF} {f : Addr} {fd : FuncData} {ps : List Str} {a : Addr} {oe : Obj} {cls : Value} {d : Option Addr} {pn : List (Addr × Obj)}
theorem ax_callH (C : CxE X W k) (hz : L2N.Zn cls d oe) (hf : ∃ vs, oe.data = .fields vs) (F : L2H.FnH X.prog X.w X.K X.mg X.base (L2N.CX X.prog X.w) j f fd ps (SpA X.K m)) (hm : X.mg x = some (.ref f)) (hk : PySem.W.keepIn X.K (.ref f) = true) (hb : BindsD X.K fd ps []) (ha : AXA (X.suite a ((a, oe) :: pn)) W0 (e :: es) aa) (hj : j ≤ k)
    (hg : Gl X x := by rfl) (hdb : (x == ("__debug__" : Str)) = false := by decide) (he : starEach (e :: es) X.env = (false, eval e X.env) :: starEach es X.env := by rfl) (hpl : (backTo pos (starEach es X.env)).any (·.1) = false := by rfl) : AX (X.suite a ((a, oe) :: pn)) W0 (.Call (.Name x p) (e :: es) [] pos) (aCall m aa []) := by
  obtain ⟨t, pa, r⟩ := ha
  obtain ⟨ds, hv, hb⟩ := hb
  cases hv
  obtain ⟨vs, hvs⟩ := hf
  have hot : L2H.HotC (X.suite a ((a, oe) :: pn)) := ⟨(a, oe), ⟨rfl, vs, hvs, hz.2.2 vs hvs⟩, by simp [Cx.suite]⟩
  have rm : L2H.RoomH j (X.suite a ((a, oe) :: pn)).A := ⟨by have := (C.room.mono hj).dp; exact this, by have := (C.room.mono hj).un; exact this⟩
  refine ⟨_, L2H.pe_callH (X := X.suite a ((a, oe) :: pn)) (E := fun σ c d H => W0 c d σ H) F rm hot hg hm hk hb (fun σ => L2N.passAt (W := W0) takesN0 σ) pa hdb he hpl, fun G env st σ H Q q er s l h tE tX => ?_⟩
  refine r G env st σ H _ _ er s l h (fun vs ds st2 G2 H2 p2 s2 a2 h2 => ?_) tX
  rw [List.append_nil] at h2
  refine ⟨G2, st2, _, _, er, s2, a2, h2, fun v r st3 G3 H3 p3 s3 r3 h3 => ?_, fun e c dx st3 G3 H3 p3 s3 ea h3 => tX e c dx st3 G3 H3 (p2.trans p3) s3 ea h3⟩
  cases r with
  | d x => exact tE v x st3 G3 H3 (p2.trans p3) s3 r3 h3
  | own l =>
    obtain ⟨G4, s4, p4, r4⟩ := own_frz s3 p3 r3
    exact tE v _ st3 G4 H3 (p2.trans p4) s4 r4 h3
  | ownD l =>
    obtain ⟨G4, s4, p4, r4⟩ := ownd_frz s3 p3 r3
    exact tE v _ st3 G4 H3 (p2.trans p4) s4 r4 h3
end
/-! ### == within an except suite: enough that there is room -/
theorem op_EqR {X : Cx} {k : Nat} (r : Room k X.A) {a : Addr} {pn : List (Addr × Obj)} : OpR (X.suite a pn) (compareOp .Eq) (rEqD X.K) ∧ RefO X.K (rEqD X.K) oEq := ⟨op_eqD (by have := u64 r; show X.A.units + _ < _; omega), ref_eq⟩
end AM
set_option Elab.async false
set_option linter.all false
set_option maxRecDepth 100000
set_option maxHeartbeats 4000000
namespace AM
open PySem PySem.Spec PyProof.Rows L2 Evl
/-! ### methods and classes, what is raised at the caller's slots -/
section
variable {X : Cx} {CX : CXT} {k : Nat} {f C : Addr} {fd : FuncData} {ps : List Str} {sp : Sp} {dvs : List V} {ds : List Value} {E : L2.St → XK} {x m : Str} {p pos apos : Pos} {e o : Expr} {es : List Expr} {ta : TE} {t : TA}
def tMethSD (C : Addr) (m : Str) (sp : Sp) (dvs : List V) (E : L2.St → XK) (ta : TE) (t : TA) : TE := fun σ H Q => ta σ H fun x H1 => ∃ a dx fs, x = .ref a ∧ H1 a = some (.ins C dx fs) ∧ fs.lookup m = none ∧ t σ H1 fun vs H2 => sp (x :: (vs ++ dvs)) H2 Q (E σ)
theorem pe_methSD {pl : Sem Bool} (he : PE X o ta) (c : Cls X.K C) (hm : Meth X.K C m f) (F : FnOk X.prog X.w X.K X.mg X.base CX k f fd ps sp) (hr : Room k X.A) (hb : Binds X.K fd ps ds) (hd : Vals dvs ds) (hx : ∀ σ, PassesAt CX X σ (E σ)) (ha : PA X (e :: es) t)
    (hst : starEach (e :: es) X.env = (false, eval e X.env) :: starEach es X.env := by rfl) (hpl : (backTo pos (starEach es X.env)).any (·.1) = false := by rfl)
    (ht : eval (.Call (.Attribute o m apos) (e :: es) [] pos) X.env = (do
      let ov ← eval o X.env
      standAt apos.atName
      let (f, first) ← holding [ov] (getMethod ov m pl)
      callWith pos f first (backTo pos (starEach (e :: es) X.env)) (backToKw pos (keywordEach [] X.env))) := by rfl) :
    PE X (.Call (.Attribute o m apos) (e :: es) [] pos) (tMethSD C m sp dvs E ta t) := by
  refine ⟨fun pins s σ H Q I h => ?_⟩
  refine PySem.W.methodCall_KW (pl := pl) (thn (he.run pins s σ H _ I h) fun u s1 ⟨x, H1, I1, rx, a, dx, fs, ex, ea, l, q⟩ => ?_) ht
  subst ex
  obtain rfl : u = Value.ref a := rx
  refine getmeth_ok I1 ea c hm l ?_
  refine PySem.W.callWith_K (first := [.ref a]) (h₀ := X.base) I.ok.mod.kin hm.kp (thn (ha.run pos pins s1 σ H1 _ I1 q) fun us s2 ⟨vs, H2, I2, r, q2⟩ => ⟨I2.kIn, ?_⟩) hst hpl
  exact run_fnSD (us := .ref a :: us) (vs := .ref a :: vs) F hr hb hd (hx σ) I2 (.cons rfl r) q2
theorem pe_meth0SD {pl : Sem Bool} (he : PE X o ta) (c : Cls X.K C) (hm : Meth X.K C m f) (F : FnOk X.prog X.w X.K X.mg X.base CX k f fd ps sp) (hr : Room k X.A) (hb : Binds X.K fd ps ds) (hd : Vals dvs ds) (hx : ∀ σ, PassesAt CX X σ (E σ))
    (ht : eval (.Call (.Attribute o m apos) [] [] pos) X.env = (do
      let ov ← eval o X.env
      standAt apos.atName
      let (f, first) ← holding [ov] (getMethod ov m pl)
      callWith pos f first (backTo pos (starEach [] X.env)) (backToKw pos (keywordEach [] X.env))) := by rfl) :
    PE X (.Call (.Attribute o m apos) [] [] pos) (tMethSD C m sp dvs E ta tNil) := by
  refine ⟨fun pins s σ H Q I h => ?_⟩
  refine PySem.W.methodCall_KW (pl := pl) (thn (he.run pins s σ H _ I h) fun u s1 ⟨x, H1, I1, rx, a, dx, fs, ex, ea, l, q⟩ => ?_) ht
  subst ex
  obtain rfl : u = Value.ref a := rx
  refine getmeth_ok I1 ea c hm l ?_
  exact PySem.W.callWith_K0 (first := [.ref a]) I1.kIn hm.kp (run_fnSD (us := [.ref a]) (vs := [.ref a]) F hr hb hd (hx σ) I1 (.cons rfl .nil) q)
def tMakeSD (C : Addr) (sp : Sp) (dvs : List V) (E : L2.St → XK) (t : TA) : TE := fun σ H Q => t σ H fun vs H1 => ∀ x dx, H1 x = none → H1 dx = none → dx ≠ x → sp (.ref x :: (vs ++ dvs)) (upd (upd H1 dx (.own x)) x (.ins C dx [])) (fun v H2 => v = .non ∧ Q (.ref x) H2) (E σ)
theorem run_makeSD {pins : List (Addr × Obj)} {σ : L2.St} {H : Hp} {s : Shared} {Q : VK} {us : List Value} {vs : List V} (M : Mk X.K C f) (F : FnOk X.prog X.w X.K X.mg X.base CX k f fd ps sp) (hr : Room (k + 1) X.A) (hb : Binds X.K fd ps ds) (hd : Vals dvs ds)
    (hx : PassesAt CX X σ (E σ)) (I : Inv X pins σ H s) (r : Vals vs us)
    (h : ∀ x dx, H x = none → H dx = none → dx ≠ x → sp (.ref x :: (vs ++ dvs)) (upd (upd H dx (.own x)) x (.ins C dx [])) (fun v H2 => v = .non ∧ Q (.ref x) H2) (E σ)) :
    wpAny (model X.prog X.w) X.A (call (.ref C) us) (EP X pins σ Q) X.xe s := by
  have hq := h (s.heap.objs.size + 1) s.heap.objs.size (I.hok.fresh (Nat.le_succ _)) (I.hok.fresh (Nat.le_refl _)) (Nat.ne_of_lt (Nat.lt_succ_self _))
  have I2 := Inv.made (C := C) I
  have r2 : Vals (V.ref (s.heap.objs.size + 1) :: (vs ++ dvs)) (Value.ref (s.heap.objs.size + 1) :: (us ++ ds)) := .cons rfl (r.append hd)
  have hl : (Value.ref (s.heap.objs.size + 1) :: us ++ ds).length = ps.length := by
    have e := r2.length
    rw [F.len _ _ _ _ hq] at e
    exact e.symm
  refine wpAny_call (make_map (f := f) I.kIn M.makes M.init (beq_iff_eq.mp M.fn) (codeAny_mono (F.run _ X.stack _ _ ⟨Value.ref (s.heap.objs.size + 1) :: us, []⟩ (Value.ref (s.heap.objs.size + 1) :: (us ++ ds)) _ _ (E σ) (hr.make C us [])
    (I2.env0.make C us []) (hb _ (Value.ref (s.heap.objs.size + 1) :: us) I2.kIn hl) r2 hq) fun r s' hq' => ?_))
  cases r with
  | error e => exact hx pins _ _ e s' I2 hq'
  | ok fl =>
    cases fl with
    | ret u =>
      obtain ⟨v, H', I3, rv, ev, q3⟩ := I2.after hq'
      subst ev
      exact ⟨rv, ⟨V.ref (s.heap.objs.size + 1), H', I3, rfl, q3⟩⟩
    | next => exact False.elim hq'
    | brk => exact False.elim hq'
    | cont => exact False.elim hq'
theorem pe_makeSD (M : Mk X.K C f) (F : FnOk X.prog X.w X.K X.mg X.base CX k f fd ps sp) (hr : Room (k + 1) X.A) (hg : Gl X x) (hm : X.mg x = some (.ref C)) (hb : Binds X.K fd ps ds) (hd : Vals dvs ds) (hx : ∀ σ, PassesAt CX X σ (E σ))
    (ha : PA X (e :: es) t) (hdb : (x == ("__debug__" : Str)) = false := by decide) (he : starEach (e :: es) X.env = (false, eval e X.env) :: starEach es X.env := by rfl) (hpl : (backTo pos (starEach es X.env)).any (·.1) = false := by rfl) :
    PE X (.Call (.Name x p) (e :: es) [] pos) (tMakeSD C sp dvs E t) := by
  refine ⟨fun pins s σ H Q I h => ?_⟩
  refine wpAny_Call_Name_kw (ld_glob I hg hm ?_ hdb)
  refine PySem.W.callWith_K (h₀ := X.base) I.ok.mod.kin M.kp (thn (ha.run pos pins s σ H _ I h) fun us s1 ⟨vs, H1, I1, r, q⟩ => ⟨I1.kIn, ?_⟩) he hpl
  exact run_makeSD M F hr hb hd (hx σ) I1 r q
theorem pe_make0SD (M : Mk X.K C f) (F : FnOk X.prog X.w X.K X.mg X.base CX k f fd ps sp) (hr : Room (k + 1) X.A) (hg : Gl X x) (hm : X.mg x = some (.ref C)) (hb : Binds X.K fd ps ds) (hd : Vals dvs ds) (hx : ∀ σ, PassesAt CX X σ (E σ))
    (hdb : (x == ("__debug__" : Str)) = false := by decide) : PE X (.Call (.Name x p) [] [] pos) (tMakeSD C sp dvs E tNil) := by
  refine ⟨fun pins s σ H Q I h => ?_⟩
  refine wpAny_Call_Name_kw (ld_glob I hg hm ?_ hdb)
  exact PySem.W.callWith_K0 I.kIn M.kp (run_makeSD (us := []) M F hr hb hd (hx σ) I .nil h)
end
/-! ### attributes -/
def fldAt (cs : List Str) (f : Str) : D → Option D
  | .obj c fs => if c ∈ cs then fs.lookup f else none
  | _ => none
def aFld (cs : List Str) (f : Str) (a : AE) : AE := fun env st q er => a env st (fun d s1 => ∃ v, fldAt cs f (vw s1 d) = some v ∧ q v s1) er
theorem RepF.look {K : PySem.W.Frag} {G : Gh} {f : Str} {d : D} : ∀ {fs : List (Str × D)} {vs : List (Str × V)}, RepF K G fs vs → fs.lookup f = some d → ∃ v, vs.lookup f = some v ∧ Rep K G d v
  | _, _, .nil, h => by simp at h
  | _, _, .cons (f := g) h r, e => by
    rw [List.lookup_cons] at e ⊢
    cases hg : (f == g) with
    | true => rw [hg] at e; cases e; exact ⟨_, rfl, h⟩
    | false => rw [hg] at e; exact r.look e
theorem RepF.no {K : PySem.W.Frag} {G : Gh} {f : Str} : ∀ {fs : List (Str × D)} {vs : List (Str × V)}, RepF K G fs vs → fs.lookup f = none → vs.lookup f = none
  | _, _, .nil, h => rfl
  | _, _, .cons (f := g) h r, e => by
    rw [List.lookup_cons] at e ⊢
    cases hg : (f == g) with
    | true => rw [hg] at e; cases e
    | false => rw [hg] at e; exact r.no e
theorem RepF.length {K : PySem.W.Frag} {G : Gh} : ∀ {fs : List (Str × D)} {vs : List (Str × V)}, RepF K G fs vs → fs.length = vs.length
  | _, _, .nil => rfl
  | _, _, .cons _ r => congrArg Nat.succ r.length
def putD (f : Str) (v : D) : List (Str × D) → List (Str × D)
  | [] => [(f, v)]
  | (g, x) :: r => if g = f then (g, v) :: r else (g, x) :: putD f v r
theorem RepF.put {K : PySem.W.Frag} {G : Gh} {f : Str} {d : D} {v : V} (h : Rep K G d v) : ∀ {fs : List (Str × D)} {vs : List (Str × V)}, RepF K G fs vs → RepF K G (putD f d fs) (putF f v vs)
  | _, _, .nil => .cons h .nil
  | _, _, .cons (f := g) q r => by
    unfold putD putF
    by_cases hg : g = f
    · rw [if_pos hg, if_pos hg]; exact .cons h r
    · rw [if_neg hg, if_neg hg]; exact .cons q (r.put h)
section
variable {X : Cx} {W : WX} {k j : Nat} {o e value : Expr} {es : List Expr} {f m c x : Str} {p pos pos' apos : Pos} {ao ae av : AE} {aa : AEs} {cs : List Str} {mf : AF} {fa : Addr} {fd : FuncData} {ps : List Str} {dd : List D} {dvs : List V}
theorem ax_fld (ha : AX X W e ae) (hc : ∀ c ∈ cs, Cls X.K (He.ga X.K c) ∧ NoAttr X.K (He.ga X.K c) f) (hb : attributeBase e f X.env (eval e X.env) = eval e X.env := by rfl) : AX X W (.Attribute e f pos) (aFld cs f ae) := by
  obtain ⟨ta, pa, ra⟩ := ha
  refine ⟨_, pe_fld pa hb, fun G env st σ H Q q er s l h tE tX => ra G env st σ H _ _ er s l h (fun v d st1 G1 H1 p1 s1 r1 h1 => ?_) tX⟩
  obtain ⟨u, hu, h1⟩ := h1
  have rv := r1.vw s1
  generalize vw st1 d = d' at hu rv
  cases rv with
  | obj hp rf =>
    rename_i c p dx fs vs
    have hu : (if c ∈ cs then fs.lookup f else none) = some u := hu
    by_cases hcm : c ∈ cs
    · rw [if_pos hcm] at hu
      obtain ⟨w, hw, rw'⟩ := rf.look hu
      exact ⟨p, _, dx, vs, w, rfl, hp, (hc c hcm).1, (hc c hcm).2, hw, tE w u st1 G1 H1 p1 s1 rw' h1⟩
    · rw [if_neg hcm] at hu; cases hu
  | _ => cases hu
/-- o.f = e, o a cell -/
def sFldSet (c f : Str) (ao av : AE) : AS := fun env st k => av env st (fun d s1 => ao env s1 (fun x s2 => ∃ n fs, x = .ref n ∧ s2[n]? = some (.obj c fs) ∧ fs.length < 1000 ∧ k.nx env (s2.set n (.obj c (putD f d fs)))) (fun e s => k.er e env s)) (fun e s => k.er e env s)
theorem axs_fld (ho : AX X W o ao) (hv : AX X W value av) (hc : Cls X.K (He.ga X.K c)) (hn : NoAttr X.K (He.ga X.K c) f) (hs : swapsWith value (some (.Attribute o f pos')) pos.line X.env = pure false := by rfl) : AXS X W (.Assign [.Attribute o f pos'] value pos) (sFldSet c f ao av) := by
  obtain ⟨ta, pa, ra⟩ := ho
  obtain ⟨tv, pv, rv⟩ := hv
  refine ⟨_, ps_fld pa pv hs, fun G env st σ H D k s l h t => ?_⟩
  refine rv G env st σ H _ _ _ s l h (fun v d st1 G1 H1 p1 s1 r1 h1 => ?_) (t.x l)
  refine ra G1 env st1 σ H1 _ _ _ s1 (l.mono p1.le) h1 (fun w x st2 G2 H2 p2 s2 r2 h2 => ?_) ((t.x l).on p1)
  obtain ⟨n, fs, rfl, hcell, hl, h2⟩ := h2
  cases r2 with
  | ref ep =>
    rename_i p
    obtain ⟨dx, vs, gp, hp, rf⟩ := s2.cell n _ p hcell ep
    obtain ⟨s3, p3⟩ := s2.setCell (n := n) (c' := .obj c (putD f d fs)) (o := .ins (He.ga X.K c) dx (putF f v vs)) ep gp ⟨dx, _, gp, upd_same, rf.put (r1.mono p2.le)⟩
    exact ⟨p, _, dx, vs, rfl, hp, hc, hn, by rw [← rf.length]; exact hl, t.nx env σ _ G2 _ ((p1.trans p2).trans p3) s3 (l.mono ((p1.trans p2).trans p3).le) h2⟩
/-! ### methods -/
def isObj (c m : Str) : D → Prop
  | .obj c' fs => c' = c ∧ fs.lookup m = none
  | _ => False
def aMeth (c m : Str) (mf : AF) (a : AE) (args : AEs) (dd : List D) : AE := fun env st q er => a env st (fun d s1 => isObj c m (vw s1 d) ∧ args env s1 (fun ds s2 => mf (d :: (ds ++ dd)) s2 (fun r s3 => match r with
  | .d x => q x s3
  | .own l => q (.lst l) s3
  | .ownD l => q (.dic l) s3) er) er) er
def fMeth (c m : Str) (mf : AF) (a : AE) (args : AEs) (dd : List D) : AFr := fun env st q er => a env st (fun d s1 => isObj c m (vw s1 d) ∧ args env s1 (fun ds s2 => mf (d :: (ds ++ dd)) s2 (fun r s3 => match r with
  | .own l => q l s3
  | _ => False) er) er) er
theorem isObj_at {K : PySem.W.Frag} {G : Gh} {H : Hp} {d : D} {v : V} (r : Rv K G H d v) (h : isObj c m d) : ∃ a dx fs, v = .ref a ∧ H a = some (.ins (He.ga K c) dx fs) ∧ fs.lookup m = none := by
  cases r with
  | obj hp rf =>
    obtain ⟨rfl, h2⟩ := h
    exact ⟨_, _, _, rfl, hp, rf.no h2⟩
  | _ => exact h.elim
theorem refE_meth {K : PySem.W.Frag} {ta : TE} {t : TA} (ha : RefE K W ta ae) (ht : RefA K W t aa) (hd : ∀ G, Reps K G dd dvs) : RefE K W (tMethSD (He.ga K c) m (SpA K mf) dvs (fun σ c d H => W c d σ H) ta t) (aMeth c m mf ae aa dd) := fun G env st σ H Q q er s l h tE tX => by
  refine ha G env st σ H _ _ er s l h (fun v d st1 G1 H1 p1 s1 r1 h1 => ?_) tX
  obtain ⟨a, dx, fs, rfl, hp, hl⟩ := isObj_at (r1.vw s1) h1.1
  refine ⟨a, dx, fs, rfl, hp, hl, ht G1 env st1 σ H1 _ _ er s1 (l.mono p1.le) h1.2 (fun vs ds st2 G2 H2 p2 s2 a2 h2 => ?_) (tX.on p1)⟩
  have p12 := p1.trans p2
  refine ⟨G2, st2, _, _, er, s2, .cons (r1.mono p2.le) (a2.append (hd G2)), h2, fun v r st3 G3 H3 p3 s3 r3 h3 => ?_, fun e c dx st3 G3 H3 p3 s3 ea h3 => tX e c dx st3 G3 H3 (p12.trans p3) s3 ea h3⟩
  cases r with
  | d x => exact tE v x st3 G3 H3 (p12.trans p3) s3 r3 h3
  | own l =>
    obtain ⟨G4, s4, p4, r4⟩ := own_frz s3 p3 r3
    exact tE v _ st3 G4 H3 (p12.trans p4) s4 r4 h3
  | ownD l =>
    obtain ⟨G4, s4, p4, r4⟩ := ownd_frz s3 p3 r3
    exact tE v _ st3 G4 H3 (p12.trans p4) s4 r4 h3
theorem refF_meth {K : PySem.W.Frag} {ta : TE} {t : TA} (ha : RefE K W ta ae) (ht : RefA K W t aa) (hd : ∀ G, Reps K G dd dvs) : RefF K W (tMethSD (He.ga K c) m (SpA K mf) dvs (fun σ c d H => W c d σ H) ta t) (fMeth c m mf ae aa dd) := fun G env st σ H Q q er s l h tE tX => by
  refine ha G env st σ H _ _ er s l h (fun v d st1 G1 H1 p1 s1 r1 h1 => ?_) tX
  obtain ⟨a, dx, fs, rfl, hp, hl⟩ := isObj_at (r1.vw s1) h1.1
  refine ⟨a, dx, fs, rfl, hp, hl, ht G1 env st1 σ H1 _ _ er s1 (l.mono p1.le) h1.2 (fun vs ds st2 G2 H2 p2 s2 a2 h2 => ?_) (tX.on p1)⟩
  have p12 := p1.trans p2
  refine ⟨G2, st2, _, _, er, s2, .cons (r1.mono p2.le) (a2.append (hd G2)), h2, fun v r st3 G3 H3 p3 s3 r3 h3 => ?_, fun e c dx st3 G3 H3 p3 s3 ea h3 => tX e c dx st3 G3 H3 (p12.trans p3) s3 ea h3⟩
  cases r with
  | d x => exact h3.elim
  | ownD l => exact h3.elim
  | own l => exact tE v l st3 G3 H3 (p12.trans p3) s3 (r3.on p12) h3
theorem ax_meth {pl : Sem Bool} (C : CxE X W k) (ha : AX X W o ao) (hc : Cls X.K (He.ga X.K c)) (hm : Meth X.K (He.ga X.K c) m fa) (F : FnOk X.prog X.w X.K X.mg X.base (L2N.CX X.prog X.w) j fa fd ps (SpA X.K mf)) (hb : BindsD X.K fd ps dvs) (hdd : ∀ G, Reps X.K G dd dvs) (hr : AXA X W (e :: es) aa) (hj : j ≤ k)
    (hst : starEach (e :: es) X.env = (false, eval e X.env) :: starEach es X.env := by rfl) (hpl : (backTo pos (starEach es X.env)).any (·.1) = false := by rfl)
    (ht : eval (.Call (.Attribute o m apos) (e :: es) [] pos) X.env = (do
      let ov ← eval o X.env
      standAt apos.atName
      let (f, first) ← holding [ov] (getMethod ov m pl)
      callWith pos f first (backTo pos (starEach (e :: es) X.env)) (backToKw pos (keywordEach [] X.env))) := by rfl) :
    AX X W (.Call (.Attribute o m apos) (e :: es) [] pos) (aMeth c m mf ao aa dd) ∧ AXF X W (.Call (.Attribute o m apos) (e :: es) [] pos) (fMeth c m mf ao aa dd) := by
  obtain ⟨ta, pa, ra⟩ := ha
  obtain ⟨t, pr, rr⟩ := hr
  obtain ⟨ds, hv, hb⟩ := hb
  have q := pe_methSD (pl := pl) (E := fun σ c d H => W c d σ H) pa hc hm F (C.room.mono hj) hb hv (fun σ => L2N.passAt C.takes σ) pr hst hpl ht
  exact ⟨⟨_, q, refE_meth ra rr hdd⟩, _, q, refF_meth ra rr hdd⟩
theorem ax_meth0 {pl : Sem Bool} (C : CxE X W k) (ha : AX X W o ao) (hc : Cls X.K (He.ga X.K c)) (hm : Meth X.K (He.ga X.K c) m fa) (F : FnOk X.prog X.w X.K X.mg X.base (L2N.CX X.prog X.w) j fa fd ps (SpA X.K mf)) (hb : BindsD X.K fd ps dvs) (hdd : ∀ G, Reps X.K G dd dvs) (hj : j ≤ k)
    (ht : eval (.Call (.Attribute o m apos) [] [] pos) X.env = (do
      let ov ← eval o X.env
      standAt apos.atName
      let (f, first) ← holding [ov] (getMethod ov m pl)
      callWith pos f first (backTo pos (starEach [] X.env)) (backToKw pos (keywordEach [] X.env))) := by rfl) :
    AX X W (.Call (.Attribute o m apos) [] [] pos) (aMeth c m mf ao aNil dd) ∧ AXF X W (.Call (.Attribute o m apos) [] [] pos) (fMeth c m mf ao aNil dd) := by
  obtain ⟨ta, pa, ra⟩ := ha
  obtain ⟨ds, hv, hb⟩ := hb
  have q := pe_meth0SD (pl := pl) (E := fun σ c d H => W c d σ H) pa hc hm F (C.room.mono hj) hb hv (fun σ => L2N.passAt C.takes σ) ht
  exact ⟨⟨_, q, refE_meth ra refA_nil hdd⟩, _, q, refF_meth ra refA_nil hdd⟩
/-! ### a class is called -/
/-- the new object is frozen; what its __init__ made beside is left away -/
def aNew (c : Str) (mi : AF) (args : AEs) (dd : List D) : AE := fun env st q er => args env st (fun ds s1 => ltL s1.length ds → ltS s1.length s1 → mi (.ref s1.length :: (ds ++ dd)) (s1 ++ [.obj c []]) (fun r s2 => r = .d .non ∧ ∃ fs, s2[s1.length]? = some (.obj c fs) ∧ ltF s1.length fs ∧ ltS s1.length (s2.take s1.length) ∧ q (.obj c fs) (s2.take s1.length)) (fun e s2 => e.lt s1.length ∧ ltS s1.length (s2.take s1.length) ∧ er e (s2.take s1.length))) er
/-- the new object is a cell -/
def aNewM (c : Str) (mi : AF) (args : AEs) (dd : List D) : AE := fun env st q er => args env st (fun ds s1 => mi (.ref s1.length :: (ds ++ dd)) (s1 ++ [.obj c []]) (fun r s2 => r = .d .non ∧ q (.ref s1.length) s2) er) er
theorem SS.made {K : PySem.W.Frag} {G : Gh} {st : S} {H : Hp} (s : SS K G st H) {x dx : Addr} (hx : H x = none) (hdx : H dx = none) (ne : dx ≠ x) : SS K ⟨G.g, G.as ++ [x]⟩ (st ++ [.obj c []]) (upd (upd H dx (.own x)) x (.ins (He.ga K c) dx [])) ∧ Post G H ⟨G.g, G.as ++ [x]⟩ (upd (upd H dx (.own x)) x (.ins (He.ga K c) dx [])) ∧ (G.as ++ [x])[st.length]? = some x ∧ x ∉ G.as := by
  obtain ⟨s1, p1, _, _⟩ := s.room (o := .own x) hdx
  have hx1 : (upd H dx (.own x)) x = none := by rw [upd_ne (Ne.symm ne)]; exact hx
  obtain ⟨s2, p2, nx, gx⟩ := s1.room (o := .ins (He.ga K c) dx []) hx1
  refine ⟨s2.cellOf nx ⟨dx, [], gx, upd_same, .nil⟩, (p1.trans p2).cellOf hx, ?_, nx⟩
  rw [← s.len, List.getElem?_append_right (Nat.le_refl _), Nat.sub_self]
  rfl
theorem refE_new {K : PySem.W.Frag} {t : TA} (ht : RefA K W t aa) (hd : ∀ G, Reps K G dd dvs) : RefE K W (tMakeSD (He.ga K c) (SpA K mf) dvs (fun σ c d H => W c d σ H) t) (aNew c mf aa dd) := fun G env st σ H Q q er s l h tE tX => by
  refine ht G env st σ H _ _ er s l h (fun vs ds st1 G1 H1 p1 s1 r1 h1 => ?_) tX
  intro x dx hx hdx ne
  obtain ⟨s2, p2, ex, nx⟩ := s1.made (c := c) hx hdx ne
  have ka : G1.as.length = st1.length := s1.len
  have h1 := h1 (by rw [← ka]; exact r1.lt) s1.wf
  refine ⟨_, _, _, _, _, s2, .cons (.ref ex) ((r1.mono p2.le).append (hd _)), h1, fun v r st3 G3 H3 p3 s3 r3 h3 => ?_, fun e c' dx' st3 G3 H3 p3 s3 ea h3 => ?_⟩
  · obtain ⟨rfl, fs, hc, hf, hst, h3⟩ := h3
    cases r3
    refine ⟨rfl, ?_⟩
    have pre : G1.as <+: G3.as := p2.le.a.trans p3.le.a
    obtain ⟨dx', ws, gx, hx3, rf⟩ := s3.cell _ _ x hc (pre_get p3.le.a ex)
    rw [← ka] at hf hst h3
    have s4 := s3.cut pre hst
    obtain ⟨s5, le5⟩ := s4.freeze (o := .ins (He.ga K c) dx' ws) hx3 gx nx
    have p4 : Post G1 H1 ⟨G3.g, G1.as⟩ H3 := (p2.trans p3).cut
    exact tE _ _ _ _ H3 (p1.trans (p4.freeze gx hx)) s5 (.obj upd_same ((rf.cut pre hf).mono le5)) h3
  · obtain ⟨h4, h5, h6⟩ := h3
    rw [← ka] at h4 h5 h6
    have pre : G1.as <+: G3.as := p2.le.a.trans p3.le.a
    exact tX e c' dx' _ _ H3 (p1.trans (p2.trans p3).cut) (s3.cut pre h5) (ea.cut pre h4) h6
theorem refE_newM {K : PySem.W.Frag} {t : TA} (ht : RefA K W t aa) (hd : ∀ G, Reps K G dd dvs) : RefE K W (tMakeSD (He.ga K c) (SpA K mf) dvs (fun σ c d H => W c d σ H) t) (aNewM c mf aa dd) := fun G env st σ H Q q er s l h tE tX => by
  refine ht G env st σ H _ _ er s l h (fun vs ds st1 G1 H1 p1 s1 r1 h1 => ?_) tX
  intro x dx hx hdx ne
  obtain ⟨s2, p2, ex, nx⟩ := s1.made (c := c) hx hdx ne
  refine ⟨_, _, _, _, _, s2, .cons (.ref ex) ((r1.mono p2.le).append (hd _)), h1, fun v r st3 G3 H3 p3 s3 r3 h3 => ?_, fun e c' dx' st3 G3 H3 p3 s3 ea h3 => tX e c' dx' _ _ H3 ((p1.trans p2).trans p3) s3 ea h3⟩
  obtain ⟨rfl, h3⟩ := h3
  cases r3
  exact ⟨rfl, tE _ _ st3 G3 H3 ((p1.trans p2).trans p3) s3 (.ref (pre_get p3.le.a ex)) h3⟩
theorem ax_new (C : CxE X W (k + 1)) (M : Mk X.K (He.ga X.K x) fa) (F : FnOk X.prog X.w X.K X.mg X.base (L2N.CX X.prog X.w) j fa fd ps (SpA X.K mf)) (hm : X.mg x = some (.ref (He.ga X.K x))) (hb : BindsD X.K fd ps dvs) (hdd : ∀ G, Reps X.K G dd dvs) (hr : AXA X W (e :: es) aa) (hj : j ≤ k)
    (hg : Gl X x := by rfl) (hdb : (x == ("__debug__" : Str)) = false := by decide) (he : starEach (e :: es) X.env = (false, eval e X.env) :: starEach es X.env := by rfl) (hpl : (backTo pos (starEach es X.env)).any (·.1) = false := by rfl) :
    AX X W (.Call (.Name x p) (e :: es) [] pos) (aNew x mf aa dd) ∧ AX X W (.Call (.Name x p) (e :: es) [] pos) (aNewM x mf aa dd) := by
  obtain ⟨t, pr, rr⟩ := hr
  obtain ⟨ds, hv, hb⟩ := hb
  have q := pe_makeSD (E := fun σ c d H => W c d σ H) (p := p) (pos := pos) M F (C.room.mono (by omega)) hg hm hb hv (fun σ => L2N.passAt C.takes σ) pr hdb he hpl
  exact ⟨⟨_, q, refE_new rr hdd⟩, _, q, refE_newM rr hdd⟩
end
end AM
set_option Elab.async false
set_option linter.all false
set_option maxRecDepth 100000
set_option maxHeartbeats 4000000
namespace AM
open PySem PySem.Spec PyProof.Rows L2 Evl
/-! ### methods that signs stand for -/
section
variable {X : Cx} {CX : CXT} {k : Nat} {f C : Addr} {fd : FuncData} {ps : List Str} {sp : Sp} {E : L2.St → XK} {a b : Expr} {ta tb : TE} {pos : Pos}
theorem run_fnAt {A' : Around} {pins : List (Addr × Obj)} {σ : L2.St} {H : Hp} {s : Shared} {Q : VK} {us : List Value} {vs : List V} (F : FnOk X.prog X.w X.K X.mg X.base CX k f fd ps sp) (hr : Room k A') (hfr : A'.frames = X.A.frames) (hb : Binds X.K fd ps []) (hx : PassesAt CX X σ (E σ))
    (I : Inv X pins σ H s) (r : Vals vs us) (h : sp vs H Q (E σ)) : wpAny (model X.prog X.w) A' (call (.ref f) us) (EP X pins σ Q) X.xe s := by
  have hl : us.length = ps.length := by rw [← r.length]; exact F.len _ _ _ _ h
  have e0 : Env0 X.prog X.w X.K X.mg X.base A' X.stack s H := by
    have e := I.env0
    exact ⟨by rw [hfr]; exact e.frames, e.mod, e.bs, e.bsz, e.funs, e.frf, e.hok, e.bare⟩
  have b := hb s us I.kIn (by rw [List.append_nil]; exact hl)
  rw [List.append_nil] at b
  refine wpAny_call (codeAny_mono (F.run A' X.stack s H ⟨us, []⟩ us vs Q (E σ) hr e0 b r h) fun r s' hq => ?_)
  cases r with
  | error e => exact hx pins H s e s' I hq
  | ok fl =>
    cases fl with
    | ret u => exact I.after hq
    | next => exact False.elim hq
    | brk => exact False.elim hq
    | cont => exact False.elim hq
/-- what comes back is no NotImplemented -/
theorem back_ok {pins : List (Addr × Obj)} {σ : L2.St} {Q : VK} {u : Value} {s : Shared} (h : EP X pins σ Q u s) : PySem.W.CmpBack (EP X pins σ Q) u s := by
  obtain ⟨v, H, I, r, q⟩ := h
  have h' : EP X pins σ Q u s := ⟨v, H, I, r, q⟩
  cases v with
  | non => cases r; exact h'
  | bl b => cases r; exact h'
  | int i => obtain ⟨t, rfl⟩ := r; exact h'
  | str i => obtain ⟨t, rfl⟩ := r; exact h'
  | byt i => obtain ⟨t, rfl⟩ := r; exact h'
  | flt i => obtain ⟨t, rfl⟩ := r; exact h'
  | ref a => cases r; exact h'
  | ty n => cases r; exact h'
/-- x's own method on x and y; P what is asked of y -/
def tOwn2 (C : Addr) (sp : Sp) (E : L2.St → XK) (P : V → Hp → Prop) (ta tb : TE) : TE := fun σ H Q => ta σ H fun x H1 => tb σ H1 fun y H2 => ∃ p dx fs, x = .ref p ∧ H2 p = some (.ins C dx fs) ∧ P y H2 ∧ sp [x, y] H2 Q (E σ)
def tOwn1 (C : Addr) (sp : Sp) (E : L2.St → XK) (ta : TE) : TE := fun σ H Q => ta σ H fun x H1 => ∃ p dx fs, x = .ref p ∧ H1 p = some (.ins C dx fs) ∧ sp [x] H1 Q (E σ)
def tOwnIn (C : Addr) (neg : Bool) (sp : Sp) (E : L2.St → XK) (ta tb : TE) : TE := fun σ H Q => ta σ H fun x H1 => tb σ H1 fun y H2 => ∃ p dx fs, y = .ref p ∧ H2 p = some (.ins C dx fs) ∧ sp [y, x] H2 (fun v H3 => ∃ b, v = .bl b ∧ Q (.bl (b != neg)) H3) (E σ)
def PAny : V → Hp → Prop := fun _ _ => True
def PIns (C : Addr) : V → Hp → Prop := fun y H => ∃ p dx fs, y = .ref p ∧ H p = some (.ins C dx fs)
def PInt : V → Hp → Prop := fun y _ => ∃ i, y = .int i
theorem pe_subO (F : FnOk X.prog X.w X.K X.mg X.base CX k f fd ps sp) (hr : Room (k + 1) X.A) (hs : PySem.W.findIn X.K (.ref C) "__getitem__" = some (some (.ref f))) (hf : PySem.W.fnIn X.K f = true) (hfn : PySem.W.isFn X.K (.ref f) = true) (hb : Binds X.K fd ps []) (hx : ∀ σ, PassesAt CX X σ (E σ)) (ha : PE X a ta) (hi : PE X b tb)
    (hsl : ∀ x i, subscripted b true x i = runValue (.builtin "lifetime.subscript" ⟨[x, i], []⟩) := by intro _ _; with_unfolding_all rfl) : PE X (.Subscript a b pos) (tOwn2 C sp E PAny ta tb) := by
  refine ⟨fun pins s σ H Q I h => ?_⟩
  refine Subscript_ (binT ha hi I h fun v u s2 x y H2 I2 rx ry q => ?_)
  obtain ⟨p, dx, fs, rfl, hp, _, q⟩ := q
  obtain rfl : v = Value.ref p := rx
  obtain ⟨mA, J, _⟩ := ins_get I2.hok hp
  obtain ⟨od, J, _⟩ := J.look
  obtain ⟨m, hF⟩ := I2.fr
  exact PySem.W.sub_K hF I2.ok.mod.kin J hs hf hfn (run_fnAt F hr.in1 rfl hb (hx σ) I2 (vs := [V.ref p, y]) (us := [Value.ref p, u]) (.cons (show RelV (.ref p) (.ref p) from rfl) (.cons ry .nil)) q) (hsl _ _)
theorem pe_addO {op : Operator} (F : FnOk X.prog X.w X.K X.mg X.base CX k f fd ps sp) (hr : Room k X.A) (hc : PySem.W.selfFirst X.K C = true) (hs : PySem.W.findIn X.K (.ref C) (PySem.dunder op.info.2) = some (some (.ref f))) (hfn : PySem.W.isFn X.K (.ref f) = true) (hb : Binds X.K fd ps []) (hx : ∀ σ, PassesAt CX X σ (E σ)) (ha : PE X a ta) (hi : PE X b tb) :
    PE X (.BinOp a op b pos) (tOwn2 C sp E (PIns C) ta tb) := by
  refine ⟨fun pins s σ H Q I h => ?_⟩
  refine wpAny_BinOp (binT ha hi I h fun v u s2 x y H2 I2 rx ry q => ?_)
  obtain ⟨p, dx, fs, rfl, hp, ⟨p', dx', fs', rfl, hp'⟩, q⟩ := q
  obtain rfl : v = Value.ref p := rx
  obtain rfl : u = Value.ref p' := ry
  obtain ⟨mA, J, _⟩ := ins_get I2.hok hp
  obtain ⟨od, J, _⟩ := J.look
  obtain ⟨mA', J', _⟩ := ins_get I2.hok hp'
  obtain ⟨od', J', _⟩ := J'.look
  obtain ⟨m, hF⟩ := I2.fr
  exact PySem.W.binop_K hF I2.ok.mod.kin J J'.type hc hs hfn (wpAny_mono (run_fnAt F hr rfl hb (hx σ) I2 (vs := [V.ref p, .ref p']) (us := [Value.ref p, .ref p']) (.cons (show RelV (.ref p) (.ref p) from rfl) (.cons (show RelV (.ref p') (.ref p') from rfl) .nil)) q) (fun _ _ z => back_ok z) fun _ _ z => z)
theorem pe_mulO {op : Operator} {fo ro rc : Option Value} (F : FnOk X.prog X.w X.K X.mg X.base CX k f fd ps sp) (hr : Room k X.A) (hc : PySem.W.selfFirst X.K C = true) (hs : PySem.W.findIn X.K (.ref C) (PySem.dunder op.info.2) = some (some (.ref f))) (hfn : PySem.W.isFn X.K (.ref f) = true) (hrr : PySem.W.findIn X.K (.ref C) (dunderR op.info.2) = some rc) (hp : rc = none ∨ ∃ g : Addr, rc = some (.ref g))
    (h1 : PySem.W.findIn X.K (.type "int") (PySem.dunder op.info.2) = some fo) (h2 : PySem.W.findIn X.K (.type "int") (dunderR op.info.2) = some ro) (hsub : PySem.W.subIn X.K (.type "int") (.ref C) = some false) (hb : Binds X.K fd ps []) (hx : ∀ σ, PassesAt CX X σ (E σ)) (ha : PE X a ta) (hi : PE X b tb) :
    PE X (.BinOp a op b pos) (tOwn2 C sp E PInt ta tb) := by
  refine ⟨fun pins s σ H Q I h => ?_⟩
  refine wpAny_BinOp (binT ha hi I h fun v u s2 x y H2 I2 rx ry q => ?_)
  obtain ⟨p, dx, fs, rfl, hp', ⟨i, rfl⟩, q⟩ := q
  obtain rfl : v = Value.ref p := rx
  obtain ⟨t, rfl⟩ := ry
  obtain ⟨mA, J, _⟩ := ins_get I2.hok hp'
  obtain ⟨od, J, _⟩ := J.look
  obtain ⟨m, hF⟩ := I2.fr
  exact PySem.W.ksp_binT hF I2.ok.mod.kin J rfl hc hs hfn hrr hp h1 h2 hsub (wpAny_mono (run_fnAt F hr rfl hb (hx σ) I2 (vs := [V.ref p, .int i]) (us := [Value.ref p, .int i t]) (.cons (show RelV (.ref p) (.ref p) from rfl) (.cons ⟨t, rfl⟩ .nil)) q) (fun _ _ z => back_ok z) fun _ _ z => z)
theorem pe_negO (F : FnOk X.prog X.w X.K X.mg X.base CX k f fd ps sp) (hr : Room k X.A) (hs : PySem.W.findIn X.K (.ref C) "__neg__" = some (some (.ref f))) (hfn : PySem.W.isFn X.K (.ref f) = true) (hb : Binds X.K fd ps []) (hx : ∀ σ, PassesAt CX X σ (E σ)) (ha : PE X a ta) : PE X (.UnaryOp .USub a pos) (tOwn1 C sp E ta) := by
  refine ⟨fun pins s σ H Q I h => ?_⟩
  refine UnaryOp_ (thn (ha.run pins s σ H _ I h) fun v s1 ⟨x, H1, I1, r1, q1⟩ => ?_)
  obtain ⟨p, dx, fs, rfl, hp, q⟩ := q1
  obtain rfl : v = Value.ref p := r1
  obtain ⟨mA, J, _⟩ := ins_get I1.hok hp
  obtain ⟨od, J, _⟩ := J.look
  obtain ⟨m, hF⟩ := I1.fr
  exact PySem.W.ksp_neg hF I1.ok.mod.kin J hs hfn (run_fnAt F hr rfl hb (hx σ) I1 (vs := [V.ref p]) (us := [Value.ref p]) (.cons (show RelV (.ref p) (.ref p) from rfl) .nil) q)
/-- x == y, both of one class; y a list -/
theorem pe_eqO (F : FnOk X.prog X.w X.K X.mg X.base CX k f fd ps sp) (hr : Room k X.A) (hn : PySem.W.notFirst X.K C (.ref C) = true) (hs : PySem.W.findIn X.K (.ref C) "__eq__" = some (some (.ref f))) (hfn : PySem.W.isFn X.K (.ref f) = true) (hb : Binds X.K fd ps []) (hx : ∀ σ, PassesAt CX X σ (E σ)) (ha : PE X a ta) (hi : PE X b tb) :
    PC X .Eq a b (tOwn2 C sp E (PIns C) ta tb) := by
  refine ⟨fun pins s σ H Q I h => ?_⟩
  refine binT ha hi I h fun v u s2 x y H2 I2 rx ry q => ?_
  obtain ⟨p, dx, fs, rfl, hp, ⟨p', dx', fs', rfl, hp'⟩, q⟩ := q
  obtain rfl : v = Value.ref p := rx
  obtain rfl : u = Value.ref p' := ry
  obtain ⟨mA, J, _⟩ := ins_get I2.hok hp
  obtain ⟨od, J, _⟩ := J.look
  obtain ⟨mA', J', _⟩ := ins_get I2.hok hp'
  obtain ⟨od', J', _⟩ := J'.look
  obtain ⟨m, hF⟩ := I2.fr
  exact PySem.W.cmp_K (op := .Eq) (by have := u64 hr; omega) hF I2.ok.mod.kin J J'.type hn hs hfn (wpAny_mono (run_fnAt F hr rfl hb (hx σ) I2 (vs := [V.ref p, .ref p']) (us := [Value.ref p, .ref p']) (.cons (show RelV (.ref p) (.ref p) from rfl) (.cons (show RelV (.ref p') (.ref p') from rfl) .nil)) q) (fun _ _ z => back_ok z) fun _ _ z => z)
theorem pc_inO {neg : Bool} (F : FnOk X.prog X.w X.K X.mg X.base CX k f fd ps sp) (hr : Room k X.A) (hs : PySem.W.findIn X.K (.ref C) "__contains__" = some (some (.ref f))) (hfn : PySem.W.isFn X.K (.ref f) = true) (hb : Binds X.K fd ps []) (hx : ∀ σ, PassesAt CX X σ (E σ)) (ha : PE X a ta) (hi : PE X b tb) :
    PC X (if neg then .NotIn else .In) a b (tOwnIn C neg sp E ta tb) := by
  refine ⟨fun pins s σ H Q I h => ?_⟩
  refine binT ha hi I h fun v u s2 x y H2 I2 rx ry q => ?_
  obtain ⟨p, dx, fs, rfl, hp, q⟩ := q
  obtain rfl : u = Value.ref p := ry
  obtain ⟨mA, J, _⟩ := ins_get I2.hok hp
  obtain ⟨od, J, _⟩ := J.look
  obtain ⟨m, hF⟩ := I2.fr
  have run := run_fnAt F hr rfl hb (hx σ) I2 (vs := [V.ref p, x]) (us := [Value.ref p, v]) (.cons (show RelV (.ref p) (.ref p) from rfl) (.cons rx .nil)) q
  have fin : ∀ {u : Value} {s' : Shared} {g : Bool → Bool}, (∀ b, g b = (b != neg)) → EP X pins σ (fun v H3 => ∃ b, v = .bl b ∧ Q (.bl (b != neg)) H3) u s' → wpAny (model X.prog X.w) X.A (truthy u) (fun b => EP X pins σ Q (.bool (g b))) X.xe s' := by
    intro u s' g hg ⟨v, H3, I3, r3, b, e, q3⟩
    subst e
    cases r3
    refine wpAny_truthy_bool ⟨.bl (b != neg), H3, I3, ?_, q3⟩
    rw [hg]
    rfl
  cases neg with
  | false => exact PySem.W.in_K hF I2.ok.mod.kin J hs hfn (wpAny_mono run (fun _ _ z => fin (g := fun b => b) (fun b => by cases b <;> rfl) z) fun _ _ z => z)
  | true => exact PySem.W.notIn_K hF I2.ok.mod.kin J hs hfn (wpAny_mono run (fun _ _ z => fin (g := fun b => !b) (fun b => by cases b <;> rfl) z) fun _ _ z => z)
end
end AM
set_option Elab.async false
set_option linter.all false
set_option maxRecDepth 100000
set_option maxHeartbeats 4000000
namespace AM
open PySem PySem.Spec PyProof.Rows L2 Evl
/-! ### lists and tuples alike: zip, enumerate -/
def SqA (K : PySem.W.Frag) (t : Bool) (H : Hp) (a : Addr) (xs : List V) : Prop := if t = true then SqT K H a xs else SqL K H a xs
def ItAt (t : Bool) (h : Heap) (it a : Addr) (i : Nat) : Prop := if t = true then h.IsTupleIter it a i else h.IsListIter it a i
def IsSq (t : Bool) (h : Heap) (a : Addr) (its : Array Value) : Prop := if t = true then h.IsTuple a its else h.IsList a its
def itObj (t : Bool) (a : Addr) : Obj := if t = true then { cls := .type "tuple_iterator", data := .fields #[.ref a, .int 0 0] } else { cls := .type "list_iterator", data := .fields #[.ref a, .int 0 0] }
theorem draws_sq {prog : Program} {w : World} {A : Around} {t : Bool} (hh : A.handled = none) (it a : Addr) (hne : a ≠ it) (items : Array Value) : Draws prog w A it [it, a] items.size (fun i v => items[i]? = some v) (fun i h => ItAt t h it a i ∧ IsSq t h a items) := by
  cases t
  · exact Draws.list hh it a hne items
  · exact Draws.tuple hh it a hne items
theorem begins_sq {t : Bool} (a : Addr) (items : Array Value) : Begins (.ref a) (itObj t a) fun h => IsSq t h a items := by
  cases t
  · exact begins_list a items
  · exact begins_tuple a items
theorem itAt_new {t : Bool} {h : Heap} {it a : Addr} (e : h.get? it = some (itObj t a)) : ItAt t h it a 0 := by
  cases t
  · exact ⟨_, e, rfl, rfl⟩
  · exact ⟨_, e, rfl, rfl⟩
theorem ItAt.obj {t : Bool} {h : Heap} {it a : Addr} {i : Nat} (x : ItAt t h it a i) : ∃ o, h.get? it = some o ∧ ∀ v, o.data ≠ .cell v := by
  cases t
  · obtain ⟨o, e, _, d⟩ := (show h.IsListIter it a i from x)
    exact ⟨o, e, fun v q => by rw [d] at q; cases q⟩
  · obtain ⟨o, e, _, d⟩ := (show h.IsTupleIter it a i from x)
    exact ⟨o, e, fun v q => by rw [d] at q; cases q⟩
theorem ItAt.at {t : Bool} {h h' : Heap} {it a : Addr} {i : Nat} (x : ItAt t h it a i) (k : ∀ o, h.get? it = some o → h'.get? it = some o) : ItAt t h' it a i := by
  cases t
  · exact (show h.IsListIter it a i from x).at k
  · exact (show h.IsTupleIter it a i from x).at k
theorem ItAt.lt {t : Bool} {h : Heap} {it a : Addr} {i : Nat} (x : ItAt t h it a i) : it < h.objs.size := by
  obtain ⟨o, e, _⟩ := x.obj
  exact Heap.lt_size e
section
variable {X : Cx} {pins : List (Addr × Obj)} {σ : L2.St} {H : Hp} {s : Shared}
theorem inv_sq {t : Bool} {a : Addr} {xs : List V} (I : Inv X pins σ H s) (h : SqA X.K t H a xs) : ∃ its, Vals xs its ∧ IsSq t s.heap a its.toArray ∧ xs.length ≤ sizeLine ∧ a < s.heap.objs.size := by
  cases t
  · obtain ⟨its, r, p, hz⟩ := I.list (show SqL X.K H a xs from h)
    exact ⟨its, r, p.isList, hz, p.lt⟩
  · obtain ⟨its, r, p, hz⟩ := I.tuple (show SqT X.K H a xs from h)
    have p' : s.heap.IsTuple a its.toArray := p
    refine ⟨its, r, p', hz, ?_⟩
    obtain ⟨o, e, _⟩ := p'
    exact Heap.lt_size e
theorem sq_inj {t : Bool} {a : Addr} {xs ys : List V} (I : Inv X pins σ H s) (h : SqA X.K t H a xs) (h' : SqA X.K t H a ys) : xs = ys := by
  cases t
  · exact I.list_inj (show SqL X.K H a xs from h) (show SqL X.K H a ys from h')
  · exact I.tuple_inj (show SqT X.K H a xs from h) (show SqT X.K H a ys from h')
end
/-- the two as they stand at each turn, the items in new pairs -/
def Itz2 (K : PySem.W.Frag) (t u : Bool) (a b : Addr) : It :=
  ⟨fun i H => ∃ (xs ys : List V) (x y : V), SqA K t H a xs ∧ SqA K u H b ys ∧ xs[i]? = some x ∧ ys[i]? = some y,
    fun i H v H' => ∃ T x y, v = .ref T ∧ H T = none ∧ H' = upd H T (.tup [x, y]) ∧ (∀ xs, SqA K t H a xs → xs[i]? = some x) ∧ ∀ ys, SqA K u H b ys → ys[i]? = some y,
    fun i H => ∃ xs ys : List V, SqA K t H a xs ∧ SqA K u H b ys ∧ i ≤ xs.length ∧ i ≤ ys.length ∧ (i = xs.length ∨ i = ys.length)⟩
theorem turn_zip2 {P : Program} {w : World} {K : PySem.W.Frag} {t u : Bool} {elts : List Expr} {kk : Nat} {tpos : Pos} {a b z TI TO i1 i2 : Addr} (D : ZipSep2 z TI TO i1 i2 [i1, a] [i2, b]) (na : a ≠ i1) (nb : b ≠ i2) :
    Turn P w K (.Tuple elts kk tpos) (Itz2 K t u a b) [z, TI, TO, i1, i2] z (fun i h => IsZip h z TI TO .none ∧ IsTupOf2 h TI (.ref i1) (.ref i2) ∧ (∃ x y, IsTupOf2 h TO x y) ∧ ItAt t h i1 a i ∧ ItAt u h i2 b i) where
  mem := by simp
  obj := fun i h st c hc => by
    obtain ⟨hz, hTI, ⟨x, y, hTO⟩, h1, h2⟩ := st
    have e' : c = z ∨ c = TI ∨ c = TO ∨ c = i1 ∨ c = i2 := by simpa using hc
    rcases e' with q | q | q | q | q
    · rw [q]; exact ⟨_, hz, fun v q => nomatch q⟩
    · rw [q]; exact ⟨_, hTI, fun v q => nomatch q⟩
    · rw [q]; exact ⟨_, hTO, fun v q => nomatch q⟩
    · rw [q]; exact h1.obj
    · rw [q]; exact h2.obj
  keep := fun i h h' st k => by
    obtain ⟨hz, hTI, ⟨x, y, hTO⟩, h1, h2⟩ := st
    exact ⟨k z (by simp) _ hz, k TI (by simp) _ hTI, ⟨x, y, k TO (by simp) _ hTO⟩, h1.at fun o q => k i1 (by simp) o q, h2.at fun o q => k i2 (by simp) o q⟩
  item := by
    intro X hP hw hK hc i pins s σ H E I hf st hg
    subst hP hw hK
    obtain ⟨hz, hTI, ⟨x0, y0, hTO⟩, h1, h2⟩ := st
    obtain ⟨xs, ys, x, y, hqx, hqy, hx, hy⟩ := hg
    obtain ⟨its, rv, p, _, la⟩ := inv_sq I hqx
    obtain ⟨its2, rv2, p2, _, lb⟩ := inv_sq I hqy
    obtain ⟨v1, hu, ru⟩ := rv.get hx
    obtain ⟨v2, hu2, ru2⟩ := rv2.get hy
    have hzl : z < s.heap.objs.size := Heap.lt_size hz
    have hd : X.A.in1.handled = none := I.ok.hd hc
    have d1 := draws_sq (prog := X.prog) (w := X.w) (A := X.A.in1) (t := t) hd i1 a na its.toArray
    have d2 := draws_sq (prog := X.prog) (w := X.w) (A := X.A.in1) (t := u) hd i2 b nb its2.toArray
    refine wpAny_pyNext_zipD2_item D d1 d2 hz hTI hTO ⟨h1, p⟩ ⟨h2, p2⟩ (by rw [List.size_toArray, ← rv.length]; exact (List.getElem?_eq_some_iff.mp hx).1) (by rw [List.size_toArray, ← rv2.length]; exact (List.getElem?_eq_some_iff.mp hy).1) fun w1 w2 h' tk e1 e2 z' TO' h1' h2' hT hsz hk => ?_
    have e1 : some v1 = some w1 := by rw [← hu, ← e1]; simp
    have e2 : some v2 = some w2 := by rw [← hu2, ← e2]; simp
    cases e1
    cases e2
    refine ⟨_, rfl, wpAny_letOwnedTupleGo_zip (s := { s with heap := h', toks := tk }) z' fun h'' z'' sb => ?_⟩
    have hT2 : h''.get? s.heap.objs.size = some { cls := .type "tuple", data := .seq #[v1, v2] } := (sb.2 _ (Nat.ne_of_gt hzl)).trans hT
    have new : ObjOk X.prog X.w (upd H s.heap.objs.size (.tup [x, y])) h'' s.heap.objs.size (.tup [x, y]) :=
      ⟨by show 2 ≤ sizeLine; decide, [v1, v2], .cons ru (.cons ru2 .nil), ⟨_, hT2, rfl, _, rfl⟩⟩
    have I1 : Inv X pins σ (upd H s.heap.objs.size (.tup [x, y])) { s with heap := h'', toks := tk } :=
      I.turnedNew (t' := tk) (ch := [z, TI, TO, i1, i2]) (fun c o hb q => (sb.2 c (fun q' => hb (by simp [q']))).trans (hk c o (fun q' => hb (by simp [q'])) (fun q' => hb (by simp [q'])) (fun q' => hb (by simp [q'])) (fun q' => hb (by simp [q'])) q)) hf (Nat.le_refl _) new
    refine ⟨.ref s.heap.objs.size, _, I1, rfl, ⟨_, x, y, rfl, I.hok.fresh (Nat.le_refl _), rfl, fun l hl => by rw [sq_inj I hl hqx]; exact hx, fun l hl => by rw [sq_inj I hl hqy]; exact hy⟩, ⟨z'', ?_, ⟨v1, v2, ?_⟩, ?_, ?_⟩, fun c hcm => ?_⟩
    · exact (sb.2 _ D.TIz).trans (hk _ _ D.TIz D.TITO D.TIi1 D.TIi2 hTI)
    · exact (sb.2 _ D.TOz).trans TO'
    · exact h1'.1.at fun o q => (sb.2 _ (Ne.symm D.zi1)).trans q
    · exact h2'.1.at fun o q => (sb.2 _ (Ne.symm D.zi2)).trans q
    · have hlt : c < s.heap.objs.size := by
        have e' : c = z ∨ c = TI ∨ c = TO ∨ c = i1 ∨ c = i2 := by simpa using hcm
        rcases e' with q | q | q | q | q
        · rw [q]; exact hzl
        · rw [q]; exact Heap.lt_size hTI
        · rw [q]; exact Heap.lt_size hTO
        · rw [q]; exact h1.lt
        · rw [q]; exact h2.lt
      rw [upd_ne (Nat.ne_of_lt hlt)]
      exact (hf c hcm).1
  done := by
    intro X hP hw hK hc i pins s σ H E I hf st hg
    subst hP hw hK
    obtain ⟨hz, hTI, ⟨x0, y0, hTO⟩, h1, h2⟩ := st
    obtain ⟨xs, ys, hqx, hqy, hl1, hl2, hend⟩ := hg
    obtain ⟨its, rv, p, _, la⟩ := inv_sq I hqx
    obtain ⟨its2, rv2, p2, _, lb⟩ := inv_sq I hqy
    have hd : X.A.in1.handled = none := I.ok.hd hc
    have d1 := draws_sq (prog := X.prog) (w := X.w) (A := X.A.in1) (t := t) hd i1 a na its.toArray
    have d2 := draws_sq (prog := X.prog) (w := X.w) (A := X.A.in1) (t := u) hd i2 b nb its2.toArray
    rw [rv.length] at hl1 hend
    rw [rv2.length] at hl2 hend
    exact wpAny_pyNext_zipD2_end D d1 d2 hz hTI hTO ⟨h1, p⟩ ⟨h2, p2⟩ (by rw [List.size_toArray]; exact hl1) (by rw [List.size_toArray]; exact hl2) (by rw [List.size_toArray, List.size_toArray]; exact hend) fun h' tk hk => ⟨rfl, I.turnedL (t' := tk) (ch := [z, TI, TO, i1, i2]) (fun c o hb q =>
      hk c o (fun q' => hb (by simp [q'])) (fun q' => hb (by simp [q'])) (fun q' => hb (by simp [q'])) (fun q' => hb (by simp [q'])) q) hf⟩
  self := fun A i s Q E st h => wpAny_pyIter_zip st.1 h
def iZip2 (K : PySem.W.Frag) (ta : TA) : TI := fun σ H R => ta σ H fun vs H1 => ∃ a b t u xs ys, vs = [.ref a, .ref b] ∧ SqA K t H1 a xs ∧ SqA K u H1 b ys ∧ R (Itz2 K t u a b) H1
theorem pi_zip2 {X : Cx} {e e2 : Expr} {ta : TA} {p pos tpos : Pos} {elts : List Expr} {kk : Nat} (hg : Gl X "zip") (hm : X.mg "zip" = none) (ha : PA X [e, e2] ta)
    (hs : starEach [e, e2] X.env = (false, eval e X.env) :: starEach [e2] X.env := by rfl) (hpl : (backTo pos (starEach [e2] X.env)).any (·.1) = false := by rfl) :
    PI X (.Tuple elts kk tpos) (.Call (.Name "zip" p) [e, e2] [] pos) (iZip2 X.K ta) := by
  refine ⟨fun pins s σ H R I h => ?_⟩
  refine Call_ (ld_blt I hg hm PyProof.Rows.boot_zip (PyProof.Rows.callWith_type1 (thn (ha.run pos pins s σ H _ I h) fun us s1 ⟨vs, H1, I1, r1, q1⟩ => ?_) hs hpl))
  obtain ⟨a, b, t, u, xs, ys, ex, hqx, hqy, q⟩ := q1
  subst ex
  cases r1 with
  | cons r rr =>
    cases rr with
    | cons r' rr =>
      cases rr
      cases r
      cases r'
      obtain ⟨its, rv, p1, _, la⟩ := inv_sq I1 hqx
      obtain ⟨its2, rv2, p2, _, lb⟩ := inv_sq I1 hqy
      refine zip_begins2 (begins_sq (t := t) a its.toArray) (begins_sq (t := u) b its2.toArray) p1 p2 fun h' hz hTI hTO h1 h2 hsz hk => wpAny_pyIter_zip hz ?_
      have I2 : Inv X pins σ H1 { s1 with heap := h' } := I1.kept (t' := s1.toks) hk
      refine ⟨s1.heap.objs.size + 4, [s1.heap.objs.size + 4, s1.heap.objs.size + 2, s1.heap.objs.size + 3, s1.heap.objs.size, s1.heap.objs.size + 1], _, _, H1, rfl, I2, turn_zip2 (t := t) (u := u) (zip_sep2 (fp1 := [a]) (fp2 := [b]) (by simpa using la) (by simpa using lb)) (Nat.ne_of_lt la) (Nat.ne_of_lt (Nat.lt_succ_of_lt lb)), ⟨hz, hTI, ⟨_, _, hTO⟩, itAt_new h1, itAt_new h2⟩, fun c hcm => ?_, q⟩
      have e' : c = s1.heap.objs.size + 4 ∨ c = s1.heap.objs.size + 2 ∨ c = s1.heap.objs.size + 3 ∨ c = s1.heap.objs.size ∨ c = s1.heap.objs.size + 1 := by simpa using hcm
      have hle : s1.heap.objs.size ≤ c := by
        rcases e' with z | z | z | z | z
        · rw [z]; exact Nat.le_add_right _ _
        · rw [z]; exact Nat.le_add_right _ _
        · rw [z]; exact Nat.le_add_right _ _
        · rw [z]; exact Nat.le_refl _
        · rw [z]; exact Nat.le_add_right _ _
      exact I1.fpOk hle (I1.hok.fresh hle)
/-- enumerate -/
def Ite2 (K : PySem.W.Frag) (t : Bool) (a : Addr) : It :=
  ⟨fun i H => ∃ (xs : List V) (x : V), SqA K t H a xs ∧ xs[i]? = some x,
    fun i H v H' => ∃ T x, v = .ref T ∧ H T = none ∧ H' = upd H T (.tup [.int (i : Nat), x]) ∧ ∀ xs, SqA K t H a xs → xs[i]? = some x,
    fun i H => ∃ xs : List V, SqA K t H a xs ∧ i = xs.length⟩
theorem turn_enum2 {P : Program} {w : World} {K : PySem.W.Frag} {t : Bool} {elts : List Expr} {kk : Nat} {tpos : Pos} (a e it : Addr) (na : a ≠ it) (ne : e ≠ a) :
    Turn P w K (.Tuple elts kk tpos) (Ite2 K t a) [e, it] e (fun i h => (∃ old, IsEnum h e it (i : Int) old) ∧ ItAt t h it a i ∧ e ≠ it) where
  mem := by simp
  obj := fun i h st c hc => by
    obtain ⟨⟨old, he⟩, hit, _⟩ := st
    have e' : c = e ∨ c = it := by simpa using hc
    rcases e' with z | z
    · rw [z]; exact ⟨_, he, fun v q => nomatch q⟩
    · rw [z]; exact hit.obj
  keep := fun i h h' st k => let ⟨⟨old, he⟩, hi, hne⟩ := st; ⟨⟨old, k e (by simp) _ he⟩, hi.at fun o q => k it (by simp) o q, hne⟩
  item := by
    intro X hP hw hK hc i pins s σ H E I hf st hg
    subst hP hw hK
    obtain ⟨⟨old, he⟩, hit, hne⟩ := st
    obtain ⟨xs, x, hq, hx⟩ := hg
    obtain ⟨its, rv, p, _, la⟩ := inv_sq I hq
    obtain ⟨u, hu, ru⟩ := rv.get hx
    have hel : e < s.heap.objs.size := Heap.lt_size he
    have hil : it < s.heap.objs.size := hit.lt
    have hd : X.A.in1.handled = none := I.ok.hd hc
    have d1 := draws_sq (prog := X.prog) (w := X.w) (A := X.A.in1) (t := t) hd it a na its.toArray
    refine wpAny_pyNext_enum_itemD d1 he ⟨hit, p⟩ (by rw [List.size_toArray, ← rv.length]; exact (List.getElem?_eq_some_iff.mp hx).1) hne (by simp [hne, ne]) fun w1 h' tk e1 ho hit' hT hsz hk => ?_
    have e1 : some u = some w1 := by rw [← hu, ← e1]; simp
    cases e1
    refine ⟨_, rfl, wpAny_letOwnedTupleGo_enum (s := { s with heap := h', toks := tk + 1 }) ho fun h'' he' sb => ?_⟩
    have hT2 : h''.get? s.heap.objs.size = some { cls := .type "tuple", data := .seq #[.int i tk, u] } := (sb.2 _ (Nat.ne_of_gt hel)).trans hT
    have new : ObjOk X.prog X.w (upd H s.heap.objs.size (.tup [.int (i : Nat), x])) h'' s.heap.objs.size (.tup [.int (i : Nat), x]) :=
      ⟨by show 2 ≤ sizeLine; decide, [.int i tk, u], .cons ⟨_, rfl⟩ (.cons ru .nil), ⟨_, hT2, rfl, _, rfl⟩⟩
    have I1 : Inv X pins σ (upd H s.heap.objs.size (.tup [.int (i : Nat), x])) { s with heap := h'', toks := tk + 1 } :=
      I.turnedNew (ch := [e, it]) (fun b ob hb q => (sb.2 b (fun z => hb (by simp [z]))).trans (hk b ob (fun z => hb (by simp [z])) (fun z => hb (by simp [z])) q)) hf (Nat.le_refl _) new
    refine ⟨.ref s.heap.objs.size, _, I1, rfl, ⟨_, x, rfl, I.hok.fresh (Nat.le_refl _), rfl, fun ys hy => by rw [sq_inj I hy hq]; exact hx⟩, ⟨⟨u, ?_⟩, hit'.1.at fun o q => (sb.2 it (Ne.symm hne)).trans q, hne⟩, fun b hb => ?_⟩
    · have e1 : ((i + 1 : Nat) : Int) = (i : Int) + 1 := by omega
      rw [e1]; exact he'
    · have hb' : b < s.heap.objs.size := by
        have e' : b = e ∨ b = it := by simpa using hb
        rcases e' with z | z
        · rw [z]; exact hel
        · rw [z]; exact hil
      rw [upd_ne (Nat.ne_of_lt hb')]
      exact (hf b hb).1
  done := by
    intro X hP hw hK hc i pins s σ H E I hf st hg
    subst hP hw hK
    obtain ⟨⟨old, he⟩, hit, hne⟩ := st
    obtain ⟨xs, hq, hx⟩ := hg
    obtain ⟨its, rv, p, _, la⟩ := inv_sq I hq
    obtain ⟨f0, f1, f2, f3, f4, f5⟩ := hf it (by simp)
    have hd : X.A.in1.handled = none := I.ok.hd hc
    have d1 := draws_sq (prog := X.prog) (w := X.w) (A := X.A.in1) (t := t) hd it a na its.toArray
    have hl := rv.length
    have ei : its.toArray.size = i := by rw [List.size_toArray]; omega
    exact wpAny_pyNext_enum_endD d1 he (by rw [ei]; exact ⟨hit, p⟩) fun h' eb => ⟨rfl, I.turned (t' := s.toks) (fun b o hb q => eb b o hb q) f0 f1 f3 f4 f5⟩
  self := fun A i s Q E st h => let ⟨⟨_, he⟩, _⟩ := st; wpAny_pyIter_enum he h
theorem meets_enum1 {v : Value} {o : Obj} {H : Heap → Prop} (B : Begins v o H) :
    Meets (Builtin.«enumerate.__new__» ⟨[.type "enumerate", v], []⟩) (fun _ R s => H s.heap ∧
      R (.ok (.ret (.ref (s.heap.push o).objs.size))) { s with heap := (s.heap.push o).push { cls := .type "enumerate", data := .fields #[.none, .bool false, .ref s.heap.objs.size, rawInt 0, .none, .none] } }) :=
  .of_wp fun prog w A R s h => by
    obtain ⟨hp, g, d, tk, os⟩ := s; obtain ⟨h1, h⟩ := h
    have hsub := sub_enumerate
    have q1 : ∀ {A' : Around} {E : Value → Shared → Prop} {Q : Value → Shared → Prop}, Q (.ref hp.objs.size) ⟨hp.push o, g, d, tk, os⟩ → wpAny (model prog w) A' (pyIter v) Q E ⟨hp, g, d, tk, os⟩ :=
      fun q => B.iter prog w _ _ ⟨hp, g, d, tk, os⟩ _ h1 q
    wp_walk using q1
    refine wpAny_stack_any fun st => wpAny_pure ?_
    split
    · rename_i c _ _ _ _ _
      cases (c == Value.type "enumerate")
      · wp_walk using q1
        exact ⟨_, rfl, h⟩
      · wp_walk using q1
        exact ⟨_, rfl, h⟩
    · wp_walk using q1
      exact ⟨_, rfl, h⟩
theorem enum_begins1 {prog : Program} {w : World} {A : Around} {E : Value → Shared → Prop} {s : Shared} {v : Value} {o : Obj} {H : Heap → Prop} {Q : Value → Shared → Prop} (B : Begins v o H) (h1 : H s.heap)
    (h : ∀ h', IsEnum h' (s.heap.objs.size + 1) s.heap.objs.size 0 .none → h'.get? s.heap.objs.size = some o → h'.objs.size = s.heap.objs.size + 2 →
      (∀ b o, s.heap.get? b = some o → h'.get? b = some o) → Q (.ref (s.heap.objs.size + 1)) { s with heap := h' }) :
    wpAny (model prog w) A (call (.type "enumerate") [v]) Q E s := by
  refine callType_new F.called_enumerate (by decide) (F.typeCall_enumerate_1 _) (F.newCall_enumerate_1 _) (fun obj => F.args_object_init_2 obj _) F.entry_enumerate_new
    (meets_enum1 B) ⟨h1, ?_⟩
  have hz : (s.heap.push o).objs.size = s.heap.objs.size + 1 := Heap.size_push ..
  show _ ∧ _
  rw [hz]
  have he : IsEnum ((s.heap.push o).push { cls := .type "enumerate", data := .fields #[.none, .bool false, .ref s.heap.objs.size, rawInt 0, .none, .none] }) (s.heap.objs.size + 1) s.heap.objs.size 0 .none := by
    have := Heap.get?_push_size (s.heap.push o) (o := { cls := .type "enumerate", data := .fields #[.none, .bool false, .ref s.heap.objs.size, rawInt 0, .none, .none] }) rfl
    rw [hz] at this; exact this
  refine ⟨⟨_, he, rfl⟩, h _ he (Heap.get?_push_of_some _ (Heap.get?_push_size _ B.free)) (by rw [Heap.size_push, hz]) fun b o x => Heap.get?_push_of_some _ (Heap.get?_push_of_some _ x)⟩
def iEnum2 (K : PySem.W.Frag) (ta : TA) : TI := fun σ H R => ta σ H fun vs H1 => ∃ a t xs, vs = [.ref a] ∧ SqA K t H1 a xs ∧ R (Ite2 K t a) H1
theorem pi_enum2 {X : Cx} {e : Expr} {ta : TA} {p pos tpos : Pos} {elts : List Expr} {kk : Nat} (hg : Gl X "enumerate") (hm : X.mg "enumerate" = none) (ha : PA X [e] ta) (hs : starEach [e] X.env = [(false, eval e X.env)] := by rfl) :
    PI X (.Tuple elts kk tpos) (.Call (.Name "enumerate" p) [e] [] pos) (iEnum2 X.K ta) := by
  refine ⟨fun pins s σ H R I h => ?_⟩
  refine Call_ (ld_blt I hg hm boot_enumerate (PyProof.Rows.callWith_type1 (thn (ha.run pos pins s σ H _ I h) fun us s1 ⟨vs, H1, I1, r1, q1⟩ => ?_) hs rfl))
  obtain ⟨a, t, xs, ex, hq, q⟩ := q1
  subst ex
  cases r1 with
  | cons r rr =>
    cases rr
    cases r
    obtain ⟨its, rv, p1, _, la⟩ := inv_sq I1 hq
    refine enum_begins1 (begins_sq (t := t) a its.toArray) p1 fun h' he hit hsz hk => wpAny_pyIter_enum he ?_
    have I2 : Inv X pins σ H1 { s1 with heap := h' } := I1.kept (t' := s1.toks) hk
    refine ⟨s1.heap.objs.size + 1, [s1.heap.objs.size + 1, s1.heap.objs.size], _, _, H1, rfl, I2, turn_enum2 (t := t) a (s1.heap.objs.size + 1) s1.heap.objs.size (Nat.ne_of_lt la) (Nat.ne_of_gt (Nat.lt_succ_of_lt la)), ⟨⟨.none, he⟩, itAt_new hit, Nat.succ_ne_self _⟩, fun b hb => ?_, q⟩
    have e' : b = s1.heap.objs.size + 1 ∨ b = s1.heap.objs.size := by simpa using hb
    have hle : s1.heap.objs.size ≤ b := by
      rcases e' with z | z
      · rw [z]; exact Nat.le_add_right _ _
      · rw [z]; exact Nat.le_refl _
    exact I1.fpOk hle (I1.hok.fresh hle)
/-! ### read by data -/
def zipD (l m : List D) : List D := List.zipWith (fun x y => .tup [x, y]) l m
def enumD (l : List D) : List D := l.zipIdx.map fun p => .tup [.int p.2, p.1]
def aZip (a b : AE) : AI := fun env st q er => a env st (fun x s1 => b env s1 (fun y s2 => ∃ l m, itemsD (vw s2 x) = some l ∧ itemsD (vw s2 y) = some m ∧ q (zipD l m) (gdOf s2 x ++ gdOf s2 y) s2) er) er
def aEnum (a : AE) : AI := fun env st q er => a env st (fun x s1 => ∃ l, itemsD (vw s1 x) = some l ∧ q (enumD l) (gdOf s1 x) s1) er
theorem gdOk_app {g g' : Gd} {st : S} : gdOk (g ++ g') st ↔ gdOk g st ∧ gdOk g' st := by
  unfold gdOk
  constructor
  · exact fun h => ⟨fun x hx => h x (List.mem_append_left _ hx), fun x hx => h x (List.mem_append_right _ hx)⟩
  · rintro ⟨h1, h2⟩ x hx
    rcases List.mem_append.mp hx with q | q
    · exact h1 x q
    · exact h2 x q
theorem walks_zip {K : PySem.W.Frag} {G : Gh} {H0 : Hp} {g g' : Gd} {a b : Addr} {t u : Bool} {l m : List D} (h : ∀ G2 st2 H2, G.le G2 → SS K G2 st2 H2 → gdOk g st2 → ∃ us, Reps K G2 l us ∧ SqA K t H2 a us) (h' : ∀ G2 st2 H2, G.le G2 → SS K G2 st2 H2 → gdOk g' st2 → ∃ us, Reps K G2 m us ∧ SqA K u H2 b us) : Walks K G H0 (Itz2 K t u a b) (zipD l m) (g ++ g') where
  stop := fun i G2 st H le s gk hi => by
    obtain ⟨g1, g2⟩ := gdOk_app.mp gk
    obtain ⟨us, r, q⟩ := h G2 st H le.le s g1
    obtain ⟨us', r', q'⟩ := h' G2 st H le.le s g2
    have e1 := r.length
    have e2 := r'.length
    unfold zipD at hi
    rw [List.length_zipWith] at hi
    exact ⟨us, us', q, q', by omega, by omega, by omega⟩
  go := fun i G2 st H le s gk hi => by
    obtain ⟨g1, g2⟩ := gdOk_app.mp gk
    obtain ⟨us, r, q⟩ := h G2 st H le.le s g1
    obtain ⟨us', r', q'⟩ := h' G2 st H le.le s g2
    have e1 := r.length
    have e2 := r'.length
    unfold zipD at hi
    rw [List.length_zipWith] at hi
    exact ⟨us, us', us[i]'(by omega), us'[i]'(by omega), q, q', List.getElem?_eq_getElem _, List.getElem?_eq_getElem _⟩
  yld := fun i G2 st H d x H' le s gk hd y => by
    obtain ⟨g1, g2⟩ := gdOk_app.mp gk
    obtain ⟨us, r, q⟩ := h G2 st H le.le s g1
    obtain ⟨us', r', q'⟩ := h' G2 st H le.le s g2
    obtain ⟨T, x1, y1, rfl, hT, rfl, f1, f2⟩ := y
    unfold zipD at hd
    rw [List.getElem?_zipWith] at hd
    cases hl : l[i]? with
    | none => rw [hl] at hd; cases hd
    | some d1 =>
      cases hm : m[i]? with
      | none => rw [hl, hm] at hd; cases hd
      | some d2 =>
        rw [hl, hm] at hd
        cases hd
        obtain ⟨v1, k1, r1⟩ := r.get hl
        obtain ⟨v2, k2, r2⟩ := r'.get hm
        have z1 := f1 us q
        have z2 := f2 us' q'
        rw [k1] at z1
        rw [k2] at z2
        cases z1
        cases z2
        obtain ⟨s6, p6⟩ := s.new (o := .tup [x1, y1]) hT
        exact ⟨_, p6, s6, .tup upd_same (Reps.mono p6.le (.cons r1 (.cons r2 .nil)))⟩
theorem walks_enum {K : PySem.W.Frag} {G : Gh} {H0 : Hp} {g : Gd} {a : Addr} {t : Bool} {l : List D} (h : ∀ G2 st2 H2, G.le G2 → SS K G2 st2 H2 → gdOk g st2 → ∃ us, Reps K G2 l us ∧ SqA K t H2 a us) : Walks K G H0 (Ite2 K t a) (enumD l) g where
  stop := fun i G2 st H le s gk hi => by
    obtain ⟨us, r, q⟩ := h G2 st H le.le s gk
    have e1 := r.length
    unfold enumD at hi
    rw [List.length_map, List.length_zipIdx] at hi
    exact ⟨us, q, by omega⟩
  go := fun i G2 st H le s gk hi => by
    obtain ⟨us, r, q⟩ := h G2 st H le.le s gk
    have e1 := r.length
    unfold enumD at hi
    rw [List.length_map, List.length_zipIdx] at hi
    exact ⟨us, us[i]'(by omega), q, List.getElem?_eq_getElem _⟩
  yld := fun i G2 st H d x H' le s gk hd y => by
    obtain ⟨us, r, q⟩ := h G2 st H le.le s gk
    obtain ⟨T, x1, rfl, hT, rfl, f1⟩ := y
    unfold enumD at hd
    rw [List.getElem?_map, List.getElem?_zipIdx] at hd
    cases hl : l[i]? with
    | none => rw [hl] at hd; cases hd
    | some d1 =>
      rw [hl] at hd
      obtain ⟨v1, k1, r1⟩ := r.get hl
      have z1 := f1 us q
      rw [k1] at z1
      cases z1
      have hd : D.tup [D.int ((0 + i : Nat) : Int), d1] = d := Option.some.inj hd
      rw [Nat.zero_add] at hd
      subst hd
      obtain ⟨s6, p6⟩ := s.new (o := .tup [.int (i : Nat), x1]) hT
      exact ⟨_, p6, s6, .tup upd_same (Reps.mono p6.le (.cons (.int _) (.cons r1 .nil)))⟩
section
variable {X : Cx} {W : WX} {e e2 : Expr} {ae ab : AE} {p pos tpos : Pos} {elts : List Expr} {kk : Nat}
theorem axi_zip (hm : X.mg "zip" = none) (h : AX X W e ae) (h' : AX X W e2 ab) (hg : Gl X "zip" := by rfl) (hs : starEach [e, e2] X.env = (false, eval e X.env) :: starEach [e2] X.env := by rfl) (hs2 : starEach [e2] X.env = [(false, eval e2 X.env)] := by rfl) (hpl : (backTo pos (starEach [e2] X.env)).any (·.1) = false := by rfl) :
    AXI X W (.Tuple elts kk tpos) (.Call (.Name "zip" p) [e, e2] [] pos) (aZip ae ab) := by
  obtain ⟨t, pe, r⟩ := h
  obtain ⟨t', pe', r'⟩ := h'
  refine ⟨_, pi_zip2 hg hm (pa_cons pe (pa_cons pe' pa_nil (by rw [hs2]; rfl)) (by rw [hs])) hs hpl, fun G env st σ H R q er s sl a t tX => r G env st σ H _ _ er s sl a (fun v d st2 G2 H2 p2 s2 r2 h2 => r' G2 env st2 σ H2 _ _ er s2 (sl.mono p2.le) h2 (fun v' d' st3 G3 H3 p3 s3 r3 h3 => ?_) (tX.on p2)) tX⟩
  obtain ⟨l, m, hl, hm, h3⟩ := h3
  obtain ⟨a, vs, tup, rfl, rs, gk, hh⟩ := rep_seq s3 (r2.mono p3.le) hl
  obtain ⟨b, vs', tup', rfl, rs', gk', hh'⟩ := rep_seq s3 r3 hm
  obtain ⟨us, _, q1⟩ := hh G3 st3 H3 (Gh.le.refl _) s3 gk
  obtain ⟨us', _, q2⟩ := hh' G3 st3 H3 (Gh.le.refl _) s3 gk'
  exact ⟨a, b, tup, tup', us, us', rfl, q1, q2, t _ _ _ st3 G3 H3 (p2.trans p3) s3 (walks_zip hh hh') h3⟩
theorem axi_enum (hm : X.mg "enumerate" = none) (h : AX X W e ae) (hg : Gl X "enumerate" := by rfl) (hs : starEach [e] X.env = [(false, eval e X.env)] := by rfl) :
    AXI X W (.Tuple elts kk tpos) (.Call (.Name "enumerate" p) [e] [] pos) (aEnum ae) := by
  obtain ⟨t, pe, r⟩ := h
  refine ⟨_, pi_enum2 hg hm (pa_cons pe pa_nil (by rw [hs]; rfl)) hs, fun G env st σ H R q er s sl a t tX => r G env st σ H _ _ er s sl a (fun v d st2 G2 H2 p2 s2 r2 h2 => ?_) tX⟩
  obtain ⟨l, hl, h2⟩ := h2
  obtain ⟨a, vs, tup, rfl, rs, gk, hh⟩ := rep_seq s2 r2 hl
  obtain ⟨us, _, q1⟩ := hh G2 st2 H2 (Gh.le.refl _) s2 gk
  exact ⟨a, tup, us, rfl, q1, t _ _ _ st2 G2 H2 p2 s2 (walks_enum hh) h2⟩
end
end AM
set_option Elab.async false
set_option linter.all false
set_option maxRecDepth 100000
set_option maxHeartbeats 4000000
namespace AM
open PySem PySem.Spec PyProof.Rows L2 Evl
/-! ### starred displays -/
def aStar (a : AE) (r : AEs) : AEs := fun env st q er => a env st (fun x s1 => ∃ l, itemsD (vw s1 x) = some l ∧ r env s1 (fun xs s2 => q (l ++ xs) s2) er) er
section
variable {X : Cx} {W : WX} {e : Expr} {es : List Expr} {ae : AE} {ar : AEs} {p : Pos}
theorem axa_star (ha : AX X W e ae) (hr : AXA X W es ar) (hs : starEach (.Starred e p :: es) X.env = (true, eval e X.env) :: starEach es X.env := by rfl) : AXA X W (.Starred e p :: es) (aStar ae ar) := by
  obtain ⟨ta, pa, ra⟩ := ha
  obtain ⟨tb, pb, rb⟩ := hr
  refine ⟨_, StX.pa_star pa pb hs, fun G env st σ H Q q er s l h tE tX => ra G env st σ H _ _ er s l h (fun v d st1 G1 H1 p1 s1 r1 h1 => ?_) tX⟩
  obtain ⟨m, hm, h1⟩ := h1
  obtain ⟨a, vs, tup, rfl, rs, gk, hh⟩ := rep_seq s1 r1 hm
  obtain ⟨us, ru, q1⟩ := hh G1 st1 H1 (Gh.le.refl _) s1 gk
  refine ⟨a, us, rfl, ?_, rb G1 env st1 σ H1 _ _ er s1 (l.mono p1.le) h1 (fun vs2 ds2 st2 G2 H2 p2 s2 r2 h2 => tE _ _ st2 G2 H2 (p1.trans p2) s2 ((ru.mono p2.le).append r2) h2) (tX.on p1)⟩
  cases tup with
  | false => exact .inr q1
  | true => exact .inl q1
end
/-! ### slices -/
abbrev AO := List A → S → (Option Int → S → Prop) → QX → Prop
def oNo : AO := fun _ st q _ => q none st
def oAt (a : AE) : AO := fun env st q er => a env st (fun d s1 => ∃ i, d = .int i ∧ q (some i) s1) er
def RefP (K : PySem.W.Frag) (W : WX) (t : TO) (a : AO) : Prop := ∀ G env st σ H (Q : Option Int → Hp → Prop) (q : Option Int → S → Prop) (er : QX), SS K G st H → Sl K G env σ → a env st q er → (∀ o st2 G2 H2, Post G H G2 H2 → SS K G2 st2 H2 → q o st2 → Q o H2) → ThenX K W G H σ er → t σ H Q
def AXP (X : Cx) (W : WX) (e : Option Expr) (a : AO) : Prop := ∃ t, PO X e t ∧ RefP X.K W t a
/-- the items of xs[lo:hi] -/
def cutL {α : Type} (xs : List α) (lo hi : Option Int) : List α := (xs.drop (HT.sIx xs.length 0 lo)).take (HT.sIx xs.length xs.length hi - HT.sIx xs.length 0 lo)
theorem Reps.drop {K : PySem.W.Frag} {G : Gh} : ∀ {ds : List D} {vs : List V} (n : Nat), Reps K G ds vs → Reps K G (ds.drop n) (vs.drop n)
  | _, _, 0, r => r
  | _, _, _ + 1, .nil => .nil
  | _, _, n + 1, .cons _ r => Reps.drop n r
theorem Reps.take {K : PySem.W.Frag} {G : Gh} : ∀ {ds : List D} {vs : List V} (n : Nat), Reps K G ds vs → Reps K G (ds.take n) (vs.take n)
  | _, _, 0, _ => by simp only [List.take_zero]; exact .nil
  | _, _, _ + 1, .nil => .nil
  | _, _, n + 1, .cons h r => .cons h (Reps.take n r)
theorem Reps.cutL {K : PySem.W.Frag} {G : Gh} {ds : List D} {vs : List V} {lo hi : Option Int} (r : Reps K G ds vs) : Reps K G (AM.cutL ds lo hi) (cutV vs lo hi) := by
  unfold AM.cutL cutV
  rw [r.length]
  exact (r.drop _).take _
theorem cutL_all {α : Type} {xs : List α} {lo hi : Option Int} (h1 : HT.sIx xs.length 0 lo = 0) (h2 : HT.sIx xs.length xs.length hi = xs.length) : cutL xs lo hi = xs := by
  unfold cutL
  rw [h1, h2]
  simp
def slD (x : D) (lo hi : Option Int) (q : D → Prop) : Prop := match x with
  | .lst l => q (.lst (cutL l lo hi))
  | .tup l => q (.tup (cutL l lo hi))
  | .str z => z.length ≤ 100000 ∧ q (.str (Txt.slice z lo hi))
  | _ => False
def aSl (a : AE) (lo hi : AO) : AE := fun env st q er => a env st (fun x s1 => lo env s1 (fun l s2 => hi env s2 (fun h s3 => slD (vw s3 x) l h fun d => q d s3) er) er) er
def rSlAll (K : PySem.W.Frag) : V → Option Int → Option Int → Hp → VK → Prop := fun x lo hi H Q => rSlL K x lo hi H Q ∨ rSlA K x lo hi H Q ∨ C8.rSlX x lo hi H Q
section
variable {X : Cx} {W : WX} {e : Expr} {ae : AE} {p p2 pos : Pos} {lo hi : Option Expr} {al ah : AO}
theorem axp_no : AXP X W none oNo := ⟨_, po_none, fun G env st σ H Q q er s l h t tX => t none st G H Post.refl s h⟩
theorem axp_at (h : AX X W e ae) : AXP X W (some e) (oAt ae) := by
  obtain ⟨t, pe, r⟩ := h
  refine ⟨_, po_some pe, fun G env st σ H Q q er s l h t tX => r G env st σ H _ _ er s l h (fun v d st1 G1 H1 p1 s1 r1 h1 => ?_) tX⟩
  obtain ⟨i, rfl, h1⟩ := h1
  cases r1
  exact ⟨i, rfl, t (some i) st1 G1 H1 p1 s1 h1⟩
theorem ax_sl (ha : AX X W e ae) (hl : AXP X W lo al) (hh : AXP X W hi ah) : AX X W (.Subscript e (.Slice lo hi none p2) pos) (aSl ae al ah) := by
  obtain ⟨ta, pa, ra⟩ := ha
  obtain ⟨tl, pl, rl⟩ := hl
  obtain ⟨th, ph, rh⟩ := hh
  refine ⟨_, pe_slice (r := rSlAll X.K) (SlR.or sl_list (SlR.or sl_tupA C8.sl_txt)) pa pl ph, fun G env st σ H Q q er s l h tE tX => ra G env st σ H _ _ er s l h (fun v d st1 G1 H1 p1 s1 r1 h1 => ?_) tX⟩
  refine rl G1 env st1 σ H1 _ _ er s1 (l.mono p1.le) h1 (fun lo st2 G2 H2 p2 s2 h2 => ?_) (tX.on p1)
  have p12 := p1.trans p2
  refine rh G2 env st2 σ H2 _ _ er s2 (l.mono p12.le) h2 (fun hi st3 G3 H3 p3 s3 h3 => ?_) (tX.on p12)
  have p13 := p12.trans p3
  have rv := ((r1.mono p2.le).mono p3.le).vw s3
  generalize vw st3 d = d' at h3 rv
  have here : ThenE X.K G3 H3 (fun d s => q d s) Q := fun v d st4 G4 H4 p4 s4 r4 h4 => tE v d st4 G4 H4 (p13.trans p4) s4 r4 h4
  cases rv with
  | lst hp rs => exact .inl ⟨_, _, rfl, SqL.of hp, fun a ha => by
      obtain ⟨s4, p4⟩ := s3.new (o := .lst (cutV _ lo hi)) ha
      exact here _ _ st3 _ _ p4 s4 (.lst upd_same ((Reps.cutL rs).mono p4.le)) h3⟩
  | tup hp rs rt => refine .inr (.inl ⟨_, _, rfl, SqT.of hp, fun hw => ?_, fun hw a ha => ?_⟩)
                    · have e : cutL _ lo hi = _ := cutL_all (xs := _) (by rw [rs.length]; exact hw.1) (by rw [rs.length]; exact hw.2)
                      have h3 : q (.tup (cutL _ lo hi)) st3 := h3
                      rw [e] at h3
                      exact here _ _ st3 G3 H3 Post.refl s3 rt h3
                    · obtain ⟨s4, p4⟩ := s3.new (o := .tup (cutV _ lo hi)) ha
                      exact here _ _ st3 _ _ p4 s4 (.tup upd_same ((Reps.cutL rs).mono p4.le)) h3
  | str z => exact .inr (.inr ⟨z, rfl, sz_of h3.1, here _ _ st3 G3 H3 Post.refl s3 (.str _) h3.2⟩)
  | _ => exact h3.elim
end
/-! ### is None; in -/
def nonD : D → Option Bool
  | .non => some true
  | .ref _ => none
  | _ => some false
def oIs : O2 := fun x y q => y = .non ∧ ∃ b, nonD x = some b ∧ q (.bl b)
def oIsNot : O2 := fun x y q => y = .non ∧ ∃ b, nonD x = some b ∧ q (.bl (!b))
def oIn : O2 := fun x y q => x.shp ∧ y.shp ∧ ∃ l, y = .lst l ∧ q (.bl (l.any fun z => D.eqv z x))
def oNotIn : O2 := fun x y q => x.shp ∧ y.shp ∧ ∃ l, y = .lst l ∧ q (.bl (!l.any fun z => D.eqv z x))
theorem nonD_ok {K : PySem.W.Frag} {G : Gh} {H : Hp} {d : D} {v : V} {b : Bool} (r : Rv K G H d v) (h : nonD d = some b) : decide (v = .non) = b := by
  cases r <;> cases h <;> rfl
theorem any_pys {x : D} (hx : x.plain = true) : ∀ {l : List D}, D.plains l = true → ((D.pys l).any fun z => PyData.eqv z x.py) = l.any fun z => D.eqv z x
  | [], _ => rfl
  | y :: l, h => by
    obtain ⟨h1, h2⟩ := Bool.and_eq_true_iff.mp (show (y.plain && D.plains l) = true from h)
    show (PyData.eqv y.py x.py || (D.pys l).any fun z => PyData.eqv z x.py) = (D.eqv y x || l.any fun z => D.eqv z x)
    rw [D.py_eqv h1 hx, any_pys hx h2]
section
variable {X : Cx} {W : WX} {k : Nat}
theorem op_Is : OpR X (compareOp .Is) (fun x y H Q => y = .non ∧ Q (.bl (decide (x = .non))) H) ∧ RefO X.K (fun x y H Q => y = .non ∧ Q (.bl (decide (x = .non))) H) oIs := ⟨op_isN, fun G st H x y dx dy Q q s rx ry h t => by
  obtain ⟨rfl, b, hb, h⟩ := h
  cases ry
  exact ⟨rfl, by rw [nonD_ok rx hb]; exact t.here s (.bl _) h⟩⟩
theorem op_IsNot : OpR X (compareOp .IsNot) (fun x y H Q => y = .non ∧ Q (.bl (!decide (x = .non))) H) ∧ RefO X.K (fun x y H Q => y = .non ∧ Q (.bl (!decide (x = .non))) H) oIsNot := ⟨op_notN, fun G st H x y dx dy Q q s rx ry h t => by
  obtain ⟨rfl, b, hb, h⟩ := h
  cases ry
  exact ⟨rfl, by rw [nonD_ok rx hb]; exact t.here s (.bl _) h⟩⟩
theorem op_In (C : CxE X W k) : OpR X (compareOp .In) (rInD X.K) ∧ RefO X.K (rInD X.K) oIn := ⟨op_inD (u64 C.room), fun G st H x y dx dy Q q s rx ry h t => by
  obtain ⟨h1, h2, l, rfl, h⟩ := h
  exact ⟨dx.py, D.pys l, rx.dp s.ex h1.1, ry.dp s.ex h2.1, D.shaped h1, D.shaped h2, by rw [any_pys h1.1 h2.1]; exact t.here s (.bl _) h⟩⟩
theorem op_NotIn (C : CxE X W k) : OpR X (compareOp .NotIn) (rNotInD X.K) ∧ RefO X.K (rNotInD X.K) oNotIn := ⟨op_notInD (u64 C.room), fun G st H x y dx dy Q q s rx ry h t => by
  obtain ⟨h1, h2, l, rfl, h⟩ := h
  exact ⟨dx.py, D.pys l, rx.dp s.ex h1.1, ry.dp s.ex h2.1, D.shaped h1, D.shaped h2, by rw [any_pys h1.1 h2.1]; exact t.here s (.bl _) h⟩⟩
/-- a constant of the module -/
theorem ax_gInt {x : Str} {i : Int} {pos : Pos} (hm : ∃ t, X.mg x = some (.int i t)) (hg : Gl X x := by rfl) (hd : (x == ("__debug__" : Str)) = false := by decide) : AX X W (.Name x pos) (aC (.int i)) := by
  obtain ⟨t, hm⟩ := hm
  exact ⟨_, pe_glob (v := .int i) hg hm ⟨t, rfl⟩ hd, refE_c fun _ => .int i⟩
theorem ax_gStr {x z : Str} {pos : Pos} (hm : ∃ t, X.mg x = some (.str z t)) (hg : Gl X x := by rfl) (hd : (x == ("__debug__" : Str)) = false := by decide) : AX X W (.Name x pos) (aC (.str z)) := by
  obtain ⟨t, hm⟩ := hm
  exact ⟨_, pe_glob (v := .str z) hg hm ⟨t, rfl⟩ hd, refE_c fun _ => .str z⟩
end
end AM
set_option Elab.async false
set_option linter.all false
set_option maxRecDepth 100000
set_option maxHeartbeats 4000000
namespace AM
open PySem PySem.Spec PyProof.Rows L2 Evl
/-! ### dicts: looked up, put -/
inductive DLook : List (D × D) → D → D → Prop
  | here {k v : D} {r : List (D × D)} : DLook ((k, v) :: r) k v
  | there {k k' v v' : D} {r : List (D × D)} : k' ≠ k → DLook r k v → DLook ((k', v') :: r) k v
inductive DPutD : List (D × D) → D → D → List (D × D) → Prop
  | nil {k v : D} : DPutD [] k v [(k, v)]
  | here {k v w : D} {r : List (D × D)} : (∀ p ∈ r, p.1 ≠ k) → DPutD ((k, w) :: r) k v ((k, v) :: r)
  | there {k k' v w : D} {r r' : List (D × D)} : k' ≠ k → DPutD r k v r' → DPutD ((k', w) :: r) k v ((k', w) :: r')
def isKeyT (d : D) : Prop := ∃ k : List Key, d = .tup (k.map kD)
def isKeyK (d : D) : Prop := ∃ k : Key, d = kD k
theorem kD_inj {a b : Key} (h : kD a = kD b) : a = b := by
  cases a <;> cases b <;> unfold kD at h <;> cases h <;> rfl
theorem kDs_inj : ∀ {a b : List Key}, a.map kD = b.map kD → a = b
  | [], [], _ => rfl
  | [], _ :: _, h => by cases h
  | _ :: _, [], h => by cases h
  | x :: xs, y :: ys, h => by
    rw [List.map_cons, List.map_cons] at h
    injection h with h1 h2
    rw [kD_inj h1, kDs_inj h2]
theorem kT_inj {a b : List Key} (h : D.tup (a.map kD) = .tup (b.map kD)) : a = b := kDs_inj (by injection h)
section
variable {K : PySem.W.Frag} {G : Gh} {H : Hp}
theorem rep_kD {k : Key} {v : V} (r : Rep K G (kD k) v) : v = kV k := by
  cases k with
  | inl i => cases r; rfl
  | inr x => cases r; rfl
theorem reps_kD : ∀ {k : List Key} {vs : List V}, Reps K G (k.map kD) vs → vs = k.map kV
  | [], _, .nil => rfl
  | x :: xs, _, .cons h r => by rw [List.map_cons, ← rep_kD h, ← reps_kD r]
theorem RepT.look {k : List Key} {d : D} : ∀ {ds : List (D × D)} {kvs : List (List Key × V)}, RepT K G ds kvs → DLook ds (.tup (k.map kD)) d → ∃ v, valV kvs k = some v ∧ Rep K G d v := by
  intro ds kvs r l
  generalize hk : D.tup (k.map kD) = kk at l
  induction l generalizing kvs with
  | here =>
    cases r with
    | cons h r =>
      rename_i k' v vs
      have : k' = k := kT_inj hk.symm
      subst this
      exact ⟨v, valV_pos rfl, h⟩
  | there ne l ih =>
    cases r with
    | cons h r =>
      rename_i k' v vs
      obtain ⟨w, e, rw'⟩ := ih r hk
      refine ⟨w, ?_, rw'⟩
      rw [valV_neg (show ¬ k' = k from fun z => ne (by rw [z]; exact hk))]
      exact e
theorem RepT.key : ∀ {ds : List (D × D)} {kvs : List (List Key × V)} {kk d : D}, RepT K G ds kvs → DLook ds kk d → isKeyT kk := by
  intro ds kvs kk d r l
  induction l generalizing kvs with
  | here => cases r; exact ⟨_, rfl⟩
  | there ne l ih => cases r with | cons h r => exact ih r
theorem RepK.look {k : Key} {d : D} : ∀ {ds : List (D × D)} {kvs : List (Key × V)}, RepK K G ds kvs → DLook ds (kD k) d → ∃ v, valV kvs k = some v ∧ Rep K G d v := by
  intro ds kvs r l
  generalize hk : kD k = kk at l
  induction l generalizing kvs with
  | here =>
    cases r with
    | cons h r =>
      rename_i k' v vs
      have : k' = k := kD_inj hk.symm
      subst this
      exact ⟨v, valV_pos rfl, h⟩
  | there ne l ih =>
    cases r with
    | cons h r =>
      rename_i k' v vs
      obtain ⟨w, e, rw'⟩ := ih r hk
      refine ⟨w, ?_, rw'⟩
      rw [valV_neg (show ¬ k' = k from fun z => ne (by rw [z]; exact hk))]
      exact e
theorem RepK.key : ∀ {ds : List (D × D)} {kvs : List (Key × V)} {kk d : D}, RepK K G ds kvs → DLook ds kk d → isKeyK kk := by
  intro ds kvs kk d r l
  induction l generalizing kvs with
  | here => cases r; exact ⟨_, rfl⟩
  | there ne l ih => cases r with | cons h r => exact ih r
theorem putK_ne {κ : Type} [DecidableEq κ] {k k' : κ} {w v : V} {r : List (κ × V)} (h : k' ≠ k) : putK ((k', w) :: r) k v = (k', w) :: putK r k v := by
  unfold putK
  rw [List.any_cons, show decide ((k', w).1 = k) = false from decide_eq_false h, Bool.false_or]
  cases r.any fun kv => decide (kv.1 = k) with
  | true => simp [h]
  | false => simp
theorem putK_eq {κ : Type} [DecidableEq κ] {k : κ} {w v : V} {r : List (κ × V)} (h : ∀ p ∈ r, p.1 ≠ k) : putK ((k, w) :: r) k v = (k, v) :: r := by
  unfold putK
  rw [List.any_cons, show decide ((k, w).1 = k) = true from decide_eq_true rfl, Bool.true_or, if_pos rfl, List.map_cons, if_pos rfl]
  congr 1
  have : ∀ l : List (κ × V), (∀ p ∈ l, p.1 ≠ k) → (l.map fun kv => if kv.1 = k then (kv.1, v) else kv) = l := by
    intro l
    induction l with
    | nil => intro _; rfl
    | cons a l ih =>
      intro h
      rw [List.map_cons, if_neg (h a List.mem_cons_self), ih fun p hp => h p (List.mem_cons_of_mem _ hp)]
  exact this r h
theorem RepT.keys : ∀ {ds : List (D × D)} {kvs : List (List Key × V)}, RepT K G ds kvs → ∀ p ∈ kvs, ∃ q ∈ ds, q.1 = .tup (p.1.map kD)
  | _, _, .nil, p, hp => by cases hp
  | _, _, .cons h r, p, hp => by
    rcases List.mem_cons.mp hp with rfl | hp
    · exact ⟨_, List.mem_cons_self, rfl⟩
    · obtain ⟨q, hq, e⟩ := r.keys p hp
      exact ⟨q, List.mem_cons_of_mem _ hq, e⟩
theorem RepT.put {k : List Key} {d : D} {v : V} {kvs : List (List Key × V)} {ds ds' : List (D × D)} (rv : Rep K G d v) (r : RepT K G ds kvs) (l : DPutD ds (.tup (k.map kD)) d ds') : RepT K G ds' (putK kvs k v) := by
  generalize hk : D.tup (k.map kD) = kk at l
  induction l generalizing kvs with
  | nil =>
    cases r
    rw [← hk]
    exact .cons rv .nil
  | here hn =>
    cases r with
    | cons h r =>
      have e := kT_inj hk
      subst e
      rw [putK_eq fun p hp z => ?_]
      · exact .cons rv r
      · obtain ⟨q, hq, e⟩ := r.keys p hp
        exact hn q hq (by rw [e, z])
  | there ne l ih =>
    cases r with
    | cons h r =>
      rw [putK_ne (fun z => ne (by rw [z]; exact hk))]
      exact .cons h (ih rv r hk)
theorem RepT.length : ∀ {ds : List (D × D)} {kvs : List (List Key × V)}, RepT K G ds kvs → ds.length = kvs.length
  | _, _, .nil => rfl
  | _, _, .cons _ r => congrArg Nat.succ r.length
theorem RepK.length : ∀ {ds : List (D × D)} {kvs : List (Key × V)}, RepK K G ds kvs → ds.length = kvs.length
  | _, _, .nil => rfl
  | _, _, .cons _ r => congrArg Nat.succ r.length
end
/-! ### d[k] -/
def rIxDic : R2 := fun x y H Q => ∃ a v, x = .ref a ∧ DGet H a y (some v) ∧ Q v H
def rIxAll (K : PySem.W.Frag) : R2 := fun x y H Q => rIxA K x y H Q ∨ rIxDic x y H Q
def oIxA : O2 := fun x y q => match x with
  | .dic l => ∃ d, DLook l y d ∧ q d
  | _ => oIx x y q
section
variable {X : Cx} {W : WX} {k : Nat}
theorem ix_dic (hu : X.A.units + 2 < cLine) : IxR X rIxDic := by
  intro value slice pins s σ H x y v u Q I rx ry h hs
  obtain ⟨a, w, rfl, g, q⟩ := h
  obtain rfl : v = Value.ref a := rx
  exact tail_any (ops := [.ref a, u]) (dict_typeIs I g) PySem.F.slot_dict_getitem.lookup (d_getItem (by omega) I g ry fun w' s3 I3 rw' => ⟨w, H, I3, rw', q⟩) hs
theorem dget_tR {H : Hp} {a b : Addr} {kvs : List (List Key × V)} {k : List Key} (e : Rd H a (.dT kvs)) (eb : H b = some (.tup (k.map kV))) : DGet H a (.ref b) (valV kvs k) := .inr ⟨kvs, k, b, e, rfl, eb, rfl⟩
theorem dget_at {K : PySem.W.Frag} {G : Gh} {H : Hp} {l : List (D × D)} {dy d : D} {x y : V} (rx : Rv K G H (.dic l) x) (ry : Rv K G H dy y) (h : DLook l dy d) : ∃ a v, x = .ref a ∧ DGet H a y (some v) ∧ Rep K G d v := by
  cases rx with
  | dicT hp rk =>
    obtain ⟨kk, rfl⟩ := rk.key h
    obtain ⟨v, e, rv⟩ := rk.look h
    cases ry with
    | tup hy rs _ =>
      have := reps_kD rs
      subst this
      exact ⟨_, v, rfl, by rw [← e]; exact dget_tR hp hy, rv⟩
theorem op_IxA (C : CxE X W k) : IxR X (rIxAll X.K) ∧ RefO X.K (rIxAll X.K) oIxA := by
  refine ⟨IxR.or op_Ix.1 (ix_dic (by have := u64 C.room; omega)), fun G st H x y dx dy Q q s rx ry h t => ?_⟩
  cases dx with
  | dic l =>
    obtain ⟨d, hd, h⟩ := h
    obtain ⟨a, v, e, g, rv⟩ := dget_at rx ry hd
    exact .inr ⟨a, v, e, g, t.here s rv h⟩
  | _ => exact .inl (op_Ix.2 G st H x y _ dy Q q s rx ry h t)
end
end AM
set_option Elab.async false
set_option linter.all false
set_option maxRecDepth 100000
set_option maxHeartbeats 4000000
namespace AM
open PySem PySem.Spec PyProof.Rows L2 Evl
/-! ### {k: v for ..}, keys tuples (as HandS.DictComp has it for ints and texts) -/
theorem d_dictSetT {X : Cx} {pins : List (Addr × Obj)} {σ : L2.St} {H : Hp} {s : Shared} {E : Value → Shared → Prop} {D b : Addr} {kvs : List (List Key × V)} {k : List Key} {v : V} {r : Value} {Q : Unit → Shared → Prop} (hu : X.A.units + 1 < cLine) (I : Inv X pins σ H s) (hD : H D = some (.dT kvs)) (hz : kvs.length < sizeLine)
    (hb : H b = some (.tup (k.map kV))) (rv : RelV v r) (h : ∀ s', Inv X pins σ (upd H D (.dT (putK kvs k v))) s' → Q () s') : wpAny (model X.prog X.w) X.A (dictSet D (.ref b) r) Q E s := by
  obtain ⟨z, hd, xs, rel, dd⟩ := dt_of I.hok hD
  have hzv : xs.length ≤ sizeLine := by rw [← Paired.length rel]; exact z
  have hl : (putK kvs k v).length ≤ sizeLine := by have := length_putK kvs k v; omega
  refine wpAny_dictSet_heap (hsz := hzv) (show (tupleKind (mixKind X.prog X.w)).room X.A by show X.A.units < cLine; omega) (key_of I.hok hb) dd fun h' dd' hs => h _ ?_
  obtain ⟨q, es, ep, hq, h2, h3, h4, _, h5⟩ := dd'
  refine d_write I (by rw [hD]; exact True.intro) hs ⟨q, hq⟩ ⟨hl, hd, _, (rel.put k hb rv).keeps fun c ys ec => ?_, q, es, ep, hq, h2, h3, h4, h5⟩
  rw [upd_ne (ne_of ec hD (fun z => nomatch z))]
  exact ec
section
variable {X : Cx}
def tDcT (wi : TI) (g : TG) (tt : TT) (tk tv : TE) (vs : List Nat) : TE := fun σ H Q => wi σ H fun J H1 => ∀ D, H1 D = none → ∃ W : Nat → Nat → Hp → Prop, (∃ m, W 0 m (upd H1 D (.dT []))) ∧ ∀ i m H, W i m H →
  (J.stop i H ∧ Q (.ref D) H) ∨ (J.go i H ∧ ∃ Nx : Hp → Prop, (∀ H', Nx H' → ∃ m', m' < m ∧ W (i + 1) m' H') ∧ ∀ x H', J.yld i H x H' → g x (wipe σ vs) H' fun σ2 H2 => wipe σ2 vs = wipe σ vs ∧ tt σ2 H2 fun b H3 =>
    if b = true then tk σ2 H3 fun y H4 => tv σ2 H4 fun z H5 => ∃ kvs k b, y = .ref b ∧ H5 b = some (.tup (k.map kV)) ∧ H5 D = some (.dT kvs) ∧ kvs.length < sizeLine ∧ Nx (upd H5 D (.dT (putK kvs k z))) else Nx H3)
theorem dc_coreT {pins : List (Addr × Obj)} {s : Shared} {σ : L2.St} {H : Hp} {Q : VK} {use : Option (Value → Sem Unit)} {Qf : Value → Shared → Prop} {pos' : Pos} {kx vx tg iter : Expr} {ifs : List Expr} {scope : Scope} {own : List (Str × Nat)} {pos : Pos} {wi : TI} {g : TG} {tt : TT} {tk tv : TE} (hu : X.A.units + 1 < cLine) (hc : X.calm = true) (hN : X.N.Nodup) (hi : PI X tg iter wi) (ok : BlkOk X.N X.env.scope scope own)
    (hg : ∀ (s : Shared) (H : Hp) (C : Addr) (cl : List (Str × Addr)) (fp : List Addr), PG (X.blk s H scope (compEnvC scope cl C X.env) fp) tg g) (ht : ∀ (s : Shared) (H : Hp) (C : Addr) (cl : List (Str × Addr)) (fp : List Addr), PTs (X.blk s H scope (compEnvC scope cl C X.env) fp) ifs tt)
    (hk : ∀ (s : Shared) (H : Hp) (C : Addr) (cl : List (Str × Addr)) (fp : List Addr), PE (X.blk s H scope (compEnvC scope cl C X.env) fp) kx tk)
    (he : ∀ (s : Shared) (H : Hp) (C : Addr) (cl : List (Str × Addr)) (fp : List Addr), PE (X.blk s H scope (compEnvC scope cl C X.env) fp) vx tv) (hs : ∀ x, foldedSetIterable iter X.env x = pure x) (I : Inv X pins σ H s) (h : tDcT wi g tt tk tv (own.map (·.2)) σ H Q)
    (hRR : ∀ D C s' m H', Inv X pins σ H' s' → Q (.ref D) H' → s'.heap.Ns C m → FpOk X pins H' C → compPost (model X.prog X.w) X.A X.xe use Qf (.ref D) C (.ok .next) s') :
    wpAny (model X.prog X.w) X.A (comprehension (.DictComp kx vx [⟨tg, iter, ifs, 0⟩] scope pos) scope X.env pos' newDict false (eval iter X.env) use) Qf X.xe s := by
  have hfree : ∀ y ∈ scope.names, y.2 = .free → ∃ c, X.env.cells.lookup y.1 = some c := fun y hy e => by
    rcases ok.free y hy e with k | k
    · exact I.ok.has _ (.inl k)
    · exact I.ok.has _ (.inr k)
  refine wpAny_comprehension_free (use := use) rfl hs (closure_ok hfree) ok.kind (fun y hy e => by rw [ok.uniq y hy, e])
    (thn (hi.run pins s σ H _ I h) fun xv s1 hx => thn hx fun itv s2 h2 => ?_)
  obtain ⟨it, fp, tn, J, H2, e, I2, T, st2, f2, q⟩ := h2
  subst e
  refine wpAny_newObj_type (newEnv_comp ?_)
  generalize hD : s2.heap.objs.size = D
  have hDn : H2 D = none := I2.hok.fresh (Nat.le_of_eq hD)
  obtain ⟨W, ⟨m0, w0⟩, turn⟩ := q D hDn
  generalize hs3 : ({ s2 with heap := s2.heap.push { cls := .type "dict", data := .dict #[] } } : Shared) = s3
  have I3 : Inv X pins σ (upd H2 D (.dT [])) s3 := by
    rw [← hs3]
    refine I2.laid (t' := s2.toks) (fun b o e => Heap.get?_push_of_some _ e) (Nat.le_of_eq hD) ?_
    rw [← hD]
    exact dt_empty s2.heap I2.big
  have h3 : s3.heap = s2.heap.push { cls := .type "dict", data := .dict #[] } := by rw [← hs3]
  have sz : ∀ b ∈ fp, b < s2.heap.objs.size := fun b hb => by
    obtain ⟨o, e, _⟩ := T.obj _ _ st2 b hb
    exact Heap.lt_size e
  have f3 : ∀ b ∈ fp, FpOk X pins (upd H2 D (.dT [])) b ∧ b < s3.heap.objs.size := fun b hb => by
    have hlt := sz b hb
    refine ⟨⟨?_, (f2 b hb).2⟩, by rw [h3, Heap.size_push]; exact Nat.lt_succ_of_lt hlt⟩
    rw [upd_ne (by rw [← hD]; exact Nat.ne_of_lt hlt)]
    exact (f2 b hb).1
  have st3 : tn 0 s3.heap := T.keep _ _ _ st2 fun b _ o e => by rw [h3]; exact Heap.get?_push_of_some _ e
  have I4 := block_start I3 ok hN f3
  have pg := hg s3 (upd H2 D (.dT [])) s3.heap.objs.size (cellsFrom (s3.heap.objs.size + 1) scope.names (cloFrom X.env.cells scope.names [])) fp
  have pt := ht s3 (upd H2 D (.dT [])) s3.heap.objs.size (cellsFrom (s3.heap.objs.size + 1) scope.names (cloFrom X.env.cells scope.names [])) fp
  have pk := hk s3 (upd H2 D (.dT [])) s3.heap.objs.size (cellsFrom (s3.heap.objs.size + 1) scope.names (cloFrom X.env.cells scope.names [])) fp
  have pe := he s3 (upd H2 D (.dT [])) s3.heap.objs.size (cellsFrom (s3.heap.objs.size + 1) scope.names (cloFrom X.env.cells scope.names [])) fp
  show codeAny _ _ (.compStart (.DictComp kx vx [⟨tg, iter, ifs, 0⟩] scope pos) 0 (.ref it) (.ref D) (compEnvC scope (cellsFrom (s3.heap.objs.size + 1) scope.names (cloFrom X.env.cells scope.names [])) s3.heap.objs.size X.env)) (compPost (model X.prog X.w) X.A X.xe use Qf (.ref D) s3.heap.objs.size) { s3 with heap := pushCells (s3.heap.push { cls := .type "dict", data := .dict #[] }) scope.names }
  have nfp : ∀ b ∈ fp, (upd H2 D (.dT [])) b = none := fun b hb => (f3 b hb).1.1
  generalize hce : compEnvC scope (cellsFrom (s3.heap.objs.size + 1) scope.names (cloFrom X.env.cells scope.names [])) s3.heap.objs.size X.env = ce at I4 pg pt pk pe ⊢
  have cL : ce.locals = s3.heap.objs.size := by subst hce; rfl
  generalize hH3 : upd H2 D (.dT []) = H3 at I3 I4 pg pt pk pe w0 nfp f3
  generalize hs4 : ({ s3 with heap := pushCells (s3.heap.push { cls := .type "dict", data := .dict #[] }) scope.names } : Shared) = s4 at I4 ⊢
  have st4 : tn 0 s4.heap := T.keep _ _ _ st3 fun b _ o e => by rw [← hs4]; exact pushCells_keeps _ _ _ _ (Heap.get?_push_of_some _ e)
  have stat : ∀ {σ' : L2.St} {H' : Hp} {s' : Shared}, Inv (X.blk s3 H3 scope ce fp) [] σ' H' s' → (∀ b ∈ fp, H' b = none) → ∀ b ∈ fp, FpOk (X.blk s3 H3 scope ce fp) [] H' b := fun {σ' H' s'} I' hn b hb =>
    ⟨hn b hb, (I'.ok.exf b hb).1, I'.ok.exfs b hb, .inl hb, fun x c e => (I'.ok.exf b hb).2 x c e, fun p hp => absurd (show p ∈ ([] : List (Addr × Obj)) ++ [] from hp) (by simp)⟩
  have loop : codeAny (model X.prog X.w) X.A (.compLoop (.DictComp kx vx [⟨tg, iter, ifs, 0⟩] scope pos) 0 (.ref it) (.ref D) ce) (compPost (model X.prog X.w) X.A X.xe use Qf (.ref D) s3.heap.objs.size) s4 := by
    refine compLoop_anyD (fun n s' => ∃ i H', Inv (X.blk s3 H3 scope ce fp) [] (wipe σ (own.map (·.2))) H' s' ∧ tn i s'.heap ∧ (∀ b ∈ fp, H' b = none) ∧ W i n H') ?_ m0 ⟨0, H3, I4, st4, nfp, w0⟩
    rintro n s5 ⟨i, H5, I5, st5, n5, w5⟩
    rcases turn i n H5 w5 with ⟨stop, qq⟩ | ⟨go, Nx, hNx, step⟩
    · have td := T.done (X.blk s3 H3 scope ce fp) rfl rfl rfl hc i [] s5 _ H5 (fun _ _ => False) I5 (stat I5 n5) st5 stop
      refine thnF td fun r s6 ⟨hr, I6⟩ => ?_
      subst hr
      have I7 : Inv X pins σ H5 s6 := I3.call' (ch := fp) I6.os I6.base I6.hok I6.bare fun b hb => ⟨(f3 b hb).1.2.2.2.1, (f3 b hb).1.2.1, (f3 b hb).1.2.2.2.2.1, (f3 b hb).1.2.2.2.2.2⟩
      have nC : H5 s3.heap.objs.size = none := by
        have z : H5 ce.locals = none := I6.free
        rw [cL] at z
        exact z
      obtain ⟨m, hn, _⟩ := I6.loc
      have hn : s6.heap.Ns ce.locals m := hn
      rw [cL] at hn
      exact hRR D _ s6 m H5 I7 qq hn (I3.fpOk (Nat.le_refl _) nC)
    · have ti := T.item (X.blk s3 H3 scope ce fp) rfl rfl rfl hc i [] s5 _ H5 (fun _ _ => False) I5 (stat I5 n5) st5 go
      refine thnF ti fun r s6 ⟨u, hr, h6⟩ => ?_
      subst hr
      refine thnF h6 fun _ s7 ⟨x, H7, I7, r7, y7, st7, n7⟩ => ?_
      have I7' := I7.pinned (stat I7 n7) (T.obj _ _ st7)
      refine thnF (pg.run _ s7 _ H7 x u _ I7' r7 (step x H7 y7)) fun _ s8 ⟨σ8, H8, I8, hw8, q8⟩ => ?_
      refine thnF (pt.run _ s8 σ8 H8 _ I8 q8) fun b s9 ⟨H9, I9, q9⟩ => ?_
      have fin : ∀ {s' : Shared} {H' : Hp}, Inv (X.blk s3 H3 scope ce fp) ([] ++ pinsAt fp s7.heap) σ8 H' s' → Nx H' → ∃ m, m < n ∧ ∃ i H', Inv (X.blk s3 H3 scope ce fp) [] (wipe σ (own.map (·.2))) H' s' ∧ tn i s'.heap ∧ (∀ b ∈ fp, H' b = none) ∧ W i m H' := fun {s' H'} I' nx => by
        obtain ⟨m', hm, w'⟩ := hNx H' nx
        have pin' : ∀ b ∈ fp, ∀ o, s7.heap.get? b = some o → s'.heap.get? b = some o ∧ H' b = none := fun b hb o e =>
          let z := I'.pin (b, o) (List.mem_append_right _ (List.mem_append_right _ (mem_pinsAt hb e)))
          ⟨z.1, z.2.1⟩
        have hl : (wipe σ (own.map (·.2))).length = σ8.length := by rw [← hw8, wipe_length]
        refine ⟨m', hm, i + 1, H', (I'.unpinned (pins := [])).weak hl (fun j v e => ?_), T.keep _ _ _ st7 fun b hb o e => (pin' b hb o e).1, fun b hb => ?_, w'⟩
        · rw [← hw8] at e
          exact (wipe_some e).1
        · obtain ⟨o, e, _⟩ := T.obj _ _ st7 b hb
          exact (pin' b hb o e).2
      cases b with
      | false =>
        simp only [Bool.false_eq_true, if_false] at q9 ⊢
        exact fin I9 q9
      | true =>
        simp only [if_true] at q9 ⊢
        refine thnF (pk.run _ s9 σ8 H9 _ I9 q9) fun z s10 ⟨yk, H10, I10, r10, q10⟩ => ?_
        refine thnF (pe.run _ s10 σ8 H10 _ I10 q10) fun z2 s11 ⟨yv, H11, I11, r11, kvs, k, b, ek, hb11, hD11, hz11, nx⟩ => ?_
        subst ek
        obtain rfl : z = Value.ref b := r10
        exact d_dictSetT (X := X.blk s3 H3 scope ce fp) hu I11 hD11 hz11 hb11 r11 fun s12 I12 => fin I12 nx
  exact codeAny_compStart_dict loop (T.self X.A 0 _ _ _ st4 loop)
theorem pe_dcT {kx vx tg iter : Expr} {ifs : List Expr} {scope : Scope} {own : List (Str × Nat)} {pos : Pos} {wi : TI} {g : TG} {tt : TT} {tk tv : TE} (hu : X.A.units + 1 < cLine) (hc : X.calm = true) (hN : X.N.Nodup) (hi : PI X tg iter wi) (ok : BlkOk X.N X.env.scope scope own)
    (hg : ∀ (s : Shared) (H : Hp) (C : Addr) (cl : List (Str × Addr)) (fp : List Addr), PG (X.blk s H scope (compEnvC scope cl C X.env) fp) tg g) (ht : ∀ (s : Shared) (H : Hp) (C : Addr) (cl : List (Str × Addr)) (fp : List Addr), PTs (X.blk s H scope (compEnvC scope cl C X.env) fp) ifs tt)
    (hk : ∀ (s : Shared) (H : Hp) (C : Addr) (cl : List (Str × Addr)) (fp : List Addr), PE (X.blk s H scope (compEnvC scope cl C X.env) fp) kx tk)
    (he : ∀ (s : Shared) (H : Hp) (C : Addr) (cl : List (Str × Addr)) (fp : List Addr), PE (X.blk s H scope (compEnvC scope cl C X.env) fp) vx tv) (hs : ∀ x, foldedSetIterable iter X.env x = pure x := by intro _; rfl) :
    PE X (.DictComp kx vx [⟨tg, iter, ifs, 0⟩] scope pos) (tDcT wi g tt tk tv (own.map (·.2))) := by
  refine ⟨fun pins s σ H Q I h => ?_⟩
  rw [arm_eval_DictComp]
  refine dc_coreT hu hc hN hi ok hg ht hk he hs I h fun D C s' m H' I' q hn f => ⟨m, hn, fun h'' sb => ?_⟩
  obtain ⟨f0, f1, f2, f3, f4, f5⟩ := f
  exact ⟨.ref D, H', I'.turned (t' := s'.toks) (fun b o hb e => (sb.2 b hb).trans e) f0 f1 f3 f4 f5, rfl, q⟩
end
/-! ### a new dict grows at P -/
structure Bd (K : PySem.W.Frag) (P : Addr) (G : Gh) (H : Hp) (acc : List (D × D)) (G2 : Gh) (st2 : S) (H2 : Hp) : Prop where
  ss : SS K G2 st2 H2
  po : Post G H G2 H2
  new : H P = none
  na : P ∉ G2.as
  ng : G2.g P = none
  at_ : ∃ kvs, H2 P = some (.dT kvs) ∧ RepT K G2 acc kvs
def OwnD (K : PySem.W.Frag) (H : Hp) (G2 : Gh) (H2 : Hp) (l : List (D × D)) (v : V) : Prop := ∃ p kvs, v = .ref p ∧ H2 p = some (.dT kvs) ∧ G2.g p = none ∧ p ∉ G2.as ∧ H p = none ∧ RepT K G2 l kvs
section
variable {K : PySem.W.Frag} {P : Addr} {G G2 G3 : Gh} {H H2 H3 : Hp} {st st2 st3 : S} {acc acc' : List (D × D)}
theorem Bd.start (s : SS K G st H) (hP : H P = none) : Bd K P G H [] G st (upd H P (.dT [])) := by
  obtain ⟨s2, p2, na, ng⟩ := s.room (o := .dT []) hP
  exact ⟨s2, p2, hP, na, ng, [], upd_same, .nil⟩
theorem Bd.on (b : Bd K P G H acc G2 st2 H2) (p : Post G2 H2 G3 H3) (s3 : SS K G3 st3 H3) : Bd K P G H acc G3 st3 H3 := by
  obtain ⟨vs, e, r⟩ := b.at_
  refine ⟨s3, b.po.trans p, b.new, fun z => ?_, p.n P b.ng ⟨ne_some e, fun xs t => by rw [e] at t; cases t⟩ b.na, vs, p.h0 e b.na b.ng, r.mono p.le⟩
  rcases p.o P z with z | z
  · exact b.na z
  · rw [e] at z; cases z
theorem Bd.put (b : Bd K P G H acc G2 st2 H2) {k : List Key} {d : D} {v : V} (r : Rep K G2 d v) (hl : acc.length < 100000) (hp : DPutD acc (.tup (k.map kD)) d acc') : ∃ kvs, H2 P = some (.dT kvs) ∧ kvs.length < sizeLine ∧ Bd K P G H acc' G2 st2 (upd H2 P (.dT (putK kvs k v))) := by
  obtain ⟨vs, e, rs⟩ := b.at_
  refine ⟨vs, e, sz_lt (by rw [← rs.length]; exact hl), ⟨fun a o q => ?_, b.ss.len, b.ss.nd, fun n c p e1 e2 => (b.ss.cell n c p e1 e2).mono (Gh.le.refl _) (fun o q => ?_) (fun _ q => q)⟩, ⟨b.po.le, fun x o q k => ?_, b.po.n, b.po.o, fun x k => ?_, fun x o u k q => by rw [upd_ne (live_ne b.new (ne_some q))]; exact b.po.z x o u k q⟩, b.new, b.na, b.ng, _, upd_same, RepT.put r rs hp⟩
  · exact (b.ss.ex a o q).put (fun z => by rw [z, b.ng] at q; cases q)
  · rw [upd_ne (mem_ne b.na (List.mem_of_getElem? e2))]; exact q
  · rcases b.po.h x o q k with e9 | ⟨y9, ob9, kvs9, z9, e9⟩
    · exact .inl (by rw [upd_ne (live_ne b.new (ne_some q))]; exact e9)
    · exact .inr ⟨y9, ob9, kvs9, z9, by rw [upd_ne (live_ne b.new (ne_some q))]; exact e9⟩
  · by_cases h : x = P
    · subst h; rw [upd_same]; exact fun z => nomatch z
    · rw [upd_ne h]; exact b.po.m x k
theorem OwnD.on {l : List (D × D)} {v : V} (p : Post G H G2 H2) (h : OwnD K H2 G3 H3 l v) : OwnD K H G3 H3 l v := by
  obtain ⟨a, vs, e1, e2, e3, e4, e5, e6⟩ := h
  refine ⟨a, vs, e1, e2, e3, e4, ?_, e6⟩
  cases hh : H a with
  | none => rfl
  | some o => exact absurd e5 (p.m a (by rw [hh]; exact fun z => nomatch z))
theorem Bd.own (b : Bd K P G H acc G2 st2 H2) : OwnD K H G2 H2 acc (.ref P) := by
  obtain ⟨vs, e, rs⟩ := b.at_
  exact ⟨P, vs, rfl, e, b.ng, b.na, b.new, rs⟩
theorem OwnD.res {l : List (D × D)} {v : V} (h : OwnD K H G2 H2 l v) : ResOk K H G2 H2 (.ownD l) v := by
  obtain ⟨p, vs, e1, e2, e3, e4, e5, e6⟩ := h
  exact ⟨p, e1, ⟨vs, e2, e6⟩, e3, e4, e5⟩
theorem ownD_frz {l : List (D × D)} {v : V} (s : SS K G2 st2 H2) (po : Post G H G2 H2) (h : OwnD K H G2 H2 l v) : ∃ G3, SS K G3 st2 H2 ∧ Post G H G3 H2 ∧ Rep K G3 (.dic l) v := by
  obtain ⟨p, vs, rfl, e, gp, np, hn, rs⟩ := h
  obtain ⟨s3, le⟩ := s.freeze e gp np
  exact ⟨_, s3, po.freeze gp hn, .dicT upd_same (rs.mono le)⟩
theorem ownD_cell {l : List (D × D)} {v : V} (s : SS K G2 st2 H2) (po : Post G H G2 H2) (h : OwnD K H G2 H2 l v) : ∃ G3, SS K G3 (st2 ++ [.dic l]) H2 ∧ Post G H G3 H2 ∧ Rep K G3 (.ref st2.length) v := by
  obtain ⟨p, vs, rfl, e, gp, np, hn, rs⟩ := h
  refine ⟨_, s.cellOf (c := .dic l) np ⟨gp, vs, e, rs.mono le_cell⟩, po.cellOf hn, .ref ?_⟩
  rw [← s.len, List.getElem?_append_right (Nat.le_refl _), Nat.sub_self]
  rfl
end
/-- a fresh dict -/
abbrev AFd := List A → S → (List (D × D) → S → Prop) → QX → Prop
def RefD (K : PySem.W.Frag) (W : WX) (te : TE) (af : AFd) : Prop := ∀ G env st σ H (Q : VK) (q : List (D × D) → S → Prop) (er : QX), SS K G st H → Sl K G env σ → af env st q er → (∀ v l st2 G2 H2, Post G H G2 H2 → SS K G2 st2 H2 → ResOk K H G2 H2 (.ownD l) v → q l st2 → Q v H2) → ThenX K W G H σ er → te σ H Q
def AXD (X : Cx) (W : WX) (e : Expr) (af : AFd) : Prop := ∃ te, PE X e te ∧ RefD X.K W te af
def aFd (f : AFd) : AE := fun env st q er => f env st (fun l s1 => q (.dic l) s1) er
theorem RefD.e {K : PySem.W.Frag} {W : WX} {te : TE} {af : AFd} (h : RefD K W te af) : RefE K W te (aFd af) := fun G env st σ H Q q er s l a tE tX =>
  h G env st σ H Q _ er s l a (fun v ds st2 G2 H2 p2 s2 r2 h2 => by
    obtain ⟨G3, s3, p3, r3⟩ := ownd_frz s2 p2 r2
    exact tE v _ st2 G3 H2 p3 s3 r3 h2) tX
def aDcL (gd : Gd) (g : AG) (t : AT) (ek ev : AE) (env : List A) (q : List (D × D) → S → Prop) : List D → List (D × D) → S → Prop
  | [], acc, st => gdOk gd st ∧ q acc st
  | x :: xs, acc, st => gdOk gd st ∧ g x env st fun e1 => t e1 st (fun b s2 => if b = true then ek e1 s2 (fun kk s3 => ev e1 s3 (fun y s4 => isKeyT kk ∧ acc.length < 100000 ∧ ∃ acc', DPutD acc kk y acc' ∧ aDcL gd g t ek ev env q xs acc' s4) (fun _ _ => False)) (fun _ _ => False) else aDcL gd g t ek ev env q xs acc s2) (fun _ _ => False)
def fDc (it : AI) (g : AG) (t : AT) (ek ev : AE) (vs : List Nat) : AFd := fun env st q er => it env st (fun ds gd s1 => aDcL gd g t ek ev (wA vs env) q ds [] s1) er
theorem refD_dc {K : PySem.W.Frag} {W : WX} {wi : TI} {ai : AI} {g : TG} {ag : AG} {tt : TT} {xt : AT} {tk te : TE} {ak ae : AE} {vs : List Nat} (hi : RefI K W wi ai) (hg : RefG K g ag) (hs : Stays vs g) (ht : RefT K W0 tt xt) (hk : RefE K W0 tk ak) (he : RefE K W0 te ae) :
    RefD K W (tDcT wi g tt tk te vs) (fDc ai ag xt ak ae vs) := fun G env st σ H Q q er s l h tE tX => by
  refine hi G env st σ H _ _ er s l h (fun J ds gd st2 G2 H2 p2 s2 wk h2 => ?_) tX
  intro P hP
  have b0 := Bd.start s2 hP
  have l0 := (l.mono p2.le).wipe vs
  have gk : ∀ {ds acc st}, aDcL gd ag xt ak ae (wA vs env) q ds acc st → gdOk gd st := fun {ds acc st} h => by cases ds <;> exact h.1
  let Inv : Nat → Hp → Prop := fun i H' => i ≤ ds.length ∧ ∃ acc G3 st3, Bd K P G2 H2 acc G3 st3 H' ∧ Wk G2 H2 G3 H' ∧ aDcL gd ag xt ak ae (wA vs env) q (ds.drop i) acc st3
  refine ⟨fun i m H' => m = ds.length - i ∧ Inv i H', ⟨ds.length, by omega, Nat.zero_le _, [], G2, st2, b0, b0.po.wk, h2⟩, ?_⟩
  rintro i m H' ⟨rfl, hle, acc, G3, st3, b3, le3, f3⟩
  have s3 := b3.ss
  have k3 := gk f3
  by_cases hlt : i < ds.length
  · refine .inr ⟨wk.go i G3 st3 H' le3 s3 k3 hlt, Inv (i + 1), fun H4 h4 => ⟨ds.length - (i + 1), by omega, rfl, h4⟩, fun x H5 y => ?_⟩
    rw [List.drop_eq_getElem_cons hlt] at f3
    have hd : ds[i]? = some ds[i] := by simp [hlt]
    have turn : ∀ G6, Post G3 H' G6 H5 → SS K G6 st3 H5 → Rep K G6 ds[i] x → g x (wipe σ vs) H5 fun σ2 H2 => wipe σ2 vs = wipe σ vs ∧ tt σ2 H2 fun b H3 =>
        if b = true then tk σ2 H3 fun y H4 => te σ2 H4 fun z H5 => ∃ kvs k b, y = .ref b ∧ H5 b = some (.tup (k.map kV)) ∧ H5 P = some (.dT kvs) ∧ kvs.length < sizeLine ∧ Inv (i + 1) (upd H5 P (.dT (putK kvs k z))) else Inv (i + 1) H3 := fun G6 p6 s6 rr => by
      have b6 := b3.on p6 s6
      have le6 := le3.on p6
      refine stay_g hg hs s6 (l0.mono le6.le) rr f3.2 fun env7 σ7 hw l7 h7 => ?_
      refine ht G6 env7 st3 σ7 H5 _ _ _ s6 l7 h7 (fun bb st8 G8 H8 p8 s8 h8 => ?_) ThenX.none
      cases bb with
      | false => exact ⟨hlt, acc, G8, st8, b6.on p8 s8, le6.on p8, h8⟩
      | true =>
        refine hk G8 env7 st8 σ7 H8 _ _ _ s8 (l7.mono p8.le) h8 (fun w d st9 G9 H9 p9 s9 r9 h9 => ?_) ThenX.none
        have p89 := p8.trans p9
        refine he G9 env7 st9 σ7 H9 _ _ _ s9 (l7.mono p89.le) h9 (fun w2 d2 st10 G10 H10 p10 s10 r10 h10 => ?_) ThenX.none
        obtain ⟨⟨kk, rfl⟩, hl, acc', hp, h10⟩ := h10
        have p810 := p89.trans p10
        obtain ⟨kvs, e1, e2, e3⟩ := (b6.on p810 s10).put r10 hl hp
        cases (r9.mono p10.le) with
        | tup hb rs =>
          have := reps_kD rs
          subst this
          exact ⟨kvs, kk, _, rfl, s10.ex.tup hb, e1, e2, hlt, acc', G10, st10, e3, (le6.on p810).put e1 (fun _ _ z => nomatch z), h10⟩
    obtain ⟨G6, p6, s6, rr⟩ := wk.yld i G3 st3 H' _ x H5 le3 s3 k3 hd y
    exact turn G6 p6 s6 rr
  · have e : i = ds.length := by omega
    subst e
    rw [List.drop_length] at f3
    exact .inl ⟨wk.stop _ G3 st3 H' le3 s3 k3 rfl, tE _ acc st3 G3 H' (p2.trans b3.po) s3 (b3.own.on p2).res f3.2⟩
section
variable {X : Cx} {W : WX} {k : Nat} {pos spos : Pos} {kx vx tg iter : Expr} {ifs : List Expr} {scope : Scope} {own : List (Str × Nat)} {ai : AI} {ag : AG} {xt : AT} {ak ae : AE}
theorem axd_dc (own : List (Str × Nat)) (C : CxE X W k) (ok : BlkOk X.N X.env.scope scope own) (hi : AXI X W tg iter ai)
    (hg : ∀ (s : Shared) (H : Hp) (C : Addr) (cl : List (Str × Addr)) (fp : List Addr), AXGc (X.blk s H scope (compEnvC scope cl C X.env) fp) (own.map (·.2)) tg ag) (ht : ∀ (s : Shared) (H : Hp) (C : Addr) (cl : List (Str × Addr)) (fp : List Addr), AXTs (X.blk s H scope (compEnvC scope cl C X.env) fp) W0 ifs xt)
    (hk : ∀ (s : Shared) (H : Hp) (C : Addr) (cl : List (Str × Addr)) (fp : List Addr), AX (X.blk s H scope (compEnvC scope cl C X.env) fp) W0 kx ak)
    (he : ∀ (s : Shared) (H : Hp) (C : Addr) (cl : List (Str × Addr)) (fp : List Addr), AX (X.blk s H scope (compEnvC scope cl C X.env) fp) W0 vx ae) (hs : ∀ x, foldedSetIterable iter X.env x = pure x := by intro _; rfl) :
    AXD X W (.DictComp kx vx [⟨tg, iter, ifs, 0⟩] scope pos) (fDc ai ag xt ak ae (own.map (·.2))) := by
  obtain ⟨t, p, r⟩ := hi
  exact ⟨_, pe_dcT (by have := u64 C.room; omega) C.calm C.nd p ok (fun s H C cl fp => (hg s H C cl fp).pg) (fun s H C cl fp => (ht s H C cl fp).pts) (fun s H C cl fp => (hk s H C cl fp).pe) (fun s H C cl fp => (he s H C cl fp).pe) hs, refD_dc r rdG_ref rdG_stays rdT_ref rdE_ref rdE_ref⟩
theorem axd_e {e : Expr} {f : AFd} (h : AXD X W e f) : AX X W e (aFd f) := by
  obtain ⟨t, p, r⟩ := h
  exact ⟨t, p, r.e⟩
/-- {} whose keys are to be tuples -/
def fDNew : AFd := fun _ st q _ => q [] st
theorem axd_new : AXD X W (.Dict [] [] pos) fDNew := ⟨_, pe_dnewT, fun G env st σ H Q q er s l h tE tX => fun p hp => by
  obtain ⟨s2, p2, na, ng⟩ := s.room (o := .dT []) hp
  exact tE _ [] st G _ p2 s2 ⟨p, rfl, ⟨[], upd_same, .nil⟩, ng, na, hp⟩ h⟩
end
end AM
set_option Elab.async false
set_option linter.all false
set_option maxRecDepth 100000
set_option maxHeartbeats 4000000
namespace AM
open PySem PySem.Spec PyProof.Rows L2 Evl
/-! ### == of dicts whose keys are tuples -/
section
variable {prog : Program} {w : World} {K : Type} [DecidableEq K] {knd : HeapKind prog w K} {A : Around} {E : Value → Shared → Prop} {s : Shared}
inductive HitsH (A : Around) (s : Shared) (xb : List (K × Addr × Value)) : List (K × Addr × Value) → Bool → Prop
  | nil : HitsH A s xb [] true
  | miss {k : K} {q : Addr × Value} {r : List (K × Addr × Value)} : (∀ (j : Nat) (p : Addr × Value), xb[j]? ≠ some (k, p)) → HitsH A s xb ((k, q) :: r) false
  | hit {k : K} {p p' : Addr} {v y : Value} {r : List (K × Addr × Value)} {j : Nat} {e b : Bool} : xb[j]? = some (k, (p', y)) → SeqAt.EqAt A s v y e → HitsH A s xb r b → HitsH A s xb ((k, (p, v)) :: r) (e && b)
theorem typeIsH {s : Shared} {d : Addr} {xs : List (K × Addr × Value)} (x : s.heap.DictOfH knd d xs) : s.TypeIs (.ref d) "dict" := let ⟨o, _, _, ho, hc, _⟩ := x; ⟨o, ho, hc.1⟩
theorem samePairsH {nm : String} {a b : Addr} {xa xb : List (K × Addr × Value)} {r : Bool} {Q : Bool → Shared → Prop} (hu : knd.room A) (ha : (a == sysModules) = false) (hb : (b == sysModules) = false)
    (da : s.heap.DictOfH knd a xa) (db : s.heap.DictOfH knd b xb) (hits : xa.length = xb.length → HitsH A s xb xa r) (h : Q (xa.length == xb.length && r) s) :
    wpAny (model prog w) A (Builtin.Dict.samePairs nm a b) Q E s := by
  obtain ⟨oa, es, ep, hoa, _, hda, hea, hia, hna⟩ := da
  obtain ⟨ob, es', ep', hob, _, hdb, heb, hib, hnb⟩ := db
  have hla : xa.length = es.size := (size_of_entries hea).symm
  have hlb : xb.length = es'.size := (size_of_entries heb).symm
  rw [hla, hlb] at h
  unfold Builtin.Dict.samePairs Builtin.Dict.showsAll
  rw [if_neg (show ¬ (a == sysModules) = true by rw [ha]; exact Bool.false_ne_true), if_neg (show ¬ (b == sysModules) = true by rw [hb]; exact Bool.false_ne_true)]
  refine wpAny_bind (wpAny_pure (wpAny_bind (wpAny_pure ?_)))
  refine wpAny_bind (wpAny_dictEntries hoa hda ?_)
  dsimp only
  refine wpAny_bind (wpAny_dictEntries hob hdb ?_)
  by_cases hsz : es.size = es'.size
  case neg =>
    rw [if_pos (by simpa using hsz)]
    have hbf : (es.size == es'.size) = false := by simpa using hsz
    rw [hbf, Bool.false_and] at h
    exact wpAny_bind (wpAny_rule (wpAny_pure h))
  case pos =>
    have h' : Q r s := by simpa [hsz] using h
    have hits' := hits (by rw [hla, hlb]; exact hsz)
    rw [if_neg (by rw [hsz]; simp)]
    refine wpAny_bind (wpAny_dictEpoch hoa hda ?_)
    refine wpAny_bind ?_
    rw [Std.Legacy.Range.forIn_eq_forIn_range']
    simp only [Std.Legacy.Range.size, Nat.sub_zero, Nat.add_sub_cancel, Nat.div_one]
    refine wpAny_forIn_list _
      (fun rest q s' => s' = s ∧ q = (none, ()) ∧ ∃ i, rest = List.range' i (es.size - i) ∧ i ≤ es.size ∧ HitsH A s xb (xa.drop i) r)
      _ ?_ ?_ _ _ ⟨rfl, rfl, 0, by simp, Nat.zero_le _, hits'⟩
    · rintro x rest q s' ⟨rfl, rfl, i, hr, hi, hpre⟩
      have hlt : i < es.size := by
        rcases Nat.lt_or_ge i es.size with h | h
        · exact h
        · rw [Nat.sub_eq_zero_of_le h] at hr; simp at hr
      obtain ⟨rfl, hrest⟩ : x = i ∧ rest = List.range' (i + 1) (es.size - (i + 1)) := by
        have e : es.size - i = (es.size - (i + 1)) + 1 := by omega
        rw [e, List.range'_succ] at hr
        injection hr with h1 h2
        exact ⟨h1, h2⟩
      refine wpAny_bind (wpAny_dictEntries hoa hda ?_)
      have hlt' : x < xa.length := by rw [hla]; exact hlt
      obtain ⟨k, p, v, hkv⟩ : ∃ k p v, xa[x] = (k, (p, v)) := ⟨_, _, _, rfl⟩
      have hget : es[x]? = some ⟨knd.hash k, .ref p, v⟩ := by
        rw [entry_at hea x, List.getElem?_eq_getElem hlt', hkv]
        rfl
      rw [hget]
      have hdrop : xa.drop x = (k, (p, v)) :: xa.drop (x + 1) := by rw [← hkv]; exact List.drop_eq_getElem_cons hlt'
      rw [hdrop] at hpre
      have hkey : knd.is s'.heap k p := by
        have := hia xa[x] (List.getElem_mem hlt')
        rw [hkv] at this
        exact this
      show wpAny _ _ (holding [.ref p, v] _ >>= _) _ _ _
      refine wpAny_bind (wpAny_holding (wpAny_bind (wpAny_dictFind_heap hu hkey hob hdb heb hib hnb (fun hno => ?_) (fun j pp hj => ?_))))
      · have hp : ∀ {l : List (K × Addr × Value)} {b : Bool}, HitsH A s' xb l b → l = (k, (p, v)) :: xa.drop (x + 1) → b = false := by
          intro l b hh
          cases hh with
          | nil => intro z; cases z
          | miss _ => intro _; rfl
          | hit hj _ _ => intro z; injection z with z1 _; injection z1 with z1 _; subst z1; exact absurd hj (hno _ _)
        rw [hp hpre rfl] at h'
        refine wpAny_pure ?_
        show wpAny _ _ (if (!false) = true then _ else _) _ _ _
        rw [if_pos (by decide)]
        exact wpAny_pure (wpAny_pure h')
      · refine wpAny_bind (wpAny_dictEntries hob hdb ?_)
        rw [entry_at heb j, hj]
        have hp : ∀ {l : List (K × Addr × Value)} {b : Bool}, HitsH A s' xb l b → l = (k, (p, v)) :: xa.drop (x + 1) → ∃ e b', SeqAt.EqAt A s' v pp.2 e ∧ HitsH A s' xb (xa.drop (x + 1)) b' ∧ b = (e && b') := by
          intro l b hh
          cases hh with
          | nil => intro z; cases z
          | miss hno => intro z; injection z with z1 _; injection z1 with z1 _; subst z1; exact absurd hj (hno _ _)
          | hit hj' he hr' =>
            intro z
            injection z with z1 z2
            injection z1 with z1 z3
            injection z3 with z3 z4
            subst z1 z2 z4
            have e1 := atKey_of_get hnb hj
            have e2 := atKey_of_get hnb hj'
            rw [e1] at e2
            cases e2
            exact ⟨_, _, he, hr', rfl⟩
        obtain ⟨e, b', he, hrr, er⟩ := hp hpre rfl
        refine wpAny_holding (he prog w _ _ ?_)
        cases e with
        | false =>
          rw [er, Bool.false_and] at h'
          show wpAny _ _ (if (!false) = true then _ else _) _ _ _
          rw [if_pos (by decide)]
          exact wpAny_pure (wpAny_pure h')
        | true =>
          rw [Bool.true_and] at er
          rw [← er] at hrr
          show wpAny _ _ (if (!true) = true then _ else _) _ _ _
          rw [if_neg (by decide)]
          refine wpAny_bind (wpAny_dictEpoch hoa hda ?_)
          rw [if_neg (by simp)]
          exact wpAny_pure ⟨rfl, rfl, x + 1, hrest, hlt, hrr⟩
    · rintro q s' ⟨rfl, rfl, i, hr, hi, hpre⟩
      have hin : i = es.size := by
        rcases Nat.lt_or_ge i es.size with h | h
        · have e : es.size - i = (es.size - (i + 1)) + 1 := by omega
          rw [e, List.range'_succ] at hr; exact nomatch hr
        · exact Nat.le_antisymm hi h
      refine wpAny_pure ?_
      rw [hin, ← hla, List.drop_length] at hpre
      cases hpre
      exact h'
theorem eqH {a b : Addr} {xa xb : List (K × Addr × Value)} {r : Bool} {Q : Value → Shared → Prop} (hr : knd.room A.in1) (ha : (a == sysModules) = false) (hb : (b == sysModules) = false)
    (da : s.heap.DictOfH knd a xa) (db : s.heap.DictOfH knd b xb) (hu : A.units < cLine) (hits : xa.length = xb.length → HitsH A.in1 s xb xa r) (h : Q (.bool (xa.length == xb.length && r)) s) :
    wpAny (model prog w) A (compareOp .Eq (.ref a) (.ref b)) Q E s := by
  refine wpAny_richCompare_same_room (op := .Eq) (typeIsH da) (typeIsH db) PySem.F.slot_dict_eq (wpAny_call_entry PySem.F.slot_dict_eq (typeIsH da) PySem.F.entry_dict_eq ?_ (PySem.F.args_dict_eq_2 _ _)) hu
  show wpAny _ _ (Builtin.Dict.dictSlotArgs "__eq__" ⟨[.ref a, .ref b], []⟩ >>= _) _ _ s
  refine wpAny_bind ?_
  unfold Builtin.Dict.dictSlotArgs
  refine wpAny_bind (wpAny_notOrdered_dict (typeIsH da) ?_)
  show wpAny _ _ (pure (Value.ref a, Value.ref b)) _ _ s
  refine wpAny_pure ?_
  refine wpAny_bind (wpAny_isInstance (T := "dict") (typeIsH db) PySem.F.sub_dict_dict ?_)
  simp only [Bool.not_true, Bool.false_eq_true, if_false]
  refine wpAny_bind (wpAny_pure (wpAny_bind (wpAny_pure ?_)))
  refine wpAny_bind (samePairsH hr ha hb da db hits ?_)
  refine wpAny_pure ⟨_, rfl, ?_, ?_⟩
  · exact fun x => nomatch x
  · simpa using h
end
/-! ### by values, by data -/
inductive VHits (K : PySem.W.Frag) (H : Hp) (m : List (List Key × V)) : List (List Key × V) → Bool → Prop
  | nil : VHits K H m [] true
  | miss {k : List Key} {v : V} {r : List (List Key × V)} : valV m k = none → VHits K H m ((k, v) :: r) false
  | hit {k : List Key} {v y : V} {d e : PyData} {r : List (List Key × V)} {b : Bool} : valV m k = some y → Dp K H v d → Dp K H y e → SeqAt.shaped d = true → SeqAt.shaped e = true → VHits K H m r b → VHits K H m ((k, v) :: r) (PyData.eqv d e && b)
def rEqT (K : PySem.W.Frag) : R2 := fun x y H Q => ∃ a b kvs kws r, x = .ref a ∧ y = .ref b ∧ Rd H a (.dT kvs) ∧ Rd H b (.dT kws) ∧ (kvs.length = kws.length → VHits K H kws kvs r) ∧ Q (.bl (kvs.length == kws.length && r)) H
section
variable {X : Cx}
theorem hits_of {pins : List (Addr × Obj)} {σ : L2.St} {H : Hp} {s : Shared} {kws : List (List Key × V)} {xb : List (List Key × Addr × Value)} (hu : X.A.in1.units + 64 < cLine) (I : Inv X pins σ H s) (rb : KT H kws xb) (hn : (xb.map (·.1)).Nodup) :
    ∀ {kvs : List (List Key × V)} {xa : List (List Key × Addr × Value)} {r : Bool}, KT H kvs xa → VHits X.K H kws kvs r → HitsH X.A.in1 s xb xa r := by
  intro kvs xa r ra h
  induction h generalizing xa with
  | nil => cases ra; exact .nil
  | @miss k v r hm =>
    cases ra with
    | cons p t =>
      rename_i q qs
      obtain ⟨k', a', v'⟩ := q
      obtain ⟨e1, e2, e3⟩ := p
      obtain rfl : k = k' := e1
      refine .miss fun j p hj => ?_
      have e := atKey_of_get hn hj
      have z := rb.val k
      rw [hm, e] at z
      exact z
  | @hit k v y d e r b hm d1 d2 s1 s2 _ ih =>
    cases ra with
    | cons p t =>
      rename_i q qs
      obtain ⟨k', a', v'⟩ := q
      obtain ⟨e1, e2, e3⟩ := p
      obtain rfl : k = k' := e1
      have z := rb.val k
      rw [hm] at z
      obtain ⟨w', hw, rw'⟩ := RelO.some_of z
      obtain ⟨⟨p', y'⟩, hp, hp2⟩ := Option.map_eq_some_iff.mp hw
      obtain rfl : y' = w' := hp2
      unfold atKey at hp
      obtain ⟨x, hx, hx2⟩ := Option.map_eq_some_iff.mp hp
      have hk := List.find?_some hx
      have hmem := List.mem_of_find?_eq_some hx
      obtain ⟨j, hj⟩ := List.mem_iff_getElem?.mp hmem
      have hk : x.1 = _ := of_decide_eq_true hk
      have hx' : x = (_, (p', y')) := Prod.ext hk hx2
      rw [hx'] at hj
      obtain ⟨as, r1⟩ := Dp.reads I _ _ _ d1 e3
      obtain ⟨bs, r2⟩ := Dp.reads I _ _ _ d2 rw'
      exact .hit hj (PySem.W.keq_at r1 r2 s1 s2 hu) (ih t)
theorem op_eqT (hu : X.A.units + 65 < cLine) : OpR X (compareOp .Eq) (rEqT X.K) := by
  intro pins s σ H x y v u Q I rx ry h
  obtain ⟨a, b, kvs, kws, r, rfl, rfl, ea, eb, hh, q⟩ := h
  obtain rfl : v = Value.ref a := rx
  obtain rfl : u = Value.ref b := ry
  obtain ⟨za, ha, xa, ra, da⟩ := dt_rd I.hok ea
  obtain ⟨zb, hb, xb, rb, db⟩ := dt_rd I.hok eb
  have l1 := Paired.length ra
  have l2 := Paired.length rb
  have hu1 : X.A.in1.units + 64 < cLine := by show X.A.units + 1 + 64 < cLine; omega
  refine eqH (show (tupleKind (mixKind X.prog X.w)).room X.A.in1 by show X.A.units + 1 < cLine; omega) ha hb da db (by omega) (r := r) (fun hl => hits_of hu1 I rb (by obtain ⟨_, _, _, _, _, _, _, _, hn⟩ := db; exact hn) ra (hh (by omega))) ?_
  rw [← l1, ← l2]
  exact ⟨.bl _, H, I, rfl, q⟩
end
inductive DHits (m : List (D × D)) : List (D × D) → Bool → Prop
  | nil : DHits m [] true
  | miss {k v : D} {r : List (D × D)} : (∀ p ∈ m, p.1 ≠ k) → DHits m ((k, v) :: r) false
  | hit {k v w : D} {r : List (D × D)} {b : Bool} : DLook m k w → v.shp → w.shp → DHits m r b → DHits m ((k, v) :: r) (D.eqv v w && b)
def keysT (l : List (D × D)) : Prop := l ≠ [] ∧ ∀ p ∈ l, isKeyT p.1
def oEqT : O2 := fun x y q => ∃ l m b, x = .dic l ∧ y = .dic m ∧ keysT l ∧ keysT m ∧ (l.length = m.length → DHits m l b) ∧ q (.bl (l.length == m.length && b))
section
variable {K : PySem.W.Frag} {G : Gh} {H : Hp}
theorem RepK.noT {l : List (D × D)} {kvs : List (Key × V)} (r : RepK K G l kvs) (h : keysT l) : False := by
  cases r with
  | nil => exact h.1 rfl
  | cons q r =>
    rename_i k d v ds vs
    obtain ⟨kk, e⟩ := h.2 (kD k, d) List.mem_cons_self
    cases k <;> cases e
theorem Rv.dT {l : List (D × D)} {v : V} (r : Rv K G H (.dic l) v) (h : keysT l) : ∃ a kvs, v = .ref a ∧ Rd H a (.dT kvs) ∧ RepT K G l kvs := by
  cases r with
  | dicT hp rk => exact ⟨_, _, rfl, hp, rk⟩
theorem RepT.none {k : List Key} : ∀ {m : List (D × D)} {kws : List (List Key × V)}, RepT K G m kws → (∀ p ∈ m, p.1 ≠ .tup (k.map kD)) → valV kws k = none
  | _, _, .nil, _ => rfl
  | _, _, .cons (k := k') h r, hn => by
    rw [valV_neg (show ¬ k' = k from fun z => hn _ List.mem_cons_self (by rw [z]))]
    exact r.none fun p hp => hn p (List.mem_cons_of_mem _ hp)
theorem vhits {m : List (D × D)} {kws : List (List Key × V)} (e : ExL G.g H) (rm : RepT K G m kws) : ∀ {l : List (D × D)} {kvs : List (List Key × V)} {b : Bool}, RepT K G l kvs → DHits m l b → VHits K H kws kvs b := by
  intro l kvs b rl h
  induction h generalizing kvs with
  | nil => cases rl; exact .nil
  | miss hm =>
    cases rl with
    | cons h r => exact .miss (rm.none hm)
  | hit hl hv hw _ ih =>
    cases rl with
    | cons h r =>
      obtain ⟨y, e1, ry⟩ := rm.look hl
      rw [← D.py_eqv hv.1 hw.1]
      exact .hit e1 (h.dp e hv.1) (ry.dp e hw.1) (D.shaped hv) (D.shaped hw) (ih r)
end
theorem op_EqT {X : Cx} {W : WX} {k : Nat} (C : CxE X W k) : OpR X (compareOp .Eq) (rEqT X.K) ∧ RefO X.K (rEqT X.K) oEqT := ⟨op_eqT (u64 C.room), fun G st H x y dx dy Q q s rx ry h t => by
  obtain ⟨l, m, b, rfl, rfl, kl, km, hh, h⟩ := h
  obtain ⟨a, kvs, rfl, ha, ra⟩ := rx.dT kl
  obtain ⟨a', kws, rfl, hb, rb⟩ := ry.dT km
  refine ⟨a, a', kvs, kws, b, rfl, rfl, ha, hb, fun e => vhits s.ex rb ra (hh (by rw [ra.length, rb.length]; exact e)), ?_⟩
  rw [← ra.length, ← rb.length]
  exact t.here s (.bl _) h⟩
end AM
set_option Elab.async false
set_option linter.all false
set_option maxRecDepth 100000
set_option maxHeartbeats 4000000
namespace AM
open PySem PySem.Spec PyProof.Rows L2 Evl
/-! ### own operators, by data -/
def isCls (c : Str) : D → Prop
  | .obj c' _ => c' = c
  | _ => False
def isInt : D → Prop
  | .int _ => True
  | _ => False
def anyD : D → Prop := fun _ => True
theorem isCls_at {c : Str} {K : PySem.W.Frag} {G : Gh} {H : Hp} {d : D} {v : V} (r : Rv K G H d v) (h : isCls c d) : ∃ a dx fs, v = .ref a ∧ H a = some (.ins (He.ga K c) dx fs) := by
  cases r with
  | obj hp rf =>
    obtain rfl := (show _ = c from h)
    exact ⟨_, _, _, rfl, hp⟩
  | _ => exact h.elim
/-- the result, whatever it is, as a value -/
def rsD (q : D → S → Prop) : Rs → S → Prop := fun r s => match r with
  | .d x => q x s
  | .own l => q (.lst l) s
  | .ownD l => q (.dic l) s
def aOwn2 (c : Str) (mf : AF) (P : D → Prop) (a b : AE) : AE := fun env st q er => a env st (fun x s1 => b env s1 (fun y s2 => isCls c (vw s2 x) ∧ P (vw s2 y) ∧ mf [x, y] s2 (rsD q) er) er) er
def aOwn1 (c : Str) (mf : AF) (a : AE) : AE := fun env st q er => a env st (fun x s1 => isCls c (vw s1 x) ∧ mf [x] s1 (rsD q) er) er
def aOwnIn (c : Str) (neg : Bool) (mf : AF) (a b : AE) : AE := fun env st q er => a env st (fun x s1 => b env s1 (fun y s2 => isCls c (vw s2 y) ∧ mf [y, x] s2 (fun r s3 => ∃ k, r = .d (.bl k) ∧ q (.bl (k != neg)) s3) er) er) er
section
variable {K : PySem.W.Frag} {W : WX} {c : Str} {mf : AF} {ta tb : TE} {aa ab : AE}
theorem refE_own2 {P : D → Prop} {PV : V → Hp → Prop} (hP : ∀ {G H d v}, Rv K G H d v → P d → PV v H) (ha : RefE K W ta aa) (hb : RefE K W tb ab) : RefE K W (tOwn2 (He.ga K c) (SpA K mf) (fun σ c d H => W c d σ H) PV ta tb) (aOwn2 c mf P aa ab) := fun G env st σ H Q q er s l h tE tX => by
  refine ha G env st σ H _ _ er s l h (fun v d st1 G1 H1 p1 s1 r1 h1 => ?_) tX
  refine hb G1 env st1 σ H1 _ _ er s1 (l.mono p1.le) h1 (fun u d2 st2 G2 H2 p2 s2 r2 h2 => ?_) (tX.on p1)
  obtain ⟨h2, h3, h4⟩ := h2
  have r1' := r1.mono p2.le
  obtain ⟨a, dx, fs, rfl, hp⟩ := isCls_at (r1'.vw s2) h2
  have p12 := p1.trans p2
  refine ⟨a, dx, fs, rfl, hp, hP (r2.vw s2) h3, G2, st2, _, _, er, s2, .cons r1' (.cons r2 .nil), h4, fun v r st3 G3 H3 p3 s3 r3 h5 => ?_, fun e c dx st3 G3 H3 p3 s3 ea h3 => tX e c dx st3 G3 H3 (p12.trans p3) s3 ea h3⟩
  cases r with
  | d x => exact tE v x st3 G3 H3 (p12.trans p3) s3 r3 h5
  | own l =>
    obtain ⟨G4, s4, p4, r4⟩ := own_frz s3 p3 r3
    exact tE v _ st3 G4 H3 (p12.trans p4) s4 r4 h5
  | ownD l =>
    obtain ⟨G4, s4, p4, r4⟩ := ownd_frz s3 p3 r3
    exact tE v _ st3 G4 H3 (p12.trans p4) s4 r4 h5
theorem refE_own1 (ha : RefE K W ta aa) : RefE K W (tOwn1 (He.ga K c) (SpA K mf) (fun σ c d H => W c d σ H) ta) (aOwn1 c mf aa) := fun G env st σ H Q q er s l h tE tX => by
  refine ha G env st σ H _ _ er s l h (fun v d st1 G1 H1 p1 s1 r1 h1 => ?_) tX
  obtain ⟨h2, h4⟩ := h1
  obtain ⟨a, dx, fs, rfl, hp⟩ := isCls_at (r1.vw s1) h2
  refine ⟨a, dx, fs, rfl, hp, G1, st1, _, _, er, s1, .cons r1 .nil, h4, fun v r st3 G3 H3 p3 s3 r3 h5 => ?_, fun e c dx st3 G3 H3 p3 s3 ea h3 => tX e c dx st3 G3 H3 (p1.trans p3) s3 ea h3⟩
  cases r with
  | d x => exact tE v x st3 G3 H3 (p1.trans p3) s3 r3 h5
  | own l =>
    obtain ⟨G4, s4, p4, r4⟩ := own_frz s3 p3 r3
    exact tE v _ st3 G4 H3 (p1.trans p4) s4 r4 h5
  | ownD l =>
    obtain ⟨G4, s4, p4, r4⟩ := ownd_frz s3 p3 r3
    exact tE v _ st3 G4 H3 (p1.trans p4) s4 r4 h5
theorem refE_ownIn {neg : Bool} (ha : RefE K W ta aa) (hb : RefE K W tb ab) : RefE K W (tOwnIn (He.ga K c) neg (SpA K mf) (fun σ c d H => W c d σ H) ta tb) (aOwnIn c neg mf aa ab) := fun G env st σ H Q q er s l h tE tX => by
  refine ha G env st σ H _ _ er s l h (fun v d st1 G1 H1 p1 s1 r1 h1 => ?_) tX
  refine hb G1 env st1 σ H1 _ _ er s1 (l.mono p1.le) h1 (fun u d2 st2 G2 H2 p2 s2 r2 h2 => ?_) (tX.on p1)
  obtain ⟨h2, h4⟩ := h2
  have r1' := r1.mono p2.le
  obtain ⟨a, dx, fs, rfl, hp⟩ := isCls_at (r2.vw s2) h2
  have p12 := p1.trans p2
  refine ⟨a, dx, fs, rfl, hp, G2, st2, _, _, er, s2, .cons r2 (.cons r1' .nil), h4, fun v r st3 G3 H3 p3 s3 r3 h5 => ?_, fun e c dx st3 G3 H3 p3 s3 ea h3 => tX e c dx st3 G3 H3 (p12.trans p3) s3 ea h3⟩
  obtain ⟨k, rfl, h5⟩ := h5
  cases r3
  exact ⟨k, rfl, tE _ _ st3 G3 H3 (p12.trans p3) s3 (.bl _) h5⟩
theorem pv_any {G : Gh} {H : Hp} {d : D} {v : V} (_ : Rv K G H d v) (_ : anyD d) : PAny v H := trivial
theorem pv_int {G : Gh} {H : Hp} {d : D} {v : V} (r : Rv K G H d v) (h : isInt d) : PInt v H := by
  cases r with
  | int i => exact ⟨i, rfl⟩
  | _ => exact h.elim
theorem pv_cls {G : Gh} {H : Hp} {d : D} {v : V} (r : Rv K G H d v) (h : isCls c d) : PIns (He.ga K c) v H := isCls_at r h
end
section
variable {X : Cx} {W : WX} {k j : Nat} {a b : Expr} {c : Str} {pos : Pos} {aa ab : AE} {mf : AF} {f : Addr} {fd : FuncData} {ps : List Str}
theorem ax_ownIx (C : CxE X W (k + 1)) (F : FnOk X.prog X.w X.K X.mg X.base (L2N.CX X.prog X.w) j f fd ps (SpA X.K mf)) (hb : BindsD X.K fd ps []) (hs : PySem.W.findIn X.K (.ref (He.ga X.K c)) "__getitem__" = some (some (.ref f))) (hf : PySem.W.fnIn X.K f = true) (hfn : PySem.W.isFn X.K (.ref f) = true) (ha : AX X W a aa) (hi : AX X W b ab) (hj : j ≤ k)
    (hsl : ∀ x i, subscripted b true x i = runValue (.builtin "lifetime.subscript" ⟨[x, i], []⟩) := by intro _ _; with_unfolding_all rfl) : AX X W (.Subscript a b pos) (aOwn2 c mf anyD aa ab) := by
  obtain ⟨ta, pa, ra⟩ := ha
  obtain ⟨tb, pb, rb⟩ := hi
  obtain ⟨ds, hv, hb⟩ := hb
  cases hv
  exact ⟨_, pe_subO (E := fun σ c d H => W c d σ H) F (C.room.mono (by omega)) hs hf hfn hb (fun σ => L2N.passAt C.takes σ) pa pb hsl, refE_own2 pv_any ra rb⟩
theorem ax_ownAdd {op : Operator} (C : CxE X W k) (F : FnOk X.prog X.w X.K X.mg X.base (L2N.CX X.prog X.w) j f fd ps (SpA X.K mf)) (hb : BindsD X.K fd ps []) (hc : PySem.W.selfFirst X.K (He.ga X.K c) = true) (hs : PySem.W.findIn X.K (.ref (He.ga X.K c)) (PySem.dunder op.info.2) = some (some (.ref f))) (hfn : PySem.W.isFn X.K (.ref f) = true) (ha : AX X W a aa) (hi : AX X W b ab) (hj : j ≤ k) :
    AX X W (.BinOp a op b pos) (aOwn2 c mf (isCls c) aa ab) := by
  obtain ⟨ta, pa, ra⟩ := ha
  obtain ⟨tb, pb, rb⟩ := hi
  obtain ⟨ds, hv, hb⟩ := hb
  cases hv
  exact ⟨_, pe_addO (E := fun σ c d H => W c d σ H) F (C.room.mono hj) hc hs hfn hb (fun σ => L2N.passAt C.takes σ) pa pb, refE_own2 pv_cls ra rb⟩
theorem ax_ownMul {op : Operator} {fo ro : Option Value} (C : CxE X W k) (F : FnOk X.prog X.w X.K X.mg X.base (L2N.CX X.prog X.w) j f fd ps (SpA X.K mf)) (hb : BindsD X.K fd ps []) (hc : PySem.W.selfFirst X.K (He.ga X.K c) = true) (hs : PySem.W.findIn X.K (.ref (He.ga X.K c)) (PySem.dunder op.info.2) = some (some (.ref f))) (hfn : PySem.W.isFn X.K (.ref f) = true) (hrr : PySem.W.findIn X.K (.ref (He.ga X.K c)) (dunderR op.info.2) = some none)
    (h1 : PySem.W.findIn X.K (.type "int") (PySem.dunder op.info.2) = some fo) (h2 : PySem.W.findIn X.K (.type "int") (dunderR op.info.2) = some ro) (hsub : PySem.W.subIn X.K (.type "int") (.ref (He.ga X.K c)) = some false) (ha : AX X W a aa) (hi : AX X W b ab) (hj : j ≤ k) :
    AX X W (.BinOp a op b pos) (aOwn2 c mf isInt aa ab) := by
  obtain ⟨ta, pa, ra⟩ := ha
  obtain ⟨tb, pb, rb⟩ := hi
  obtain ⟨ds, hv, hb⟩ := hb
  cases hv
  exact ⟨_, pe_mulO (E := fun σ c d H => W c d σ H) F (C.room.mono hj) hc hs hfn hrr (.inl rfl) h1 h2 hsub hb (fun σ => L2N.passAt C.takes σ) pa pb, refE_own2 pv_int ra rb⟩
theorem ax_ownNeg (C : CxE X W k) (F : FnOk X.prog X.w X.K X.mg X.base (L2N.CX X.prog X.w) j f fd ps (SpA X.K mf)) (hb : BindsD X.K fd ps []) (hs : PySem.W.findIn X.K (.ref (He.ga X.K c)) "__neg__" = some (some (.ref f))) (hfn : PySem.W.isFn X.K (.ref f) = true) (ha : AX X W a aa) (hj : j ≤ k) :
    AX X W (.UnaryOp .USub a pos) (aOwn1 c mf aa) := by
  obtain ⟨ta, pa, ra⟩ := ha
  obtain ⟨ds, hv, hb⟩ := hb
  cases hv
  exact ⟨_, pe_negO (E := fun σ c d H => W c d σ H) F (C.room.mono hj) hs hfn hb (fun σ => L2N.passAt C.takes σ) pa, refE_own1 ra⟩
theorem ax_ownEq (C : CxE X W k) (F : FnOk X.prog X.w X.K X.mg X.base (L2N.CX X.prog X.w) j f fd ps (SpA X.K mf)) (hb : BindsD X.K fd ps []) (hn : PySem.W.notFirst X.K (He.ga X.K c) (.ref (He.ga X.K c)) = true) (hs : PySem.W.findIn X.K (.ref (He.ga X.K c)) "__eq__" = some (some (.ref f))) (hfn : PySem.W.isFn X.K (.ref f) = true) (ha : AX X W a aa) (hi : AX X W b ab) (hj : j ≤ k) (hm : behindInMarks .Eq b = false := by first | exact nobehind _ (by decide) (by decide) | rfl) :
    AX X W (.Compare a [.Eq] [b] pos) (aOwn2 c mf (isCls c) aa ab) := by
  obtain ⟨ta, pa, ra⟩ := ha
  obtain ⟨tb, pb, rb⟩ := hi
  obtain ⟨ds, hv, hb⟩ := hb
  cases hv
  exact ⟨_, pe_cmp (pe_eqO (E := fun σ c d H => W c d σ H) F (C.room.mono hj) hn hs hfn hb (fun σ => L2N.passAt C.takes σ) pa pb) hm, refE_own2 pv_cls ra rb⟩
theorem axt_ownEq (C : CxE X W k) (F : FnOk X.prog X.w X.K X.mg X.base (L2N.CX X.prog X.w) j f fd ps (SpA X.K mf)) (hb : BindsD X.K fd ps []) (hn : PySem.W.notFirst X.K (He.ga X.K c) (.ref (He.ga X.K c)) = true) (hs : PySem.W.findIn X.K (.ref (He.ga X.K c)) "__eq__" = some (some (.ref f))) (hfn : PySem.W.isFn X.K (.ref f) = true) (ha : AX X W a aa) (hi : AX X W b ab) (hj : j ≤ k) (hm : behindInMarks .Eq b = false := by first | exact nobehind _ (by decide) (by decide) | rfl) :
    AXT X W (.Compare a [.Eq] [b] pos) (aTest (aOwn2 c mf (isCls c) aa ab)) := by
  obtain ⟨ta, pa, ra⟩ := ha
  obtain ⟨tb, pb, rb⟩ := hi
  obtain ⟨ds, hv, hb⟩ := hb
  cases hv
  exact ⟨_, pt_cmp (pe_eqO (E := fun σ c d H => W c d σ H) F (C.room.mono hj) hn hs hfn hb (fun σ => L2N.passAt C.takes σ) pa pb) hm, refT_test (refE_own2 pv_cls ra rb)⟩
theorem ax_ownIn (C : CxE X W k) (F : FnOk X.prog X.w X.K X.mg X.base (L2N.CX X.prog X.w) j f fd ps (SpA X.K mf)) (hb : BindsD X.K fd ps []) (hs : PySem.W.findIn X.K (.ref (He.ga X.K c)) "__contains__" = some (some (.ref f))) (hfn : PySem.W.isFn X.K (.ref f) = true) (ha : AX X W a aa) (hi : AX X W b ab) (hj : j ≤ k) (hm : behindInMarks .In b = false := by rfl) :
    AX X W (.Compare a [.In] [b] pos) (aOwnIn c false mf aa ab) ∧ AXT X W (.Compare a [.In] [b] pos) (aTest (aOwnIn c false mf aa ab)) := by
  obtain ⟨ta, pa, ra⟩ := ha
  obtain ⟨tb, pb, rb⟩ := hi
  obtain ⟨ds, hv, hb⟩ := hb
  cases hv
  have p := pc_inO (neg := false) (E := fun σ c d H => W c d σ H) F (C.room.mono hj) hs hfn hb (fun σ => L2N.passAt C.takes σ) pa pb
  exact ⟨⟨_, pe_cmp p hm, refE_ownIn ra rb⟩, _, pt_cmp p hm, refT_test (refE_ownIn ra rb)⟩
theorem ax_ownNotIn (C : CxE X W k) (F : FnOk X.prog X.w X.K X.mg X.base (L2N.CX X.prog X.w) j f fd ps (SpA X.K mf)) (hb : BindsD X.K fd ps []) (hs : PySem.W.findIn X.K (.ref (He.ga X.K c)) "__contains__" = some (some (.ref f))) (hfn : PySem.W.isFn X.K (.ref f) = true) (ha : AX X W a aa) (hi : AX X W b ab) (hj : j ≤ k) (hm : behindInMarks .NotIn b = false := by rfl) :
    AX X W (.Compare a [.NotIn] [b] pos) (aOwnIn c true mf aa ab) ∧ AXT X W (.Compare a [.NotIn] [b] pos) (aTest (aOwnIn c true mf aa ab)) := by
  obtain ⟨ta, pa, ra⟩ := ha
  obtain ⟨tb, pb, rb⟩ := hi
  obtain ⟨ds, hv, hb⟩ := hb
  cases hv
  have p := pc_inO (neg := true) (E := fun σ c d H => W c d σ H) F (C.room.mono hj) hs hfn hb (fun σ => L2N.passAt C.takes σ) pa pb
  exact ⟨⟨_, pe_cmp p hm, refE_ownIn ra rb⟩, _, pt_cmp p hm, refT_test (refE_ownIn ra rb)⟩
end
end AM
set_option Elab.async false
set_option linter.all false
set_option maxRecDepth 100000
set_option maxHeartbeats 4000000
namespace AM
open PySem PySem.Spec PyProof.Rows L2 Evl
/-! ### isinstance(x, C), C an own class; its name as a value -/
def isiD (io : Str → Str → Option Bool) (it : String → Str → Option Bool) (c : Str) (d : D) : Option Bool := match d with
  | .obj c' _ => io c' c
  | _ => match tyD d with
    | some t => it t c
    | none => none
def bIsiO (io : Str → Str → Option Bool) (it : String → Str → Option Bool) : ON := fun xs q => match xs with
  | [x, .fn c] => ∃ b, isiD io it c x = some b ∧ q (.bl b)
  | _ => False
structure IsiC (K : PySem.W.Frag) (C : Addr) : Prop where
  cl : Cls K C
  ha : PySem.W.findIn K (.ref C) "__class__" = some (some (.builtin "object.__class__"))
  hn : PySem.W.specialIn K (.builtin "object.__class__") "__get__" = some (some (.builtin "getset_descriptor.__get__"))
  htk : PySem.W.takesIn K (.builtin "object.__class__") = some true
  hm : PySem.W.mroIn K C (.type "object") = some true
def isiB (K : PySem.W.Frag) (C : Addr) : Bool := He.eqO (PySem.W.findIn K (.ref C) "__class__") (some (some (.builtin "object.__class__"))) && (He.eqO (PySem.W.specialIn K (.builtin "object.__class__") "__get__") (some (some (.builtin "getset_descriptor.__get__"))) && (decide (PySem.W.takesIn K (.builtin "object.__class__") = some true) && decide (PySem.W.mroIn K C (.type "object") = some true)))
theorem isiB_ok {K : PySem.W.Frag} {C : Addr} (cl : Cls K C) (h : isiB K C = true) : IsiC K C := by
  unfold isiB at h
  simp only [Bool.and_eq_true] at h
  exact ⟨cl, He.eqO_ok h.1, He.eqO_ok h.2.1, of_decide_eq_true h.2.2.1, of_decide_eq_true h.2.2.2⟩
theorem kit_self {K : PySem.W.Frag} {t : Value} : PySem.W.kitOne K t t = some true := by
  unfold PySem.W.kitOne
  rw [if_pos (by simp)]
section
variable {X : Cx} {W : WX} {K : PySem.W.Frag}
theorem cb_isiO {io : Str → Str → Option Bool} {it : String → Str → Option Bool} (h1 : ∀ c' c b, io c' c = some b → IsiC X.K (He.ga X.K c') ∧ PySem.W.kitOne X.K (.ref (He.ga X.K c')) (.ref (He.ga X.K c)) = some b) (h2 : ∀ t c b, it t c = some b → PySem.W.kitOne X.K (.type t) (.ref (He.ga X.K c)) = some b) : CB X (.builtin "isinstance") (bIsiO io it) := ⟨_, call_isiY, fun G st H xs ds Q q s r h t => by
  unfold bIsiO at h
  split at h
  · rename_i x c
    obtain ⟨b, hb, h⟩ := h
    cases r with
    | cons r1 r2 =>
      cases r2 with
      | cons r2 r3 =>
        cases r2; cases r3
        cases x with
        | obj c' fs =>
          cases r1 with
          | obj hp rf =>
            obtain ⟨i, k⟩ := h1 c' c b hb
            exact ⟨_, _, _, _, b, rfl, .own _, .x (.base (.ins hp i.cl i.ha i.hn i.htk i.hm)), k, t.here s (.bl _) h⟩
        | _ =>
          unfold isiD at hb
          simp only at hb
          split at hb
          · rename_i ty hty
            exact ⟨_, _, _, _, b, rfl, .own _, ty_ok r1 hty, h2 ty c b hb, t.here s (.bl _) h⟩
          · cases hb
  · exact h.elim⟩
theorem ax_gFn {x : Str} {pos : Pos} (hm : X.mg x = some (.ref (He.ga X.K x))) (hg : Gl X x := by rfl) (hd : (x == ("__debug__" : Str)) = false := by decide) : AX X W (.Name x pos) (aC (.fn x)) := ⟨_, pe_glob (v := .ref (He.ga X.K x)) hg hm rfl hd, refE_c fun _ => .fn x⟩
end
end AM
set_option Elab.async false
set_option linter.all false
set_option maxRecDepth 100000
set_option maxHeartbeats 4000000
namespace AM
open PySem PySem.Spec PyProof.Rows L2 Evl
/-! ### one form a theorem, so that what is expected is seen -/
section
variable {X : Cx} {W : WX} {k j : Nat} {o e a b : Expr} {es : List Expr} {m c x : Str} {p pos apos : Pos} {ao aa' ab : AE} {aa : AEs} {mf : AF} {fa : Addr} {fd : FuncData} {ps : List Str} {dd : List D} {dvs : List V}
theorem ax_methV {pl : Sem Bool} (C : CxE X W k) (ha : AX X W o ao) (hc : Cls X.K (He.ga X.K c)) (hm : Meth X.K (He.ga X.K c) m fa) (F : FnOk X.prog X.w X.K X.mg X.base (L2N.CX X.prog X.w) j fa fd ps (SpA X.K mf)) (hb : BindsD X.K fd ps dvs) (hdd : ∀ G, Reps X.K G dd dvs) (hr : AXA X W (e :: es) aa) (hj : j ≤ k)
    (hst : starEach (e :: es) X.env = (false, eval e X.env) :: starEach es X.env := by rfl) (hpl : (backTo pos (starEach es X.env)).any (·.1) = false := by rfl)
    (ht : eval (.Call (.Attribute o m apos) (e :: es) [] pos) X.env = (do
      let ov ← eval o X.env
      standAt apos.atName
      let (f, first) ← holding [ov] (getMethod ov m pl)
      callWith pos f first (backTo pos (starEach (e :: es) X.env)) (backToKw pos (keywordEach [] X.env))) := by rfl) :
    AX X W (.Call (.Attribute o m apos) (e :: es) [] pos) (aMeth c m mf ao aa dd) := (ax_meth (pl := pl) C ha hc hm F hb hdd hr hj hst hpl ht).1
theorem ax_methF {pl : Sem Bool} (C : CxE X W k) (ha : AX X W o ao) (hc : Cls X.K (He.ga X.K c)) (hm : Meth X.K (He.ga X.K c) m fa) (F : FnOk X.prog X.w X.K X.mg X.base (L2N.CX X.prog X.w) j fa fd ps (SpA X.K mf)) (hb : BindsD X.K fd ps dvs) (hdd : ∀ G, Reps X.K G dd dvs) (hr : AXA X W (e :: es) aa) (hj : j ≤ k)
    (hst : starEach (e :: es) X.env = (false, eval e X.env) :: starEach es X.env := by rfl) (hpl : (backTo pos (starEach es X.env)).any (·.1) = false := by rfl)
    (ht : eval (.Call (.Attribute o m apos) (e :: es) [] pos) X.env = (do
      let ov ← eval o X.env
      standAt apos.atName
      let (f, first) ← holding [ov] (getMethod ov m pl)
      callWith pos f first (backTo pos (starEach (e :: es) X.env)) (backToKw pos (keywordEach [] X.env))) := by rfl) :
    AXF X W (.Call (.Attribute o m apos) (e :: es) [] pos) (fMeth c m mf ao aa dd) := (ax_meth (pl := pl) C ha hc hm F hb hdd hr hj hst hpl ht).2
theorem ax_meth0V {pl : Sem Bool} (C : CxE X W k) (ha : AX X W o ao) (hc : Cls X.K (He.ga X.K c)) (hm : Meth X.K (He.ga X.K c) m fa) (F : FnOk X.prog X.w X.K X.mg X.base (L2N.CX X.prog X.w) j fa fd ps (SpA X.K mf)) (hb : BindsD X.K fd ps dvs) (hdd : ∀ G, Reps X.K G dd dvs) (hj : j ≤ k)
    (ht : eval (.Call (.Attribute o m apos) [] [] pos) X.env = (do
      let ov ← eval o X.env
      standAt apos.atName
      let (f, first) ← holding [ov] (getMethod ov m pl)
      callWith pos f first (backTo pos (starEach [] X.env)) (backToKw pos (keywordEach [] X.env))) := by rfl) :
    AX X W (.Call (.Attribute o m apos) [] [] pos) (aMeth c m mf ao aNil dd) := (ax_meth0 (pl := pl) C ha hc hm F hb hdd hj ht).1
theorem ax_meth0F {pl : Sem Bool} (C : CxE X W k) (ha : AX X W o ao) (hc : Cls X.K (He.ga X.K c)) (hm : Meth X.K (He.ga X.K c) m fa) (F : FnOk X.prog X.w X.K X.mg X.base (L2N.CX X.prog X.w) j fa fd ps (SpA X.K mf)) (hb : BindsD X.K fd ps dvs) (hdd : ∀ G, Reps X.K G dd dvs) (hj : j ≤ k)
    (ht : eval (.Call (.Attribute o m apos) [] [] pos) X.env = (do
      let ov ← eval o X.env
      standAt apos.atName
      let (f, first) ← holding [ov] (getMethod ov m pl)
      callWith pos f first (backTo pos (starEach [] X.env)) (backToKw pos (keywordEach [] X.env))) := by rfl) :
    AXF X W (.Call (.Attribute o m apos) [] [] pos) (fMeth c m mf ao aNil dd) := (ax_meth0 (pl := pl) C ha hc hm F hb hdd hj ht).2
theorem ax_newV (C : CxE X W (k + 1)) (M : Mk X.K (He.ga X.K x) fa) (F : FnOk X.prog X.w X.K X.mg X.base (L2N.CX X.prog X.w) j fa fd ps (SpA X.K mf)) (hm : X.mg x = some (.ref (He.ga X.K x))) (hb : BindsD X.K fd ps dvs) (hdd : ∀ G, Reps X.K G dd dvs) (hr : AXA X W (e :: es) aa) (hj : j ≤ k)
    (hg : Gl X x := by rfl) (hdb : (x == ("__debug__" : Str)) = false := by decide) (he : starEach (e :: es) X.env = (false, eval e X.env) :: starEach es X.env := by rfl) (hpl : (backTo pos (starEach es X.env)).any (·.1) = false := by rfl) :
    AX X W (.Call (.Name x p) (e :: es) [] pos) (aNew x mf aa dd) := (ax_new C M F hm hb hdd hr hj hg hdb he hpl).1
theorem ax_newC (C : CxE X W (k + 1)) (M : Mk X.K (He.ga X.K x) fa) (F : FnOk X.prog X.w X.K X.mg X.base (L2N.CX X.prog X.w) j fa fd ps (SpA X.K mf)) (hm : X.mg x = some (.ref (He.ga X.K x))) (hb : BindsD X.K fd ps dvs) (hdd : ∀ G, Reps X.K G dd dvs) (hr : AXA X W (e :: es) aa) (hj : j ≤ k)
    (hg : Gl X x := by rfl) (hdb : (x == ("__debug__" : Str)) = false := by decide) (he : starEach (e :: es) X.env = (false, eval e X.env) :: starEach es X.env := by rfl) (hpl : (backTo pos (starEach es X.env)).any (·.1) = false := by rfl) :
    AX X W (.Call (.Name x p) (e :: es) [] pos) (aNewM x mf aa dd) := (ax_new C M F hm hb hdd hr hj hg hdb he hpl).2
end
end AM
set_option Elab.async false
set_option linter.all false
set_option maxRecDepth 100000
set_option maxHeartbeats 4000000
namespace AM
open PySem PySem.Spec PyProof.Rows L2 Evl
/-! ### except clauses of both kinds, with a name and without one, one behind the other -/
abbrev Su := Addr → Value → Option Addr → TS
abbrev Cl := Value × Option Nat × Su
/-- a clause's ends: its name is gone behind it -/
def endsAt (D : Ends) : Option Nat → Ends
  | none => D
  | some i => { nx := fun t H' => D.nx (t.set i none) H', rt := D.rt, bk := fun t H' => D.bk (t.set i none) H', ct := fun t H' => D.ct (t.set i none) H' }
def putAt (t : L2.St) (a : Addr) : Option Nat → L2.St
  | none => t
  | some i => t.set i (some (.ref a))
def wMix (K : PySem.W.Frag) (Wo : WX) (D : Ends) : List Cl → WX
  | [] => Wo
  | (c, o, ts) :: r => fun cls d t H => ∃ b, PySem.W.exmOne K cls c = some b ∧ (b = true → ∀ a, H a = none → ts a cls d (endsAt D o) (putAt t a o) H) ∧ (b = false → wMix K Wo D r cls d t H)
abbrev SuOk (X : Cx) (bs : List Stmt) (ts : Su) : Prop := ∀ (a : Addr) (o : Obj) (cls : Value) (d : Option Addr) (pn : List (Addr × Obj)), L2N.Zn cls d o → (∃ vs, o.data = .fields vs) → PSs (X.suite a ((a, o) :: pn)) bs (ts a cls d)
inductive MixOk (X : Cx) : List ExceptHandler → List Cl → Prop
  | nil : MixOk X [] []
  | bare {x : Str} {c : Value} {ts : Su} {b : Stmt} {bs : List Stmt} {p p2 : Pos} {hds : List ExceptHandler} {l : List Cl} : Names X x c → SuOk X (b :: bs) ts → MixOk X hds l → MixOk X (.ExceptHandler (some (.Name x p)) none (b :: bs) p2 :: hds) ((c, none, ts) :: l)
  | named {x n : Str} {i : Nat} {c : Value} {ts : Su} {b : Stmt} {bs : List Stmt} {p p2 : Pos} {hds : List ExceptHandler} {l : List Cl} : X.N[i]? = some n → X.env.kindOf n = some .local → Names X x c → SuOk X (b :: bs) ts → MixOk X hds l → MixOk X (.ExceptHandler (some (.Name x p)) (some n) (b :: bs) p2 :: hds) ((c, some i, ts) :: l)
section
variable {X : Cx} {body : List Stmt} {h0 : ExceptHandler} {hds : List ExceptHandler} {l : List Cl} {pos : Pos} {tb : WX → TS} {Wo : WX}
theorem sp_un {pins pins' : List (Addr × Obj)} {D : Ends} {Y : Cx} {s : Shared} {f : Flow} (k : ∀ {t : L2.St} {H : Hp}, Inv Y pins' t H s → Inv X pins t H s) (h : SP Y pins' D f s) : SP X pins D f s := by
  cases f with
  | next => exact ⟨h.choose, h.choose_spec.choose, k h.choose_spec.choose_spec.1, h.choose_spec.choose_spec.2⟩
  | brk => exact ⟨h.choose, h.choose_spec.choose, k h.choose_spec.choose_spec.1, h.choose_spec.choose_spec.2⟩
  | cont => exact ⟨h.choose, h.choose_spec.choose, k h.choose_spec.choose_spec.1, h.choose_spec.choose_spec.2⟩
  | ret u =>
    obtain ⟨v, t, H, J, r, q⟩ := h
    exact ⟨v, t, H, k J, r, q⟩
theorem ps_mix (hs : X.stack = X.env :: X.outer) (hf : X.env.frame = some X.env.locals) (hN : X.N.Nodup) (tk : L2N.Takes X Wo)
    (hb : ∀ (W : WX) (pn : List (Addr × Obj)) (xe : Value → Shared → Prop), L2N.Takes (X.tr pn xe) W → PassesOwn (model X.prog X.w) X.A X.env xe → PSs (X.tr pn xe) body (tb W))
    (hh : MixOk X (h0 :: hds) l) : PS X (.Try body (h0 :: hds) [] [] pos) (fun D t H => tb (wMix X.K Wo D l) D t H) := by
  refine ⟨fun pins s t H D I h => wpAny_Try_except ?_⟩
  have ok := I.ok
  refine wpAny_mono ((hb (wMix X.K Wo D l) (X.pn ++ pins) _ (fun _ s2 xx => ?_) PassesOwn.looking).run [] s t H D (I.toTry _) h) (fun f s1 hsp => ?_) (fun _ _ he => he)
  · obtain ⟨a, B, sI, pins', t1, H1, cls, d, rfl, J', nb, up, sky, na, os, ag, w⟩ := xx
    have J : Inv X pins t1 H1 sI := J'.ofTry ok
    rw [hs] at sky
    refine L2N.Sky.land L2N.Zn.steady (by rw [ok.frames, hs]) hf sky fun h3 fl up3 => ?_
    have J3 : Inv X pins t1 H1 { s2 with heap := h3 } := J.landed nb fl.1 (up.trans up3) os ag
    obtain ⟨o3, vs3, e3, z3, d3⟩ := fl.there
    have away : a ∉ frs (X.env :: X.outer) := fun hm => by
      obtain ⟨_, o', e', nf⟩ := fl.2.2.1.mem hm
      rw [e3] at e'
      cases e'
      exact nf _ d3
    have nl : a ≠ X.env.locals := fun z => away (List.mem_filterMap.mpr ⟨_, List.mem_cons_self, by rw [hf, z]⟩)
    have nf : a ∉ X.fs := fun hm => by
      obtain ⟨e, me, q⟩ := List.mem_filterMap.mp hm
      exact away (List.mem_filterMap.mpr ⟨e, List.mem_cons_of_mem _ me, q⟩)
    have S3 := J3.suite e3 d3 na nl nf
    have T3 : PySem.W.Looks (model X.prog X.w) h3 (typeOf (.ref a)) cls := fun A Q E u k q => wpAny_typeOf_ref (k _ _ e3) (by rw [z3.1]; exact q)
    have nm : ∀ {x : Str} {c : Value} {p : Pos}, Names X x c → ∀ {Q E : Value → Shared → Prop}, Q c { s2 with heap := h3 } → wpAny (model X.prog X.w) (X.A.mark (some (.ref a))) (eval (.Name x p) X.env) Q E { s2 with heap := h3 } := fun hc Q E q => by
      obtain ⟨g, nd, m | ⟨m, v, nn⟩⟩ := hc
      · exact ld_glob (X := X.suite a ((a, o3) :: (X.pn ++ pins))) S3 g m q nd
      · exact ld_blt (X := X.suite a ((a, o3) :: (X.pn ++ pins))) S3 g m v q nn nd
    suffices go : ∀ {hs' : List ExceptHandler} {l' : List Cl}, MixOk X hs' l' → wMix X.K Wo D l' cls d t1 H1 → wpAny (model X.prog X.w) X.A (handleBy (.ref a) X.env hs') (SP X pins D) X.xe { s2 with heap := h3 } from go hh w
    intro hs' l' hk
    induction hk with
    | nil =>
      intro w
      refine wpAny_handleBy_nil ?_
      obtain ⟨_, _, _, oe, vs, T, _, _, he, _, hd, h1, _⟩ := id fl
      unfold PySem.passOn
      refine wpAny_bind (wpAny_field he hd h1 ?_)
      rw [if_neg (by simp)]
      have on : wpAny (model X.prog X.w) X.A (setFlight (.ref a) X.env.frame) (fun _ u => wpAny (model X.prog X.w) X.A (throw (.ref a) : Sem Flow) (SP X pins D) X.xe u) X.xe { s2 with heap := h3 } := by
        rw [hf]
        exact HandSPX.setFlight_upZ fl fun h4 k4 up4 => wpAny_throw (tk _ _ ⟨a, B, sI, pins, t1, H1, cls, d, rfl, J, nb, (up.trans up3).trans up4, .inr (.inr (by rw [hs]; exact k4)), na, os, ag, w⟩)
      first
        | exact wpAny_bind (wpAny_pure (wpAny_bind on))
        | exact wpAny_bind on
    | bare hc hsu _ ih =>
      rintro ⟨b, hb1, yes, no⟩
      refine wpAny_handleBy_cons (codeAny_handlers_test (nm hc ((PySem.W.exm_one (M := model X.prog X.w) J3.kIn T3 hb1).here ?_))) (by intro q; cases q)
      cases b with
      | false => exact ih (no rfl)
      | true =>
        refine codeAny_handlers_suite (HandSPX.lands_againZ fl fun h4 fl4 up4 => ?_)
        have J4 : Inv X pins t1 H1 { s2 with heap := h4 } := J.landed nb fl4.1 ((up.trans up3).trans up4) os ag
        obtain ⟨o4, vs4, e4, z4, d4⟩ := fl4.there
        exact wpAny_mono ((hsu a o4 cls d (X.pn ++ pins) z4 ⟨_, d4⟩).run [] _ _ H1 _ (J4.suite e4 d4 na nl nf) (yes rfl a na)) (fun f s6 q => sp_un (fun S6 => S6.unsuite ok) q) (fun _ _ z => False.elim z)
    | named hi hl hc hsu _ ih =>
      rintro ⟨b, hb1, yes, no⟩
      refine wpAny_handleBy_cons (codeAny_handlers_test (nm hc ((PySem.W.exm_one (M := model X.prog X.w) J3.kIn T3 hb1).here ?_))) (by intro q; cases q)
      cases b with
      | false => exact ih (no rfl)
      | true =>
        refine codeAny_handlers_suite_as (HandSPX.lands_againZ fl fun h4 fl4 up4 => ?_)
        have J4 : Inv X pins t1 H1 { s2 with heap := h4 } := J.landed nb fl4.1 ((up.trans up3).trans up4) os ag
        obtain ⟨o4, vs4, e4, z4, d4⟩ := fl4.there
        refine store_ok (X := X.suite a ((a, o4) :: (X.pn ++ pins))) (v := .ref a) (J4.suite e4 d4 na nl nf) hN hi (.inl hl) rfl (fun s5 S5 => ?_) (.inr hl)
        refine wpAny_mono ((hsu a o4 cls d (X.pn ++ pins) z4 ⟨_, d4⟩).run [] s5 _ H1 _ S5 (yes rfl a na)) (fun f s6 q => ?_) (fun _ _ z => False.elim z)
        cases f with
        | next => exact let ⟨_, _, S6, q6⟩ := q; gone_ok (S6.unsuite ok) hN hi hl fun s7 J7 => ⟨_, _, J7, q6⟩
        | brk => exact let ⟨_, _, S6, q6⟩ := q; gone_ok (S6.unsuite ok) hN hi hl fun s7 J7 => ⟨_, _, J7, q6⟩
        | cont => exact let ⟨_, _, S6, q6⟩ := q; gone_ok (S6.unsuite ok) hN hi hl fun s7 J7 => ⟨_, _, J7, q6⟩
        | ret u => exact let ⟨_, _, _, S6, r6, q6⟩ := q; gone_ok (S6.unsuite ok) hN hi hl fun s7 J7 => ⟨_, _, _, J7, r6, q6⟩
  · have r := sp_un (X := X) (pins := pins) (fun J' => J'.ofTry ok) hsp
    cases f with
    | next => exact wpAny_execs_nil r
    | _ => exact r
end
/-! ### the readings -/
abbrev AClause := (Str → Option Bool) × Option Nat × (Addr → Value → Option Addr → AS)
def kAt (k : AK) : Option Nat → AK
  | none => { k with er := fun _ _ _ => False }
  | some i => { nx := fun env' s => k.nx (env'.set i .no) s, rt := k.rt, bk := fun env' s => k.bk (env'.set i .no) s, ct := fun env' s => k.ct (env'.set i .no) s, er := fun _ _ _ => False }
def eAt (env : List A) (x : A) : Option Nat → List A
  | none => env
  | some i => env.set i x
def erMix : List AClause → AK → Er → List A → S → Prop
  | [], k, e, env, st => k.er e env st
  | (xm, o, su) :: r, k, e, env, st => ∃ b, xm e.cls = some b ∧ (b = true → ∀ a c dx, su a c dx (eAt env (.exc a c dx e) o) st (kAt k o)) ∧ (b = false → erMix r k e env st)
def sTryMix (b : AS) (cs : List AClause) : AS := fun env st k => b env st { k with er := erMix cs k }
section
variable {X : Cx} {W : WX} {k : Nat} {x n cn f : Str} {i : Nat} {body suite : List Stmt} {b0 : Stmt} {np pos pos' : Pos} {ab : AS} {xm : Str → Option Bool}
def AXHm (X : Cx) (hds : List ExceptHandler) (cs : List AClause) : Prop := ∃ l, MixOk X hds l ∧ ∀ (W : WX) (G : Gh) (H : Hp) (kk : AK) (D : Ends), ThenS X.K W G H kk D → ∀ e c dx env σ st, SS X.K G st H → Sl X.K G env σ → ErAt X.K G e c dx → erMix cs kk e env st → wMix X.K W D l c dx σ H
theorem axm_nil : AXHm X [] [] := ⟨[], .nil, fun W G H kk D t e c dx env σ st s l ea h => t.er e c dx env σ st G H Post.refl s l ea h⟩
theorem axm_bare {hds : List ExceptHandler} {cs : List AClause} {su : Addr → Value → Option Addr → AS} (hm : X.mg x = some (.ref (He.ga X.K x))) (hx : ∀ c b, xm c = some b → PySem.W.exmOne X.K (.ref (He.ga X.K c)) (.ref (He.ga X.K x)) = some b)
    (hs : ∀ (a : Addr) (oe : Obj) (cls : Value) (d : Option Addr) (pn : List (Addr × Obj)), L2N.Zn cls d oe → (∃ vs, oe.data = .fields vs) → AXB (X.suite a ((a, oe) :: pn)) W0 (b0 :: suite) (su a cls d)) (hr : AXHm X hds cs)
    (hg : Gl X x := by rfl) (hdb : (x == ("__debug__" : Str)) = false := by decide) : AXHm X (.ExceptHandler (some (.Name x np)) none (b0 :: suite) pos' :: hds) ((xm, none, su) :: cs) := by
  obtain ⟨l, hl, hh⟩ := hr
  refine ⟨_, .bare (ts := fun a cls d => rdS X.K W0 (su a cls d)) ⟨hg, hdb, .inl hm⟩ (fun a oe cls d pn hz hf => (hs a oe cls d pn hz hf).ps) hl, fun W G H kk D t e c dx env σ st s sl ea h => ?_⟩
  obtain ⟨b, hb1, h1, h2⟩ := h
  refine ⟨b, ?_, fun hbt a ha => ?_, fun hbf => hh W G H kk D t e c dx env σ st s sl ea (h2 hbf)⟩
  · obtain ⟨rfl, _⟩ := ea
    exact hx _ _ hb1
  · exact ⟨G, _, st, _, s, sl, h1 hbt a c dx, ⟨t.nx, t.rt, t.bk, t.ct, fun _ _ _ _ _ _ _ _ _ _ _ _ z => z.elim⟩⟩
theorem axm_named {hds : List ExceptHandler} {cs : List AClause} {su : Addr → Value → Option Addr → AS} (hm : X.mg x = some (.ref (He.ga X.K x))) (hx : ∀ c b, xm c = some b → PySem.W.exmOne X.K (.ref (He.ga X.K c)) (.ref (He.ga X.K x)) = some b)
    (hs : ∀ (a : Addr) (oe : Obj) (cls : Value) (d : Option Addr) (pn : List (Addr × Obj)), L2N.Zn cls d oe → (∃ vs, oe.data = .fields vs) → AXB (X.suite a ((a, oe) :: pn)) W0 (b0 :: suite) (su a cls d)) (hr : AXHm X hds cs)
    (hi : X.N[i]? = some n := by rfl) (hln : X.env.kindOf n = some .local := by rfl) (hg : Gl X x := by rfl) (hdb : (x == ("__debug__" : Str)) = false := by decide) : AXHm X (.ExceptHandler (some (.Name x np)) (some n) (b0 :: suite) pos' :: hds) ((xm, some i, su) :: cs) := by
  obtain ⟨l, hl, hh⟩ := hr
  refine ⟨_, .named (i := i) (ts := fun a cls d => rdS X.K W0 (su a cls d)) hi hln ⟨hg, hdb, .inl hm⟩ (fun a oe cls d pn hz hf => (hs a oe cls d pn hz hf).ps) hl, fun W G H kk D t e c dx env σ st s sl ea h => ?_⟩
  obtain ⟨b, hb1, h1, h2⟩ := h
  refine ⟨b, ?_, fun hbt a ha => ?_, fun hbf => hh W G H kk D t e c dx env σ st s sl ea (h2 hbf)⟩
  · obtain ⟨rfl, _⟩ := ea
    exact hx _ _ hb1
  · refine ⟨G, _, st, _, s, sl.put i (x := .exc a c dx e) (v := some (.ref a)) ⟨rfl, ea⟩, h1 hbt a c dx, ?_⟩
    exact ⟨fun env4 σ4 st4 G4 H4 p4 s4 l4 h4 => t.nx _ _ st4 G4 H4 p4 s4 (l4.drop i none) h4, t.rt,
      fun env4 σ4 st4 G4 H4 p4 s4 l4 h4 => t.bk _ _ st4 G4 H4 p4 s4 (l4.drop i none) h4, fun env4 σ4 st4 G4 H4 p4 s4 l4 h4 => t.ct _ _ st4 G4 H4 p4 s4 (l4.drop i none) h4, fun _ _ _ _ _ _ _ _ _ _ _ _ z => z.elim⟩
theorem axs_tryMix {h0 : ExceptHandler} {hds : List ExceptHandler} {cs : List AClause} (C : CxS X W k)
    (hb : ∀ (W' : WX) (pn : List (Addr × Obj)) (xe : Value → Shared → Prop), CxS (X.tr pn xe) W' k → AXB (X.tr pn xe) W' body ab) (hh : AXHm X (h0 :: hds) cs) :
    AXS X W (.Try body (h0 :: hds) [] [] pos) (sTryMix ab cs) := by
  obtain ⟨l, hl, hh⟩ := hh
  refine ⟨_, ps_mix (tb := fun W' => rdS X.K W' ab) C.stk C.frm C.nd C.takes (fun W' pn xe tk po => (hb W' pn xe (C.tr tk po)).ps) hl, fun G env st σ H D kk s sl h t => ?_⟩
  exact ⟨G, env, st, _, s, sl, h, ⟨t.nx, t.rt, t.bk, t.ct, fun e c dx env' σ' st2 G2 H2 p2 s2 l2 ea he => hh W G2 H2 kk D (t.on p2) e c dx env' σ' st2 s2 l2 ea he⟩⟩
end
/-! ### min and max of a list of ints -/
def bMin1 : ON := fun xs q => ∃ ns : List Int, xs = [.lst (ns.map D.int)] ∧ 0 < ns.length ∧ ∀ m, m ∈ ns → (∀ y, y ∈ ns → m ≤ y) → q (.int m)
def bMax1 : ON := fun xs q => ∃ ns : List Int, xs = [.lst (ns.map D.int)] ∧ 0 < ns.length ∧ ∀ m, m ∈ ns → (∀ y, y ∈ ns → y ≤ m) → q (.int m)
theorem cb_min1 {X : Cx} {W : WX} {k : Nat} (C : CxE X W k) : CB X (.builtin "min") bMin1 := ⟨_, cr_min C.calm, fun G st H xs ds Q q s r ⟨bs, eb, hp, h⟩ t => by
  subst eb
  cases r with
  | cons r1 r2 =>
    cases r2
    cases r1 with
    | lst h1 r1 =>
      have := ints_ok r1
      subst this
      exact ⟨_, bs, rfl, SqL.of h1, hp, fun m hm hy => t.here s (.int _) (h m hm hy)⟩⟩
theorem cb_max1 {X : Cx} {W : WX} {k : Nat} (C : CxE X W k) : CB X (.builtin "max") bMax1 := ⟨_, cr_max C.calm, fun G st H xs ds Q q s r ⟨bs, eb, hp, h⟩ t => by
  subst eb
  cases r with
  | cons r1 r2 =>
    cases r2
    cases r1 with
    | lst h1 r1 =>
      have := ints_ok r1
      subst this
      exact ⟨_, bs, rfl, SqL.of h1, hp, fun m hm hy => t.here s (.int _) (h m hm hy)⟩⟩
end AM
set_option Elab.async false
set_option linter.all false
set_option maxRecDepth 100000
set_option maxHeartbeats 4000000
namespace AM
open PySem PySem.Spec PyProof.Rows L2 Evl
/-! ### dict(zip(xs, ys)), xs tuples that differ -/
theorem storedAll_nodup {K : Type} [DecidableEq K] : ∀ (ps acc : List (K × Addr × Value)), ((acc ++ ps).map (·.1)).Nodup → storedAllH acc ps = acc ++ ps
  | [], acc, _ => by simp [storedAllH]
  | p :: ps, acc, h => by
    have hn : atKey acc p.1 = none := atKey_none_of_get fun j q e => by
      have hm : p.1 ∈ acc.map (·.1) := List.mem_map.mpr ⟨_, List.mem_of_getElem? e, rfl⟩
      rw [List.map_append, List.nodup_append] at h
      exact h.2.2 _ hm p.1 (by simp) rfl
    have e : storedAllH acc (p :: ps) = storedAllH (acc ++ [p]) ps := by
      show ps.foldl _ (storedH acc p.1 p.2.1 p.2.2) = ps.foldl _ (acc ++ [p])
      rw [storedH_new hn]
    rw [e, storedAll_nodup ps (acc ++ [p]) (by simpa using h)]
    simp
/-- the keys: tuples that lie there -/
def KeysAt (H : Hp) : List V → List (List Key) → Prop
  | [], [] => True
  | x :: xs, k :: ks => (∃ b, x = .ref b ∧ H b = some (.tup (k.map kV))) ∧ KeysAt H xs ks
  | _, _ => False
theorem KeysAt.length {H : Hp} : ∀ {xs : List V} {ks : List (List Key)}, KeysAt H xs ks → xs.length = ks.length
  | [], [], _ => rfl
  | _ :: _, _ :: _, h => congrArg Nat.succ (KeysAt.length h.2)
def tDictZip (K : PySem.W.Frag) (ta : TA) : TE := fun σ H Q => ta σ H fun vs H1 => ∃ (a b : Addr) (xs ys : List V) (ks : List (List Key)), vs = [.ref a, .ref b] ∧ SqL K H1 a xs ∧ SqL K H1 b ys ∧ xs.length = ys.length ∧ KeysAt H1 xs ks ∧ ks.Nodup ∧ ∀ p, H1 p = none → Q (.ref p) (upd H1 p (.dT (ks.zip ys)))
theorem keys_addrs {H : Hp} : ∀ {xs : List V} {ks : List (List Key)} {its : List Value}, KeysAt H xs ks → Vals xs its → ∃ bs : List Addr, its = bs.map Value.ref ∧ bs.length = ks.length ∧ ∀ (i : Nat) (k : List Key) (b : Addr), ks[i]? = some k → bs[i]? = some b → H b = some (.tup (k.map kV))
  | [], [], _, _, .nil => ⟨[], rfl, rfl, fun i k b h => by simp at h⟩
  | x :: xs, k :: ks, _, h, .cons r rs => by
    obtain ⟨⟨b, rfl, hb⟩, h2⟩ := h
    obtain ⟨bs, rfl, hl, hp⟩ := keys_addrs h2 rs
    cases r
    refine ⟨b :: bs, rfl, by simp [hl], fun i k' b' e1 e2 => ?_⟩
    cases i with
    | zero => simp at e1 e2; subst e1 e2; exact hb
    | succ i => exact hp i k' b' (by simpa using e1) (by simpa using e2)
theorem paired_zip {H : Hp} : ∀ {ks : List (List Key)} {bs : List Addr} {ys : List V} {us : List Value}, Vals ys us → bs.length = ks.length → ys.length = ks.length → (∀ (i : Nat) (k : List Key) (b : Addr), ks[i]? = some k → bs[i]? = some b → H b = some (.tup (k.map kV))) →
    Paired (fun (p : List Key × V) (q : List Key × Addr × Value) => p.1 = q.1 ∧ H q.2.1 = some (.tup (p.1.map kV)) ∧ RelV p.2 q.2.2) (ks.zip ys) (ks.zip (bs.zip us))
  | [], _, _, _, _, _, _, _ => by simp only [List.zip_nil_left]; exact .nil
  | k :: ks, b :: bs, _, _, .cons r rs, h1, h2, h => .cons ⟨rfl, h 0 k b rfl rfl, r⟩ (paired_zip rs (by simpa using h1) (by simpa using h2) fun i k' b' e1 e2 => h (i + 1) k' b' (by simpa using e1) (by simpa using e2))
  | _ :: _, [], _, _, _, h1, _, _ => by simp at h1
  | _ :: _, _ :: _, [], _, .nil, _, h2, _ => by simp at h2
theorem zip_apart {N a b : Nat} (la : a < N) (lb : b < N) : ZipApart (N + 4) (N + 2) (N + 3) N (N + 1) a b := by
  constructor <;> (show (_ : Nat) ≠ _; omega)
section
variable {X : Cx}
theorem pe_dictZip {e e2 : Expr} {ta : TA} {p p2 pos pos2 : Pos} (hc : X.calm = true) (hu : X.A.units + 4 < cLine) (hg : Gl X "dict") (hm : X.mg "dict" = none) (hgz : Gl X "zip") (hmz : X.mg "zip" = none) (ha : PA X [e, e2] ta)
    (hs : starEach [e, e2] X.env = (false, eval e X.env) :: starEach [e2] X.env := by rfl) (hpl : (backTo pos2 (starEach [e2] X.env)).any (·.1) = false := by rfl)
    (hs0 : starEach [.Call (.Name "zip" p2) [e, e2] [] pos2] X.env = (false, eval (.Call (.Name "zip" p2) [e, e2] [] pos2) X.env) :: starEach [] X.env := by rfl) (hpl0 : (backTo pos (starEach [] X.env)).any (·.1) = false := by rfl) :
    PE X (.Call (.Name "dict" p) [.Call (.Name "zip" p2) [e, e2] [] pos2] [] pos) (tDictZip X.K ta) := by
  refine ⟨fun pins s σ H Q I h => ?_⟩
  refine Call_ (ld_blt I hg hm PyProof.Rows.boot_dict (PyProof.Rows.callWith_type1 ?_ hs0 hpl0))
  rw [hs0]
  show wpAny _ _ (spliced ((false, eval (.Call (.Name "zip" p2) [e, e2] [] pos2) X.env) :: backTo pos (starEach [] X.env))) _ _ s
  refine Calls.spliced_cons ?_
  refine Call_ (ld_blt I hgz hmz PyProof.Rows.boot_zip (PyProof.Rows.callWith_type1 (thn (ha.run pos2 pins s σ H _ I h) fun us s1 ⟨vs, H1, I1, r1, q1⟩ => ?_) hs hpl))
  obtain ⟨a, b, xs, ys, ks, ex, hqx, hqy, hlen, hk, hnd, q⟩ := q1
  subst ex
  cases r1 with
  | cons r rr =>
    cases rr with
    | cons r' rr =>
      cases rr
      cases r
      cases r'
      obtain ⟨its, rv, p1, hz1, la⟩ := inv_sq (t := false) I1 hqx
      obtain ⟨its2, rv2, p2', hz2, lb⟩ := inv_sq (t := false) I1 hqy
      refine zip_begins2 (begins_sq (t := false) a its.toArray) (begins_sq (t := false) b its2.toArray) p1 p2' fun h' hz hTI hTO h1 h2 hsz hkp => ?_
      refine Calls.spliced_nil ?_
      have D : ZipApart (s1.heap.objs.size + 4) (s1.heap.objs.size + 2) (s1.heap.objs.size + 3) s1.heap.objs.size (s1.heap.objs.size + 1) a b := zip_apart la lb
      obtain ⟨bs, rfl, hbl, hbk⟩ := keys_addrs hk rv
      have hxl : xs.length = bs.length := by rw [rv.length]; simp
      have hyl : ys.length = its2.length := rv2.length
      have hkl : xs.length = ks.length := hk.length
      generalize hps : (ks.zip (bs.zip its2) : List (List Key × Addr × Value)) = ps
      have psl : ps.length = xs.length := by rw [← hps]; simp; omega
      have psk : ps.map (·.1) = ks := by rw [← hps, List.map_fst_zip (by simp; omega)]
      have pget : ∀ (i : Nat) (k : List Key) (c : Addr) (v : Value), ps[i]? = some (k, c, v) ↔ (ks[i]? = some k ∧ bs[i]? = some c ∧ its2[i]? = some v) := by
        intro i k c v
        rw [← hps, List.getElem?_zip_eq_some]
        simp only [List.getElem?_zip_eq_some]
      have P := PairArg.zip (prog := X.prog) (w := X.w) _ _ _ _ _ a b D (bs.map Value.ref).toArray its2.toArray
      have old : ∀ c, c < s1.heap.objs.size → c ∉ [s1.heap.objs.size + 4, s1.heap.objs.size + 3, s1.heap.objs.size, s1.heap.objs.size + 1] := fun c hc hm => by
        have hm : (c : Nat) = s1.heap.objs.size + 4 ∨ (c : Nat) = s1.heap.objs.size + 3 ∨ (c : Nat) = s1.heap.objs.size ∨ (c : Nat) = s1.heap.objs.size + 1 := by simpa using hm
        have hc : (c : Nat) < s1.heap.objs.size := hc
        omega
      have is2 : ∀ {h2 : Heap}, (∀ c o, c < s1.heap.objs.size → s1.heap.get? c = some o → h2.get? c = some o) → ∀ x ∈ ps, (tupleKind (mixKind X.prog X.w)).is h2 x.1 x.2.1 := fun {h2} kk x hx => by
        obtain ⟨i, hi⟩ := List.mem_iff_getElem?.mp hx
        obtain ⟨e1, e2, _⟩ := (pget i x.1 x.2.1 x.2.2).mp hi
        obtain ⟨o, its, n, g1, g2⟩ := key_of (P := X.prog) (w := X.w) I1.hok (hbk i _ _ e1 e2)
        exact ⟨o, its, n, kk _ _ (Heap.lt_size g1) g1, g2⟩
      refine call_dict_pairsH (knd := tupleKind (mixKind X.prog X.w)) (ps := ps) P (I1.ok.hd hc) (show X.A.in1.in1.units < cLine by have : X.A.in1.in1.units = X.A.units + 2 := rfl; omega) ⟨hz, hTI, ⟨_, _, hTO⟩, ⟨_, h1, rfl, rfl⟩, ⟨_, h2, rfl, rfl⟩, ?_, ?_⟩ ⟨?_, fun i key v hrel => ?_⟩ (fun h3 hk3 x hx => ?_) ?_ fun h3 tk hd hk3 => ?_
      · obtain ⟨o, g1, g2⟩ := (show s1.heap.IsList a _ from p1)
        exact ⟨o, hkp _ _ g1, g2⟩
      · obtain ⟨o, g1, g2⟩ := (show s1.heap.IsList b _ from p2')
        exact ⟨o, hkp _ _ g1, g2⟩
      · simp; omega
      · obtain ⟨e1, e2⟩ := hrel
        have e1 : (bs.map Value.ref)[i]? = some key := by simpa using e1
        have e2 : its2[i]? = some v := by simpa using e2
        rw [List.getElem?_map] at e1
        cases hb : bs[i]? with
        | none => rw [hb] at e1; cases e1
        | some c =>
          rw [hb] at e1
          obtain rfl : Value.ref c = key := Option.some.inj e1
          have hik : i < ks.length := by have := (List.getElem?_eq_some_iff.mp hb).1; omega
          exact ⟨ks[i], c, (pget i _ _ _).mpr ⟨List.getElem?_eq_getElem hik, hb, e2⟩, rfl⟩
      · refine is2 (fun c o hc g => hk3 c o ?_ (old c hc) (hkp _ _ g)) x hx
        have hc : (c : Nat) < s1.heap.objs.size := hc
        show (c : Nat) ≠ h'.objs.size
        omega
      · show min (bs.map Value.ref).toArray.size its2.toArray.size ≤ sizeLine
        simp; omega
      · rw [storedAll_nodup ps [] (by simpa [psk] using hnd), List.nil_append] at hd
        have keep : ∀ c o, s1.heap.get? c = some o → h3.get? c = some o := fun c o g => hk3 c o (old c (Heap.lt_size g)) (hkp _ _ g)
        have hle : s1.heap.objs.size ≤ h'.objs.size := by rw [hsz]; exact Nat.le_add_right _ _
        have hH : H1 h'.objs.size = none := I1.hok.fresh hle
        obtain ⟨o, es, ep, g1, g2, g3, g4, _, g5⟩ := hd
        refine ⟨.ref h'.objs.size, _, I1.laid (t' := tk) (a := h'.objs.size) (o := .dT (ks.zip ys)) keep hle ?_, rfl, q _ hH⟩
        refine ⟨by simp; omega, ?_, ps, ?_, o, es, ep, g1, g2, g3, g4, g5⟩
        · exact beq_eq_false_iff_ne.mpr (Nat.ne_of_gt (Nat.lt_of_lt_of_le I1.big hle))
        · rw [← hps]
          refine paired_zip rv2 (by omega) (by omega) fun i k c e1 e2 => ?_
          have hb := hbk i k c e1 e2
          rw [upd_ne (fun z => by rw [z, hH] at hb; cases hb)]
          exact hb
end
theorem nodup_inv {α β : Type} {f : α → β} : ∀ {l : List α}, (l.map f).Nodup → l.Nodup
  | [], _ => by simp
  | x :: xs, h => by
    rw [List.map_cons, List.nodup_cons] at h
    exact List.nodup_cons.mpr ⟨fun hm => h.1 (List.mem_map_of_mem hm), nodup_inv h.2⟩
def kT (k : List Key) : D := .tup (k.map kD)
theorem keysAt_of {K : PySem.W.Frag} {G : Gh} {H : Hp} (ex : ExL G.g H) : ∀ {l : List D} {vs : List V}, Reps K G l vs → (∀ k ∈ l, isKeyT k) → ∃ ks : List (List Key), KeysAt H vs ks ∧ l = ks.map kT
  | _, _, .nil, _ => ⟨[], trivial, rfl⟩
  | d :: _, v :: _, .cons h r, hk => by
    obtain ⟨ks, h1, e1⟩ := keysAt_of ex r fun k hm => hk k (by simp [hm])
    obtain ⟨k, e2⟩ := hk d (by simp)
    subst e1 e2
    refine ⟨k :: ks, ?_, rfl⟩
    cases h with
    | tup hp rs =>
      rename_i p vs
      have := reps_kD rs
      subst this
      exact ⟨⟨p, rfl, ex.tup hp⟩, h1⟩
theorem repT_zip {K : PySem.W.Frag} {G : Gh} : ∀ {ks : List (List Key)} {m : List D} {ys : List V}, Reps K G m ys → RepT K G ((ks.map kT).zip m) (ks.zip ys)
  | [], _, _, _ => by simp only [List.map_nil, List.zip_nil_left]; exact .nil
  | _ :: _, _, _, .nil => by simp only [List.zip_nil_right]; exact .nil
  | k :: ks, _, _, .cons h r => .cons h (repT_zip r)
section
variable {X : Cx} {W : WX} {k : Nat} {e e2 : Expr} {ae ab : AE} {p p2 pos pos2 : Pos}
def fDZip (a b : AE) : AFd := fun env st q er => a env st (fun x s1 => b env s1 (fun y s2 => ∃ l m, vw s2 x = .lst l ∧ vw s2 y = .lst m ∧ l.length = m.length ∧ (∀ k ∈ l, isKeyT k) ∧ l.Nodup ∧ q (l.zip m) s2) er) er
theorem axd_zip (C : CxE X W k) (hm : X.mg "dict" = none) (hmz : X.mg "zip" = none) (h : AX X W e ae) (h' : AX X W e2 ab) (hg : Gl X "dict" := by rfl) (hgz : Gl X "zip" := by rfl)
    (hs : starEach [e, e2] X.env = (false, eval e X.env) :: starEach [e2] X.env := by rfl) (hs2 : starEach [e2] X.env = [(false, eval e2 X.env)] := by rfl) (hpl : (backTo pos2 (starEach [e2] X.env)).any (·.1) = false := by rfl)
    (hs0 : starEach [.Call (.Name "zip" p2) [e, e2] [] pos2] X.env = (false, eval (.Call (.Name "zip" p2) [e, e2] [] pos2) X.env) :: starEach [] X.env := by rfl) (hpl0 : (backTo pos (starEach [] X.env)).any (·.1) = false := by rfl) :
    AXD X W (.Call (.Name "dict" p) [.Call (.Name "zip" p2) [e, e2] [] pos2] [] pos) (fDZip ae ab) := by
  obtain ⟨t, pe, r⟩ := h
  obtain ⟨t', pe', r'⟩ := h'
  refine ⟨_, pe_dictZip C.calm (by have := u64 C.room; omega) hg hm hgz hmz (pa_cons pe (pa_cons pe' pa_nil (by rw [hs2]; rfl)) (by rw [hs])) hs hpl hs0 hpl0, fun G env st σ H Q q er s sl a tE tX => ?_⟩
  refine r G env st σ H _ _ er s sl a (fun v d st2 G2 H2 p2 s2 r2 h2 => r' G2 env st2 σ H2 _ _ er s2 (sl.mono p2.le) h2 (fun v' d' st3 G3 H3 p3 s3 r3 h3 => ?_) (tX.on p2)) tX
  obtain ⟨l, m, hl, hm', hlen, hk, hnd, h3⟩ := h3
  have rx := (r2.mono p3.le).vw s3
  have ry := r3.vw s3
  rw [hl] at rx
  rw [hm'] at ry
  cases rx with
  | lst ha rs =>
    cases ry with
    | lst hb rs' =>
      obtain ⟨ks, hks, rfl⟩ := keysAt_of s3.ex rs hk
      refine ⟨_, _, _, _, ks, rfl, SqL.of ha, SqL.of hb, by rw [← rs.length, ← rs'.length]; exact hlen, hks, nodup_inv hnd, fun a hp => ?_⟩
      obtain ⟨s4, p4, na, ng⟩ := s3.room (o := .dT (ks.zip _)) hp
      have p23 := p2.trans p3
      refine tE _ _ st3 G3 _ (p23.trans p4) s4 ⟨a, rfl, ⟨_, upd_same, repT_zip rs'⟩, ng, na, ?_⟩ h3
      cases hh : H a with
      | none => rfl
      | some o => exact absurd hp (p23.m a (by rw [hh]; exact fun z => nomatch z))
end
end AM
set_option Elab.async false
set_option linter.all false
set_option maxRecDepth 100000
set_option maxHeartbeats 4000000
namespace AM
open PySem PySem.Spec PyProof.Rows L2 Evl
/-! ### list(zip(xs, ys)) -/
theorem zipNoLen : typeLookup (.type "zip") "__len__" = pure none := am_miss_of_fast (by decide +kernel)
theorem zipNoHint : typeLookup (.type "zip") "__length_hint__" = pure none := am_miss_of_fast (by decide +kernel)
/-- a zip ahead of its i-th turn; S is the list that grows -/
structure ZAt (z TI TO i1 i2 l1 l2 S : Addr) (xs ys : Array Value) (i : Nat) (h : Heap) : Prop where
  ti : IsTupOf2 h TI (.ref i1) (.ref i2)
  a1 : h.IsListIter i1 l1 i
  a2 : h.IsListIter i2 l2 i
  q1 : h.IsList l1 xs
  q2 : h.IsList l2 ys
  out : (IsZip h z TI TO .none ∧ ∃ a b, IsTupOf2 h TO a b) ∨ ∃ T f oT, IsZipHeld h z TI TO T f ∧ h.get? T = some oT ∧ T ≠ z ∧ T ≠ i1 ∧ T ≠ i2 ∧ T ≠ S
structure Off (S z TI TO i1 i2 l1 l2 : Addr) : Prop where
  z : S ≠ z
  ti : S ≠ TI
  to : S ≠ TO
  a1 : S ≠ i1
  a2 : S ≠ i2
  q1 : S ≠ l1
  q2 : S ≠ l2
section
variable {z TI TO i1 i2 l1 l2 S : Addr} {xs ys : Array Value} {i : Nat} {h h' : Heap}
theorem ZAt.keep (o : Off S z TI TO i1 i2 l1 l2) (st : ZAt z TI TO i1 i2 l1 l2 S xs ys i h) (k : ∀ b u, b ≠ S → h.get? b = some u → h'.get? b = some u) : ZAt z TI TO i1 i2 l1 l2 S xs ys i h' := by
  refine ⟨k _ _ (Ne.symm o.ti) st.ti, st.a1.at fun u e => k _ u (Ne.symm o.a1) e, st.a2.at fun u e => k _ u (Ne.symm o.a2) e, st.q1.at fun u e => k _ u (Ne.symm o.q1) e, st.q2.at fun u e => k _ u (Ne.symm o.q2) e, ?_⟩
  rcases st.out with ⟨hz, a, b, e⟩ | ⟨T, f, oT, hz, hT, r1, r2, r3, r4⟩
  · exact .inl ⟨k _ _ (Ne.symm o.z) hz, a, b, k _ _ (Ne.symm o.to) e⟩
  · exact .inr ⟨T, f, oT, k _ _ (Ne.symm o.z) hz, k _ _ r4 hT, r1, r2, r3, r4⟩
end
section
variable {prog : Program} {w : World} {A : Around} {E : Value → Shared → Prop} {s : Shared} {z TI TO i1 i2 l1 l2 S : Addr} {xs ys : Array Value} {i : Nat}
theorem zat_next {x y : Value} {Q : Option Value → Shared → Prop} (D : ZipApart z TI TO i1 i2 l1 l2) (hS : S < s.heap.objs.size) (st : ZAt z TI TO i1 i2 l1 l2 S xs ys i s.heap) (ex : xs[i]? = some x) (ey : ys[i]? = some y)
    (hQ : ∀ h', ZAt z TI TO i1 i2 l1 l2 S xs ys (i + 1) h' → IsTupOf2 h' s.heap.objs.size x y → (∀ c o, c ∉ [z, TI, TO, i1, i2] → s.heap.get? c = some o → h'.get? c = some o) → Q (some (.ref s.heap.objs.size)) { s with heap := h' }) :
    wpAny (model prog w) A (pyNext (.ref z)) Q E s := by
  have lt : ∀ {c o}, s.heap.get? c = some o → s.heap.objs.size ≠ c := fun e => Nat.ne_of_gt (Heap.lt_size e)
  have n1 : s.heap.objs.size ≠ i1 := let ⟨_, e, _⟩ := st.a1; lt e
  have n2 : s.heap.objs.size ≠ i2 := let ⟨_, e, _⟩ := st.a2; lt e
  rcases st.out with ⟨hz, a, b, e⟩ | ⟨T, f, oT, hz, hT, r1, r2, r3, r4⟩
  · refine wpAny_pyNext_zip_item D hz st.ti e st.a1 st.a2 st.q1 st.q2 ex ey fun h' b1 b2 b3 b4 b5 b6 hk => ?_
    exact hQ h' ⟨hk _ _ D.TIz D.TITO D.TIi1 D.TIi2 st.ti, b3, b4, st.q1.at fun o e => hk _ o D.l1z D.l1TO D.l1i1 D.l1i2 e, st.q2.at fun o e => hk _ o D.l2z D.l2TO D.l2i1 D.l2i2 e,
      .inr ⟨_, false, _, b1, b5, lt hz, n1, n2, Nat.ne_of_gt hS⟩⟩ b5 fun c o hc e => hk c o (fun x => hc (by simp [x])) (fun x => hc (by simp [x])) (fun x => hc (by simp [x])) (fun x => hc (by simp [x])) e
  · refine wpAny_pyNext_zip_item_held D hz hT st.ti st.a1 st.a2 st.q1 st.q2 ex ey fun h' b1 b3 b4 b5 b6 hk => ?_
    exact hQ h' ⟨hk _ _ D.TIz D.TIi1 D.TIi2 st.ti, b3, b4, st.q1.at fun o e => hk _ o D.l1z D.l1i1 D.l1i2 e, st.q2.at fun o e => hk _ o D.l2z D.l2i1 D.l2i2 e,
      .inr ⟨T, true, oT, b1, hk _ _ r1 r2 r3 hT, r1, r2, r3, r4⟩⟩ b5 fun c o hc e => hk c o (fun x => hc (by simp [x])) (fun x => hc (by simp [x])) (fun x => hc (by simp [x])) e
theorem zat_end {Q : Option Value → Shared → Prop} (hh : A.handled = none) (D : ZipApart z TI TO i1 i2 l1 l2) (st : ZAt z TI TO i1 i2 l1 l2 S xs ys i s.heap) (he : xs[i]? = none ∨ ys[i]? = none)
    (hQ : ∀ h', (∀ c o, c ∉ [z, TI, TO, i1, i2] → s.heap.get? c = some o → h'.get? c = some o) → Q none { s with heap := h' }) : wpAny (model prog w) A (pyNext (.ref z)) Q E s := by
  rcases st.out with ⟨hz, a, b, e⟩ | ⟨T, f, oT, hz, hT, r1, r2, r3, r4⟩
  · exact wpAny_pyNext_zip_end hh D hz st.ti e st.a1 st.a2 st.q1 st.q2 he fun h' hk => hQ h' fun c o hc e => hk c o (fun x => hc (by simp [x])) (fun x => hc (by simp [x])) (fun x => hc (by simp [x])) (fun x => hc (by simp [x])) e
  · exact wpAny_pyNext_zip_end_held hh D hz hT st.ti st.a1 st.a2 st.q1 st.q2 he fun h' hk => hQ h' fun c o hc e => hk c o (fun x => hc (by simp [x])) (fun x => hc (by simp [x])) (fun x => hc (by simp [x])) e
end
theorem mapSeq_push {its : List Value} {n : Nat} {v : Value} : ∃ c, Obj.mapSeq (·.push v) { cls := .type "list", data := .seq its.toArray n } = { cls := .type "list", data := .seq (its ++ [v]).toArray c } :=
  ⟨_, by rw [show (its ++ [v]).toArray = its.toArray.push v from by simp]; rfl⟩
theorem Vals.app : ∀ {xs ys : List V} {us ws : List Value}, Vals xs us → Vals ys ws → Vals (xs ++ ys) (us ++ ws)
  | _, _, _, _, .nil, s => s
  | _, _, _, _, .cons h r, s => .cons h (Vals.app r s)
/-- what has been gathered: new tuples -/
structure Got (xs ys : List V) (H0 : Hp) (S : Addr) (i : Nat) (ts : List Addr) (H : Hp) : Prop where
  len : ts.length = i
  old : ∀ b o, H0 b = some o → H b = some o
  at_ : H S = some (.lst (ts.map V.ref))
  new : ∀ t ∈ ts, H0 t = none ∧ t ≠ S
  nd : ts.Nodup
  tup : ∀ (j : Nat) (t : Addr), ts[j]? = some t → ∃ x y, xs[j]? = some x ∧ ys[j]? = some y ∧ H t = some (.tup [x, y])
section
variable {X : Cx} {pins : List (Addr × Obj)} {σ : L2.St} {z TI TO i1 i2 l1 l2 S : Addr} {xs ys : List V} {us ws : List Value} {H0 : Hp}
theorem zip_loop {A : Around} {R : Result → Shared → Prop} {res : Value} (hh : A.handled = none) (D : ZipApart z TI TO i1 i2 l1 l2) (O : Off S z TI TO i1 i2 l1 l2) (hS0 : H0 S = none) (rx : Vals xs us) (ry : Vals ys ws) (hl : xs.length = ys.length) (hz : xs.length ≤ sizeLine)
    (hR : ∀ s H ts, Inv X pins σ H s → Got xs ys H0 S xs.length ts H → R (.ok (.ret res)) s) :
    ∀ (k i : Nat) (s : Shared) (H : Hp) (ts : List Addr), xs.length - i = k → i ≤ xs.length → Inv X pins σ H s → Got xs ys H0 S i ts H → ZAt z TI TO i1 i2 l1 l2 S us.toArray ws.toArray i s.heap → (∀ b ∈ [z, TI, TO, i1, i2], FpOk X pins H b ∧ b < s.heap.objs.size) →
      codeAny (model X.prog X.w) A (.builtin "list.extend.loop" ⟨[.ref S, .ref z, res], []⟩) R s := by
  have hul := rx.length
  have hwl := ry.length
  intro k
  induction k with
  | zero =>
    intro i s H ts hk hi I g st hf
    refine codeAny_builtin PySem.F.entry_extend_loop ?_
    rw [Around.under_plainId PySem.F.plain_extend_loop _]
    show wpAny _ A.in1 (pyNext (.ref z) >>= _) _ _ _
    refine wpAny_bind (zat_end hh D st (.inl (by simp; omega)) fun h' hkp => ?_)
    have : i = xs.length := by omega
    subst this
    exact wpAny_pure (hR _ H ts (I.turnedL (t' := s.toks) (ch := [z, TI, TO, i1, i2]) hkp fun b hb => (hf b hb).1) g)
  | succ k ih =>
    intro i s H ts hk hi I g st hf
    have hlt : i < xs.length := by omega
    obtain ⟨its, n, rv, hS, _⟩ : ∃ its n, Vals (ts.map V.ref) its ∧ s.heap.get? S = some { cls := .type "list", data := .seq its.toArray n } ∧ True := by
      obtain ⟨_, its, n, h1, h2⟩ := (show ObjOk X.prog X.w H s.heap S (.lst (ts.map V.ref)) from I.hok S _ g.at_)
      exact ⟨its, n, h1, h2, trivial⟩
    have hitl : its.length = i := by rw [← rv.length, List.length_map, g.len]
    have hSl : S < s.heap.objs.size := Heap.lt_size hS
    refine codeAny_builtin PySem.F.entry_extend_loop ?_
    rw [Around.under_plainId PySem.F.plain_extend_loop _]
    show wpAny _ A.in1 (pyNext (.ref z) >>= _) _ _ _
    have ex : us.toArray[i]? = some (us[i]'(by omega)) := by simp
    have ey : ws.toArray[i]? = some (ws[i]'(by omega)) := by simp
    obtain ⟨x, hx, rxi⟩ : ∃ x, xs[i]? = some x ∧ RelV x (us[i]'(by omega)) := by
      have e := List.getElem?_eq_getElem hlt
      obtain ⟨u, hu, ru⟩ := rx.get e
      rw [List.getElem?_eq_getElem (by omega)] at hu
      cases hu
      exact ⟨_, e, ru⟩
    obtain ⟨y, hy, ryi⟩ : ∃ y, ys[i]? = some y ∧ RelV y (ws[i]'(by omega)) := by
      have e := List.getElem?_eq_getElem (show i < ys.length by omega)
      obtain ⟨u, hu, ru⟩ := ry.get e
      rw [List.getElem?_eq_getElem (by omega)] at hu
      cases hu
      exact ⟨_, e, ru⟩
    refine wpAny_bind (zat_next D hSl st ex ey fun h' st' hT hkp => ?_)
    have nS : S ∉ [z, TI, TO, i1, i2] := by simp [O.z, O.ti, O.to, O.a1, O.a2]
    have hT0 : H s.heap.objs.size = none := I.hok.fresh (Nat.le_refl _)
    have I1 : Inv X pins σ (upd H s.heap.objs.size (.tup [x, y])) { s with heap := h' } := I.turnedNew (t' := s.toks) (ch := [z, TI, TO, i1, i2]) hkp (fun b hb => (hf b hb).1) (Nat.le_refl _) ⟨by show 2 ≤ sizeLine; decide, [_, _], .cons rxi (.cons ryi .nil), ⟨_, hT, rfl, _, rfl⟩⟩
    have hS' := hkp S _ nS hS
    have up : ∀ b o, b ≠ S → h'.get? b = some o → (h'.update S (Obj.mapSeq (·.push (Value.ref s.heap.objs.size)))).get? b = some o := fun b o hb e => (Heap.get?_update_other _ _ (Ne.symm hb)).trans e
    have hS2 := Heap.get?_update_self (Obj.mapSeq (·.push (Value.ref s.heap.objs.size))) hS' rfl
    have neS : s.heap.objs.size ≠ S := Nat.ne_of_gt hSl
    have hSH : (upd H s.heap.objs.size (.tup [x, y])) S = some (.lst (ts.map V.ref)) := by rw [upd_ne (Ne.symm neS)]; exact g.at_
    show wpAny _ A.in1 (updateSeq S (·.push (Value.ref s.heap.objs.size)) >>= _) _ _ _
    refine wpAny_bind (wpAny_updateSeq hS' rfl (wpAny_pure ⟨plainId_quiet PySem.F.plain_extend_loop _, ?_⟩) (by simp; omega) (by simp; omega))
    have tne : ∀ t ∈ ts, t ≠ s.heap.objs.size := fun t ht e => by
      obtain ⟨j, hj⟩ := List.mem_iff_getElem?.mp ht
      obtain ⟨_, _, _, _, e1⟩ := g.tup j t hj
      rw [e, hT0] at e1
      cases e1
    have hT2 := up _ _ neS hT
    refine ih (i + 1) _ (upd (upd H s.heap.objs.size (.tup [x, y])) S (.lst ((ts ++ [s.heap.objs.size]).map V.ref))) (ts ++ [s.heap.objs.size]) (by omega) hlt ?_ ?_ (st'.keep O up) ?_
    · refine I1.write (x := S) (e := S) (t' := s.toks) (by rw [hSH]; exact True.intro) (.inl rfl) up ⟨_, hS2⟩ ?_
      obtain ⟨c, ec⟩ := mapSeq_push (its := its) (n := n) (v := Value.ref s.heap.objs.size)
      refine ⟨by simp [g.len]; omega, its ++ [Value.ref s.heap.objs.size], c, ?_, hS2.trans (congrArg some ec)⟩
      rw [List.map_append]
      exact Vals.app rv (.cons rfl .nil)
    · refine ⟨by simp [g.len], fun b o e => ?_, upd_same, fun t ht => ?_, ?_, fun j t hj => ?_⟩
      · have hb := g.old b o e
        rw [upd_ne (fun q => by rw [q, hS0] at e; cases e), upd_ne (fun q => by rw [q, hT0] at hb; cases hb)]
        exact hb
      · rcases List.mem_append.mp ht with ht | ht
        · exact g.new t ht
        · obtain rfl : t = s.heap.objs.size := by simpa using ht
          refine ⟨?_, neS⟩
          cases e : H0 s.heap.objs.size with
          | none => rfl
          | some o => rw [g.old _ _ e] at hT0; cases hT0
      · rw [List.nodup_append]
        exact ⟨g.nd, by simp, fun a ha b hb => by obtain rfl : b = s.heap.objs.size := by simpa using hb
                                                  exact tne a ha⟩
      · by_cases hjl : j < ts.length
        · rw [List.getElem?_append_left hjl] at hj
          obtain ⟨x', y', e1, e2, e3⟩ := g.tup j t hj
          have hm := List.mem_of_getElem? hj
          refine ⟨x', y', e1, e2, ?_⟩
          rw [upd_ne (g.new t hm).2, upd_ne (tne t hm)]
          exact e3
        · have hlt2 := (List.getElem?_eq_some_iff.mp hj).1
          have hj2 : j = ts.length := by simp at hlt2; omega
          subst hj2
          obtain rfl : s.heap.objs.size = t := by simpa using hj
          rw [g.len]
          refine ⟨x, y, hx, hy, ?_⟩
          rw [upd_ne neS, upd_same]
    · intro b hb
      have hbl := (hf b hb).2
      refine ⟨⟨?_, (hf b hb).1.2⟩, Nat.lt_trans hbl (Heap.lt_size hT2)⟩
      rw [upd_ne (fun q => nS (by rw [← q]; exact hb)), upd_ne (Nat.ne_of_lt hbl)]
      exact (hf b hb).1.1
theorem call_listZip {A : Around} {E : Value → Shared → Prop} {s : Shared} {H : Hp} {Q : Value → Shared → Prop} (hh : A.handled = none) (D : ZipApart z TI TO i1 i2 l1 l2) (rx : Vals xs us) (ry : Vals ys ws) (hl : xs.length = ys.length) (hz : xs.length ≤ sizeLine) (I : Inv X pins σ H s) (hz0 : IsZip s.heap z TI TO .none)
    (st : ∀ S, S = s.heap.objs.size → ZAt z TI TO i1 i2 l1 l2 S us.toArray ws.toArray 0 s.heap) (hf : ∀ b ∈ [z, TI, TO, i1, i2], FpOk X pins H b ∧ b < s.heap.objs.size)
    (hq : ∀ s' H' ts, Inv X pins σ H' s' → Got xs ys H s.heap.objs.size xs.length ts H' → Q (.ref s.heap.objs.size) s') : wpAny (model X.prog X.w) A (call (.type "list") [.ref z]) Q E s := by
  generalize hSe : s.heap.objs.size = S at st hq
  have st := st S rfl
  have lt : ∀ {c o}, s.heap.get? c = some o → S ≠ c := fun e => by rw [← hSe]; exact Nat.ne_of_gt (Heap.lt_size e)
  have O : Off S z TI TO i1 i2 l1 l2 := by
    have hz : ∃ o, s.heap.get? z = some o := by
      rcases st.out with ⟨e, _⟩ | ⟨_, _, _, e, _⟩
      · exact ⟨_, e⟩
      · exact ⟨_, e⟩
    obtain ⟨_, ez⟩ := hz
    obtain ⟨_, e1, _⟩ := st.a1
    obtain ⟨_, e2, _⟩ := st.a2
    obtain ⟨_, e3, _⟩ := st.q1
    obtain ⟨_, e4, _⟩ := st.q2
    exact ⟨lt ez, lt st.ti, fun e => absurd (hf TO (by simp)).2 (by rw [← e, ← hSe]; exact Nat.lt_irrefl _), lt e1, lt e2, lt e3, lt e4⟩
  have hH : H S = none := I.hok.fresh (Nat.le_of_eq hSe)
  have loop : ∀ (h : Heap) (c : Nat), (∀ b o, b ≠ S → s.heap.get? b = some o → h.get? b = some o) → h.get? S = some { cls := .type "list", data := .seq #[] c } → ∀ {A : Around} {R : Result → Shared → Prop}, A.handled = none → (∀ s' H' ts, Inv X pins σ H' s' → Got xs ys H S xs.length ts H' → R (.ok (.ret .none)) s') →
      codeAny (model X.prog X.w) A (.builtin "list.extend.loop" ⟨[.ref S, .ref z, .none], []⟩) R { s with heap := h } := fun h c hk hS {A R} hh hR => by
    have I1 : Inv X pins σ (upd H S (.lst [])) { s with heap := h } := I.laid (t' := s.toks) (fun b u e => hk b u (fun q => lt e q.symm) e) (Nat.le_of_eq hSe) ⟨by show 0 ≤ _; omega, [], c, .nil, hS⟩
    have low : S < h.objs.size := Heap.lt_size hS
    refine zip_loop hh D O hH rx ry hl hz hR xs.length 0 _ _ [] (by omega) (by omega) I1 ⟨rfl, fun b o e => ?_, upd_same, by simp, by simp, by simp⟩ (st.keep O hk) fun b hb => ?_
    · rw [upd_ne (fun q => by rw [q, hH] at e; cases e)]
      exact e
    · have hbl : b < S := by rw [← hSe]; exact (hf b hb).2
      refine ⟨⟨?_, (hf b hb).1.2⟩, Nat.lt_trans hbl low⟩
      rw [upd_ne (Nat.ne_of_lt hbl)]
      exact (hf b hb).1.1
  refine callType_codes (Q₁ := fun obj s₁ => obj = .ref s.heap.objs.size ∧ s₁ = { s with heap := s.heap.push { cls := .type "list", data := .seq #[] } }) PySem.F.called_list (PySem.F.typeCall_list_1 _) PySem.F.entry_list_init (code_list_new _ ⟨rfl, rfl⟩) fun obj s₁ h₁ => ?_
  obtain ⟨rfl, rfl⟩ := h₁
  rw [hSe]
  have hS : (s.heap.push { cls := .type "list", data := .seq #[] }).get? S = some { cls := .type "list", data := .seq #[] } := by rw [← hSe]; exact Heap.get?_push_size _ rfl
  refine ⟨⟨_, hS, rfl⟩, PySem.F.args_list_init_2 _ _, ?_⟩
  have kp : ∀ (h : Heap) f, (∀ b o, b ≠ S → s.heap.get? b = some o → h.get? b = some o) → ∀ b o, b ≠ S → s.heap.get? b = some o → (h.update S f).get? b = some o := fun h f k b o hb e => (Heap.get?_update_other _ _ (Ne.symm hb)).trans (k b o hb e)
  have k0 : ∀ b o, b ≠ S → s.heap.get? b = some o → (s.heap.push { cls := .type "list", data := .seq #[] }).get? b = some o := fun b o _ e => Heap.get?_push_of_some _ e
  show wpAny _ _ (Builtin.List.listItems (.ref S) >>= fun old => Builtin.List.listUpdate (.ref S) (fun _ => #[]) >>= fun _ => letGo old.toList.reverse >>= fun _ => Builtin.List.listExtendWith (.ref S) (.ref z) .none) _ _ _
  refine wpAny_bind ?_
  unfold Builtin.List.listItems
  refine wpAny_bind (wpAny_seqItems hS rfl (wpAny_pure ?_))
  show wpAny _ _ (updateSeq S (fun _ => #[]) >>= fun _ => letGo (#[] : Array Value).toList.reverse >>= fun _ => Builtin.List.listExtendWith (.ref S) (.ref z) .none) _ _ _
  refine wpAny_bind (wpAny_updateSeq hS rfl ?_)
  have hS2 := Heap.get?_update_self (Obj.mapSeq (fun _ => (#[] : Array Value))) hS rfl
  have k1 := kp _ (Obj.mapSeq (fun _ => (#[] : Array Value))) k0
  have hz1 := k1 z _ (Ne.symm O.z) hz0
  refine wpAny_bind (wpAny_letGo ?_)
  unfold Builtin.List.listExtendWith
  refine wpAny_bind (wpAny_typeOf (T := "zip") ⟨_, hz1, rfl⟩ ?_)
  have n1 : Builtin.List.listSameRef (.ref S) (.ref z) = false := by simp [Builtin.List.listSameRef, O.z]
  have n2 : (Value.type "zip" == Value.type "list") = false := by decide
  have n3 : (Value.type "zip" == Value.type "tuple") = false := by decide
  simp only [n1, n2, n3, Bool.or_false, Bool.false_eq_true, if_false]
  refine wpAny_bind (wpAny_pyIter_zip hz1 ?_)
  refine wpAny_bind (wpAny_holding ?_)
  unfold Builtin.List.listLengthHint
  refine wpAny_bind (wpAny_specialOf (T := "zip") ⟨_, hz1, rfl⟩ zipNoLen ?_)
  show wpAny _ _ (specialOf (Value.ref z) (Str.ofString "__length_hint__") >>= _) _ _ _
  refine wpAny_bind (wpAny_specialOf (T := "zip") ⟨_, hz1, rfl⟩ zipNoHint ?_)
  refine wpAny_pure ?_
  refine wpAny_ite_split (fun _ => ?_) (fun _ => wpAny_pure ⟨plainId_quiet PySem.F.plain_extend_loop _, loop _ _ k1 hS2 hh fun s' H' ts I' g => ⟨rfl, hq s' H' ts I' g⟩⟩)
  refine wpAny_bind (wpAny_rule ?_)
  refine wpAny_bind ?_
  show wpAny _ _ (updateSeq S (·.push .none) >>= fun _ => updateSeq S (·.pop)) _ _ _
  refine wpAny_bind (wpAny_updateSeq hS2 rfl ?_)
  have hS3 := Heap.get?_update_self (Obj.mapSeq (·.push Value.none)) hS2 rfl
  have k2 := kp _ (Obj.mapSeq (·.push Value.none)) k1
  refine wpAny_updateSeq (hz := by seq_fits) hS3 rfl ?_
  have hS4 := Heap.get?_update_self (Obj.mapSeq (·.pop)) hS3 rfl
  have k3 := kp _ (Obj.mapSeq (·.pop)) k2
  exact wpAny_pure ⟨plainId_quiet PySem.F.plain_extend_loop _, loop _ _ k3 hS4 hh fun s' H' ts I' g => ⟨rfl, hq s' H' ts I' g⟩⟩
end
def tLZip (K : PySem.W.Frag) (ta : TA) : TE := fun σ H Q => ta σ H fun vs H1 => ∃ (a b : Addr) (xs ys : List V), vs = [.ref a, .ref b] ∧ SqL K H1 a xs ∧ SqL K H1 b ys ∧ xs.length = ys.length ∧ ∀ p H' ts, H1 p = none → Got xs ys H1 p xs.length ts H' → Q (.ref p) H'
theorem pe_listZip {X : Cx} {e e2 : Expr} {ta : TA} {p p2 pos pos2 : Pos} (hc : X.calm = true) (hg : Gl X "list") (hm : X.mg "list" = none) (hgz : Gl X "zip") (hmz : X.mg "zip" = none) (ha : PA X [e, e2] ta)
    (hs : starEach [e, e2] X.env = (false, eval e X.env) :: starEach [e2] X.env := by rfl) (hpl : (backTo pos2 (starEach [e2] X.env)).any (·.1) = false := by rfl)
    (hs0 : starEach [.Call (.Name "zip" p2) [e, e2] [] pos2] X.env = (false, eval (.Call (.Name "zip" p2) [e, e2] [] pos2) X.env) :: starEach [] X.env := by rfl) (hpl0 : (backTo pos (starEach [] X.env)).any (·.1) = false := by rfl) :
    PE X (.Call (.Name "list" p) [.Call (.Name "zip" p2) [e, e2] [] pos2] [] pos) (tLZip X.K ta) := by
  refine ⟨fun pins s σ H Q I h => ?_⟩
  refine Call_ (ld_blt I hg hm PyProof.Rows.boot_list (PyProof.Rows.callWith_type1 ?_ hs0 hpl0))
  rw [hs0]
  show wpAny _ _ (spliced ((false, eval (.Call (.Name "zip" p2) [e, e2] [] pos2) X.env) :: backTo pos (starEach [] X.env))) _ _ s
  refine Calls.spliced_cons ?_
  refine Call_ (ld_blt I hgz hmz PyProof.Rows.boot_zip (PyProof.Rows.callWith_type1 (thn (ha.run pos2 pins s σ H _ I h) fun us s1 ⟨vs, H1, I1, r1, q1⟩ => ?_) hs hpl))
  obtain ⟨a, b, xs, ys, ex, hqx, hqy, hlen, q⟩ := q1
  subst ex
  cases r1 with
  | cons r rr =>
    cases rr with
    | cons r' rr =>
      cases rr
      cases r
      cases r'
      obtain ⟨its, rv, p1, hz1, la⟩ := inv_sq (t := false) I1 hqx
      obtain ⟨its2, rv2, p2', hz2, lb⟩ := inv_sq (t := false) I1 hqy
      refine zip_begins2 (begins_sq (t := false) a its.toArray) (begins_sq (t := false) b its2.toArray) p1 p2' fun h' hz hTI hTO h1 h2 hsz hkp => ?_
      refine Calls.spliced_nil ?_
      have I2 : Inv X pins σ H1 { s1 with heap := h' } := I1.kept (t' := s1.toks) hkp
      have g1 : h'.IsList a its.toArray := by
        obtain ⟨o, g1, g2⟩ := (show s1.heap.IsList a _ from p1)
        exact ⟨o, hkp _ _ g1, g2⟩
      have g2 : h'.IsList b its2.toArray := by
        obtain ⟨o, g1, g2⟩ := (show s1.heap.IsList b _ from p2')
        exact ⟨o, hkp _ _ g1, g2⟩
      refine call_listZip (I1.ok.hd hc) (zip_apart la lb) rv rv2 hlen hz1 I2 hz (fun S _ => ⟨hTI, ⟨_, h1, rfl, rfl⟩, ⟨_, h2, rfl, rfl⟩, g1, g2, .inl ⟨hz, _, _, hTO⟩⟩) (fun c hcm => ?_) fun s' H' ts I' g => ⟨.ref _, H', I', rfl, q _ H' ts (I2.hok.fresh (Nat.le_refl _)) g⟩
      have e' : c = s1.heap.objs.size + 4 ∨ c = s1.heap.objs.size + 2 ∨ c = s1.heap.objs.size + 3 ∨ c = s1.heap.objs.size ∨ c = s1.heap.objs.size + 1 := by simpa using hcm
      have hle : s1.heap.objs.size ≤ c ∧ c < h'.objs.size := by
        rcases e' with z | z | z | z | z
        · rw [z, hsz]; exact ⟨Nat.le_add_right _ _, Nat.add_lt_add_left (by decide) _⟩
        · rw [z, hsz]; exact ⟨Nat.le_add_right _ _, Nat.add_lt_add_left (by decide) _⟩
        · rw [z, hsz]; exact ⟨Nat.le_add_right _ _, Nat.add_lt_add_left (by decide) _⟩
        · rw [z, hsz]; exact ⟨Nat.le_refl _, Nat.lt_add_of_pos_right (by decide)⟩
        · rw [z, hsz]; exact ⟨Nat.le_add_right _ _, Nat.add_lt_add_left (by decide) _⟩
      exact ⟨I1.fpOk hle.1 (I1.hok.fresh hle.1), hle.2⟩
/-! ### its reading -/
section
variable {K : PySem.W.Frag} {G G2 : Gh} {H H2 : Hp} {st : S}
theorem SS.ext (s : SS K G st H) (k : ∀ b o, H b = some o → H2 b = some o) : SS K G st H2 ∧ Post G H G H2 :=
  ⟨⟨fun a o e => by
    rcases s.ex a o e with e2 | ⟨ob, kvs, z, e2⟩
    · exact .inl (k a o e2)
    · exact .inr ⟨ob, kvs, z, k a _ e2⟩, s.len, s.nd, fun n c q e1 e2 => (s.cell n c q e1 e2).mono (Gh.le.refl G) (fun u e => k q u e) (fun _ e => e)⟩, ⟨Gh.le.refl G, fun x u e _ => .inl (k x u e), fun x e _ _ => e, fun x z => .inl z, (fun x h z => by
    cases e : H x with
    | none => exact h e
    | some o => rw [k x o e] at z; cases z), fun x o u _ e => k x _ e⟩⟩
/-- new tuples are frozen, one after the other -/
theorem frz_tups {G0 : Gh} : ∀ (ts : List Addr) (os : List HO) {G : Gh}, SS K G st H2 → Post G0 H G H2 → ts.length = os.length → ts.Nodup → (∀ t ∈ ts, H t = none ∧ G.g t = none ∧ t ∉ G.as) → (∀ (j : Nat) (t : Addr) (o : HO), ts[j]? = some t → os[j]? = some o → H2 t = some o) →
    ∃ G3, SS K G3 st H2 ∧ Post G0 H G3 H2 ∧ G.le G3 ∧ G3.as = G.as ∧ (∀ b, b ∉ ts → G3.g b = G.g b) ∧ ∀ (j : Nat) (t : Addr) (o : HO), ts[j]? = some t → os[j]? = some o → G3.g t = some o
  | [], _, G, s, p, _, _, _, _ => ⟨G, s, p, Gh.le.refl G, rfl, fun _ _ => rfl, fun j t o h => by simp at h⟩
  | _ :: _, [], _, _, _, h, _, _, _ => by simp at h
  | t :: ts, o :: os, G, s, p, hl, nd, hn, ho => by
    rw [List.nodup_cons] at nd
    obtain ⟨h1, h2, h3⟩ := hn t (by simp)
    have e := ho 0 t o rfl rfl
    obtain ⟨s1, le1⟩ := s.freeze e h2 h3
    obtain ⟨G3, s3, p3, le3, as3, off3, at3⟩ := frz_tups ts os s1 (p.freeze h2 h1) (by simpa using hl) nd.2 (fun x hx => ⟨(hn x (by simp [hx])).1, by
      show (upd G.g t o) x = none
      rw [upd_ne (fun q => nd.1 (by rw [← q]; exact hx))]
      exact (hn x (by simp [hx])).2.1, (hn x (by simp [hx])).2.2⟩) fun j x u e1 e2 => ho (j + 1) x u (by simpa using e1) (by simpa using e2)
    refine ⟨G3, s3, p3, le1.trans le3, as3, fun b hb => ?_, fun j x u e1 e2 => ?_⟩
    · rw [off3 b (fun q => hb (by simp [q]))]
      exact upd_ne (fun q => hb (by simp [q]))
    · cases j with
      | zero =>
        simp at e1 e2
        subst e1 e2
        rw [off3 _ nd.1]
        exact upd_same
      | succ j => exact at3 j x u (by simpa using e1) (by simpa using e2)
theorem reps_zip {G3 : Gh} : ∀ {l m : List D} {xs ys : List V} {ts : List Addr}, Reps K G3 l xs → Reps K G3 m ys → ts.length = xs.length → xs.length = ys.length → (∀ (j : Nat) (t : Addr) (x y : V), ts[j]? = some t → xs[j]? = some x → ys[j]? = some y → G3.g t = some (.tup [x, y])) → Reps K G3 (zipD l m) (ts.map V.ref)
  | _, _, _, _, [], .nil, _, _, _, _ => by unfold zipD; simp; exact .nil
  | _, _, _, _, t :: ts, .cons h r, .cons h2 r2, e1, e2, hg => .cons (.tup (hg 0 t _ _ rfl rfl rfl) (.cons h (.cons h2 .nil))) (reps_zip r r2 (by simpa using e1) (by simpa using e2) fun j t' x y a b c => hg (j + 1) t' x y (by simpa using a) (by simpa using b) (by simpa using c))
  | _, _, _, _, _ :: _, .nil, _, e1, _, _ => by simp at e1
  | _, _, _, _, [], .cons _ _, _, e1, _, _ => by simp at e1
  | _, _, _, _, _ :: _, .cons _ _, .nil, _, e2, _ => by simp at e2
end
section
variable {X : Cx} {W : WX} {k : Nat} {e e2 : Expr} {ae ab : AE} {p p2 pos pos2 : Pos}
def fLZip (a b : AE) : AFr := fun env st q er => a env st (fun x s1 => b env s1 (fun y s2 => ∃ l m, vw s2 x = .lst l ∧ vw s2 y = .lst m ∧ l.length = m.length ∧ q (zipD l m) s2) er) er
theorem axf_lzip (C : CxE X W k) (hm : X.mg "list" = none) (hmz : X.mg "zip" = none) (h : AX X W e ae) (h' : AX X W e2 ab) (hg : Gl X "list" := by rfl) (hgz : Gl X "zip" := by rfl)
    (hs : starEach [e, e2] X.env = (false, eval e X.env) :: starEach [e2] X.env := by rfl) (hs2 : starEach [e2] X.env = [(false, eval e2 X.env)] := by rfl) (hpl : (backTo pos2 (starEach [e2] X.env)).any (·.1) = false := by rfl)
    (hs0 : starEach [.Call (.Name "zip" p2) [e, e2] [] pos2] X.env = (false, eval (.Call (.Name "zip" p2) [e, e2] [] pos2) X.env) :: starEach [] X.env := by rfl) (hpl0 : (backTo pos (starEach [] X.env)).any (·.1) = false := by rfl) :
    AXF X W (.Call (.Name "list" p) [.Call (.Name "zip" p2) [e, e2] [] pos2] [] pos) (fLZip ae ab) := by
  obtain ⟨t, pe, r⟩ := h
  obtain ⟨t', pe', r'⟩ := h'
  refine ⟨_, pe_listZip C.calm hg hm hgz hmz (pa_cons pe (pa_cons pe' pa_nil (by rw [hs2]; rfl)) (by rw [hs])) hs hpl hs0 hpl0, fun G env st σ H Q q er s sl a tE tX => ?_⟩
  refine r G env st σ H _ _ er s sl a (fun v d st2 G2 H2 p2 s2 r2 h2 => r' G2 env st2 σ H2 _ _ er s2 (sl.mono p2.le) h2 (fun v' d' st3 G3 H3 p3 s3 r3 h3 => ?_) (tX.on p2)) tX
  obtain ⟨l, m, hl, hm', hlen, h3⟩ := h3
  have rx := (r2.mono p3.le).vw s3
  have ry := r3.vw s3
  rw [hl] at rx
  rw [hm'] at ry
  cases rx with
  | lst ha rs =>
    cases ry with
    | lst hb rs' =>
      rename_i pa vs pb vs'
      have hlv : vs.length = vs'.length := by rw [← rs.length, ← rs'.length]; exact hlen
      refine ⟨_, _, vs, vs', rfl, SqL.of ha, SqL.of hb, hlv, fun a H' ts hp g => ?_⟩
      obtain ⟨s4, p4⟩ := s3.ext g.old
      obtain ⟨_, _, na, ng⟩ := s3.room (o := .lst []) hp
      have tl := g.len
      obtain ⟨G5, s5, p5, le5, as5, off5, at5⟩ := frz_tups (H := H3) ts (List.zipWith (fun x y => HO.tup [x, y]) vs vs') s4 p4 (by simp; omega) g.nd (fun t ht => by
        obtain ⟨_, _, n1, n2⟩ := s3.room (o := .lst []) (g.new t ht).1
        exact ⟨(g.new t ht).1, n2, n1⟩) (fun j t o e1 e2 => by
        obtain ⟨x, y, f1, f2, f3⟩ := g.tup j t e1
        rw [List.getElem?_zipWith, f1, f2] at e2
        cases e2
        exact f3)
      have p23 := p2.trans p3
      have nat : a ∉ ts := fun hm => (g.new a hm).2 rfl
      refine tE _ _ st3 G5 H' (p23.trans p5) s5 ⟨a, _, rfl, g.at_, by rw [off5 a nat]; exact ng, by rw [as5]; exact na, ?_, reps_zip (rs.mono le5) (rs'.mono le5) (by omega) hlv fun j t x y e1 e2 e3 => at5 j t _ e1 (by rw [List.getElem?_zipWith, e2, e3])⟩ h3
      cases hh : H a with
      | none => rfl
      | some o => exact absurd hp (p23.m a (by rw [hh]; exact fun z => nomatch z))
end
end AM
set_option Elab.async false
set_option linter.all false
set_option maxRecDepth 100000
set_option maxHeartbeats 4000000
namespace AM
open PySem PySem.Spec PyProof.Rows L2 Evl
/-! ### l[i] += n, d[k] += n -/
section
variable {X : Cx}
theorem get_list : PGet X (rIxL X.K) := by
  intro pins s σ H x y v u Q I rx ry h
  obtain ⟨p, xs, i, z, rfl, rfl, hq, he, q⟩ := h
  cases rx
  obtain ⟨t, rfl⟩ := ry
  obtain ⟨its, r, pl, hz⟩ := I.list hq
  obtain ⟨j, h1, h2, h3, h4, h5⟩ := atI_get he
  obtain ⟨w, ew, rw'⟩ := r.get h2
  have hl := r.length
  have hn := line63
  have fin : EP X pins σ Q w s := ⟨z, H, I, rw', q⟩
  by_cases h0 : 0 ≤ i
  · have hj : i.toNat = j := by
      rw [seqIndex_of h0 h5] at h1
      exact Option.some.inj h1
    exact wpAny_getItem_list pl.isList h0 (by omega) (by rw [hj]; simpa using ew) fin
  · have hj : (i + (its.toArray.size : Int)).toNat = j := by
      rw [seqIndex_neg (by omega) h4] at h1
      rw [List.size_toArray, ← hl]
      exact Option.some.inj h1
    exact wpAny_getItem_list_neg pl.isList (by omega) (by rw [List.size_toArray] <;> omega) (by omega) (by rw [hj]; simpa using ew) fin
theorem get_dic (hu : X.A.units + 2 < cLine) : PGet X rIxDic := by
  intro pins s σ H x y v u Q I rx ry h
  obtain ⟨a, w, rfl, g, q⟩ := h
  obtain rfl : v = Value.ref a := rx
  exact d_getItem (by omega) I g ry fun w' s3 I3 rw' => ⟨w, H, I3, rw', q⟩
end
def sAugIx (o b a : AE) : AS := fun env st k => o env st (fun x s1 => b env s1 (fun j s2 => ∃ n i l v, x = .ref n ∧ j = .int i ∧ s2[n]? = some (.lst l) ∧ atI l i = some (.int v) ∧ a env s2 (fun y s3 => ∃ w l' j', y = .int w ∧ s3[n]? = some (.lst l') ∧ ixN l'.length i = some j' ∧ k.nx env (s3.set n (.lst (l'.set j' (.int (v + w)))))) (fun e s => k.er e env s)) (fun e s => k.er e env s)) (fun e s => k.er e env s)
def sAugDx (o b a : AE) : AS := fun env st k => o env st (fun x s1 => b env s1 (fun j s2 => ∃ n l v, x = .ref n ∧ isKeyT (vw s2 j) ∧ s2[n]? = some (.dic l) ∧ DLook l (vw s2 j) (.int v) ∧ a env s2 (fun y s3 => ∃ w l' l2, y = .int w ∧ s3[n]? = some (.dic l') ∧ keysT l' ∧ l'.length < 100000 ∧ vw s3 j = vw s2 j ∧ DPutD l' (vw s3 j) (.int (v + w)) l2 ∧ k.nx env (s3.set n (.dic l2))) (fun e s => k.er e env s)) (fun e s => k.er e env s)) (fun e s => k.er e env s)
section
variable {K : PySem.W.Frag} {W : WX}
theorem refS_augIx {ta to tb : TE} {aa ao ab : AE} (ha : RefE K W ta aa) (ho : RefE K W to ao) (hb : RefE K W tb ab) : RefS K W (tAugS to tb ta (rIxL K) (ipI fun i j => i + j) rSetL) (sAugIx ao ab aa) := fun G env st σ H D k s l h t => by
  refine ho G env st σ H _ _ _ s l h (fun w x st1 G1 H1 p1 s1 r1 h1 => ?_) (t.x l)
  refine hb G1 env st1 σ H1 _ _ _ s1 (l.mono p1.le) h1 (fun u j st2 G2 H2 p2 s2 r2 h2 => ?_) ((t.x l).on p1)
  obtain ⟨n, i, ls, v, rfl, rfl, hn, hat, h2⟩ := h2
  have p12 := p1.trans p2
  cases r1 with
  | ref ep =>
    rename_i p
    cases r2
    have ep2 := pre_get p2.le.a ep
    obtain ⟨vs, gp, hp, rs⟩ := s2.cell n _ p hn ep2
    obtain ⟨vv, hv, rv⟩ := atI_reps rs hat
    cases rv
    refine ⟨p, vs, i, _, rfl, rfl, SqL.of hp, hv, ?_⟩
    refine ha G2 env st2 σ H2 _ _ _ s2 (l.mono p12.le) h2 (fun y d st3 G3 H3 p3 s3 r3 h3 => ?_) ((t.x l).on p12)
    obtain ⟨w, l', j', rfl, hn3, hj, h3⟩ := h3
    cases r3
    have ep3 := pre_get p3.le.a ep2
    obtain ⟨vs3, gp3, hp3, rs3⟩ := s3.cell n _ p hn3 ep3
    obtain ⟨s4, p4⟩ := s3.setCell (n := n) (c' := .lst (l'.set j' (.int (v + w)))) (o := .lst (vs3.set j' (.int (v + w)))) ep3 gp3 ⟨_, gp3, upd_same, rs3.set (.int _) j'⟩
    exact ⟨v, w, rfl, rfl, p, vs3, i, j', rfl, rfl, hp3, by rw [← rs3.length]; exact hj, t.nx env σ _ G3 _ ((p12.trans p3).trans p4) s4 (l.mono ((p12.trans p3).trans p4).le) h3⟩
theorem dicT_of {G : Gh} {H : Hp} {l : List (D × D)} {p : Addr} {kk d : D} (h : CellOk K G H (.dic l) p) (hk : isKeyT kk) (hl : DLook l kk d) : G.g p = none ∧ ∃ kvs, H p = some (.dT kvs) ∧ RepT K G l kvs := by
  exact h
theorem refS_augDx {ta to tb : TE} {aa ao ab : AE} (ha : RefE K W ta aa) (ho : RefE K W to ao) (hb : RefE K W tb ab) : RefS K W (tAugS to tb ta rIxDic (ipI fun i j => i + j) rSetD) (sAugDx ao ab aa) := fun G env st σ H D k s l h t => by
  refine ho G env st σ H _ _ _ s l h (fun w x st1 G1 H1 p1 s1 r1 h1 => ?_) (t.x l)
  refine hb G1 env st1 σ H1 _ _ _ s1 (l.mono p1.le) h1 (fun u j st2 G2 H2 p2 s2 r2 h2 => ?_) ((t.x l).on p1)
  obtain ⟨n, ls, v, rfl, hkey, hn, hat, h2⟩ := h2
  have p12 := p1.trans p2
  cases r1 with
  | ref ep =>
    rename_i p
    have ep2 := pre_get p2.le.a ep
    obtain ⟨gp, kvs, hp, rk⟩ := dicT_of (s2.cell n _ p hn ep2) hkey hat
    obtain ⟨kk, ek⟩ := hkey
    have ru := r2.vw s2
    rw [ek] at ru hat
    obtain ⟨vv, e1, rv⟩ := rk.look hat
    cases rv
    obtain ⟨b, eb, hb2⟩ : ∃ b, u = .ref b ∧ H2 b = some (.tup (kk.map kV)) := by
      cases ru with
      | tup hy rs _ =>
        have := reps_kD rs
        subst this
        exact ⟨_, rfl, hy⟩
    subst eb
    refine ⟨p, _, rfl, by rw [← e1]; exact DGet.t hp hb2, ?_⟩
    refine ha G2 env st2 σ H2 _ _ _ s2 (l.mono p12.le) h2 (fun y d st3 G3 H3 p3 s3 r3 h3 => ?_) ((t.x l).on p12)
    obtain ⟨w, l', l2, rfl, hn3, hne, hsz, hvw, hput, h3⟩ := h3
    cases r3
    have ep3 := pre_get p3.le.a ep2
    have ru3 := (r2.mono p3.le).vw s3
    rw [hvw, ek] at ru3
    rw [hvw, ek] at hput
    have hb3 : H3 b = some (.tup (kk.map kV)) := by
      cases ru3 with
      | tup hy rs _ =>
        have := reps_kD rs
        subst this
        exact hy
    obtain ⟨gp3, kvs3, hp3, rk3⟩ := s3.cell n _ p hn3 ep3
    · obtain ⟨s4, p4⟩ := s3.setCell (n := n) (c' := .dic l2) (o := .dT (putK kvs3 kk (.int (v + w)))) ep3 gp3 ⟨gp3, _, upd_same, RepT.put (.int _) rk3 hput⟩
      refine ⟨v, w, rfl, rfl, ?_⟩
      exact ⟨p, _, rfl, DPut.t hp3 hb3 (sz_lt (by rw [← rk3.length]; exact hsz)), t.nx env σ _ G3 _ ((p12.trans p3).trans p4) s4 (l.mono ((p12.trans p3).trans p4).le) h3⟩
end
section
variable {X : Cx} {W : WX} {o i e : Expr} {ao ab ae : AE} {pos tpos : Pos}
theorem axs_augIx (ho : AX X W o ao) (hi : AX X W i ab) (he : AX X W e ae) (ha : ∀ ov iv new, augStore i ov iv new = (do holding [new, ov, iv] (setItem ov iv new); release [new, ov, iv] []; pure .next) := by intros; rfl) : AXS X W (.AugAssign (.Subscript o i tpos) .Add e pos) (sAugIx ao ab ae) := by
  obtain ⟨to, po, ro⟩ := ho
  obtain ⟨tb, pb, rb⟩ := hi
  obtain ⟨te, pe, re⟩ := he
  exact ⟨_, ps_augS po pb get_list pe ip_add set_list ha, refS_augIx re ro rb⟩
theorem axs_augDx {k : Nat} (C : CxE X W k) (ho : AX X W o ao) (hi : AX X W i ab) (he : AX X W e ae) (ha : ∀ ov iv new, augStore i ov iv new = (do holding [new, ov, iv] (setItem ov iv new); release [new, ov, iv] []; pure .next) := by intros; rfl) : AXS X W (.AugAssign (.Subscript o i tpos) .Add e pos) (sAugDx ao ab ae) := by
  obtain ⟨to, po, ro⟩ := ho
  obtain ⟨tb, pb, rb⟩ := hi
  obtain ⟨te, pe, re⟩ := he
  exact ⟨_, ps_augS po pb (get_dic (by have := u64 C.room; omega)) pe ip_add (set_dict (by have := u64 C.room; omega)) ha, refS_augDx re ro rb⟩
end
end AM
set_option Elab.async false
set_option linter.all false
set_option maxRecDepth 100000
set_option maxHeartbeats 4000000
namespace AM
open PySem PySem.Spec PyProof.Rows L2 Evl
/-! ### x = {..: .. for ..}, a cell -/
def sCellD (f : AFd) (i : Nat) : AS := fun env st k => f env st (fun l s1 => k.nx (env.set i (.d (.ref s1.length))) (s1 ++ [.dic l])) (fun e s1 => k.er e env s1)
theorem refS_cellD {K : PySem.W.Frag} {W : WX} {te : TE} {af : AFd} {i : Nat} (h : RefD K W te af) : RefS K W (tAsg te (gName i)) (sCellD af i) := fun G env st σ H D k s l a t =>
  h G env st σ H _ _ _ s l a (fun v ds st2 G2 H2 p2 s2 r2 h2 => by
    obtain ⟨G3, s3, p3, r3⟩ := ownd_cell s2 p2 r2
    exact t.nx _ _ _ G3 H2 p3 s3 ((l.mono p3.le).set i r3) h2) (t.x l)
theorem swD_true {kx vx : Expr} {gs : List Comprehension} {scope : Scope} {pos py : Pos} {y : Str} {l : Nat} {env : Env} (hk : env.scope.kind = .function) (hy : env.scope.names.lookup y = some .local) (hl : (py.line == pos.line) = true)
    (ha : (scope.names.any fun (n, k) => n == y && (k == .local || k == .cell)) = false) : swapsWith (.DictComp kx vx gs scope pos) (some (.Name y py)) l env = pure true := by
  have ky : env.kindOf y = some .local := hy
  have hb : env.blockKind = .function := by unfold Env.blockKind; rw [hk]; rfl
  unfold swapsWith
  simp only [hb, ky, ha, Expr.pos, hl]
  rfl
section
variable {X : Cx} {W : WX} {k : Nat}
theorem ps_setDcT {i : Nat} {y : Str} {py : Pos} {kx vx tg iter : Expr} {ifs : List Expr} {scope : Scope} {own : List (Str × Nat)} {pos spos : Pos} {wi : TI} {g : TG} {tt : TT} {tk tv : TE} (hu : X.A.units + 1 < cLine) (hc : X.calm = true) (hN : X.N.Nodup) (hy : X.N[i]? = some y) (hyl : X.env.scope.names.lookup y = some .local)
    (hsw : swapsWith (.DictComp kx vx [⟨tg, iter, ifs, 0⟩] scope pos) (some (.Name y py)) spos.line X.env = pure true) (hi : PI X tg iter wi) (ok : BlkOk X.N X.env.scope scope own)
    (hg : ∀ (s : Shared) (H : Hp) (C : Addr) (cl : List (Str × Addr)) (fp : List Addr), PG (X.blk s H scope (compEnvC scope cl C X.env) fp) tg g) (ht : ∀ (s : Shared) (H : Hp) (C : Addr) (cl : List (Str × Addr)) (fp : List Addr), PTs (X.blk s H scope (compEnvC scope cl C X.env) fp) ifs tt)
    (hk : ∀ (s : Shared) (H : Hp) (C : Addr) (cl : List (Str × Addr)) (fp : List Addr), PE (X.blk s H scope (compEnvC scope cl C X.env) fp) kx tk)
    (he : ∀ (s : Shared) (H : Hp) (C : Addr) (cl : List (Str × Addr)) (fp : List Addr), PE (X.blk s H scope (compEnvC scope cl C X.env) fp) vx tv) (hs : ∀ x, foldedSetIterable iter X.env x = pure x) :
    PS X (.Assign [.Name y py] (.DictComp kx vx [⟨tg, iter, ifs, 0⟩] scope pos) spos) (tAsg (tDcT wi g tt tk tv (own.map (·.2))) (gName i)) := by
  refine ⟨fun pins s σ H D I h => ?_⟩
  rw [exec_Assign_Name_used _ _ _ _ hsw]
  refine wpAny_bind (wpAny_standAt (wpAny_bind ?_))
  have h : tDcT wi g tt tk tv (own.map (·.2)) σ H (fun x H1 => gName i x σ H1 D.nx) := h
  show wpAny _ X.A (do let _ ← comprehension (.DictComp kx vx [⟨tg, iter, ifs, 0⟩] scope pos) scope X.env (firstIterPos [⟨tg, iter, ifs, 0⟩] pos) newDict false (eval iter X.env) (some (assign (.Name y py) X.env))) _ _ s
  refine wpAny_bind (thn (dc_coreT (Qf := fun _ s' => SP X pins D .next s') hu hc hN hi ok hg ht hk he hs I h fun L C s' m H' I' q hn f => ?_) fun _ s' hq => wpAny_pure (wpAny_pure hq))
  show wpAny _ _ (assign (.Name y py) X.env (.ref L)) _ _ _
  refine wpAny_assign_Name (store_ok2 (v := V.ref L) I' hN hy (.inl hyl) rfl (fun s2 I2 ⟨a, sb, ha⟩ => ?_) (.inr hyl))
  obtain ⟨f0, f1, f2, f3, f4, f5⟩ := f
  have haC : C ≠ a := by
    rcases ha with z | z
    · rw [z]; exact f1
    · exact fun e => f4 y a z e.symm
  exact ⟨m, hn.sameBut sb haC, fun h3 sb3 => ⟨_, H', I2.turned (t' := s2.toks) (fun b o hb e => (sb3.2 b hb).trans e) f0 f1 f3 f4 f5, q⟩⟩
theorem axs_setDc (own : List (Str × Nat)) {i : Nat} {y : Str} {py pos spos : Pos} {kx vx tg iter : Expr} {ifs : List Expr} {scope : Scope} {ai : AI} {ag : AG} {xt : AT} {ak ae : AE} (C : CxE X W k) (ok : BlkOk X.N X.env.scope scope own) (hi : AXI X W tg iter ai)
    (hg : ∀ (s : Shared) (H : Hp) (C : Addr) (cl : List (Str × Addr)) (fp : List Addr), AXGc (X.blk s H scope (compEnvC scope cl C X.env) fp) (own.map (·.2)) tg ag) (ht : ∀ (s : Shared) (H : Hp) (C : Addr) (cl : List (Str × Addr)) (fp : List Addr), AXTs (X.blk s H scope (compEnvC scope cl C X.env) fp) W0 ifs xt)
    (hk : ∀ (s : Shared) (H : Hp) (C : Addr) (cl : List (Str × Addr)) (fp : List Addr), AX (X.blk s H scope (compEnvC scope cl C X.env) fp) W0 kx ak)
    (he : ∀ (s : Shared) (H : Hp) (C : Addr) (cl : List (Str × Addr)) (fp : List Addr), AX (X.blk s H scope (compEnvC scope cl C X.env) fp) W0 vx ae)
    (hsw : swapsWith (.DictComp kx vx [⟨tg, iter, ifs, 0⟩] scope pos) (some (.Name y py)) spos.line X.env = pure true := by exact swD_true rfl rfl rfl (by decide +kernel)) (hy : X.N[i]? = some y := by rfl) (hyl : X.env.scope.names.lookup y = some .local := by rfl) (hs : ∀ x, foldedSetIterable iter X.env x = pure x := by intro _; rfl) :
    AXS X W (.Assign [.Name y py] (.DictComp kx vx [⟨tg, iter, ifs, 0⟩] scope pos) spos) (sCellD (fDc ai ag xt ak ae (own.map (·.2))) i) := by
  obtain ⟨t, p, r⟩ := hi
  exact ⟨_, ps_setDcT (i := i) (by have := u64 C.room; omega) C.calm C.nd hy hyl hsw p ok (fun s H C cl fp => (hg s H C cl fp).pg) (fun s H C cl fp => (ht s H C cl fp).pts) (fun s H C cl fp => (hk s H C cl fp).pe) (fun s H C cl fp => (he s H C cl fp).pe) hs, refS_cellD (refD_dc r rdG_ref rdG_stays rdT_ref rdE_ref rdE_ref)⟩
theorem axs_cellD {i : Nat} {x : Str} {e : Expr} {af : AFd} {pos pos' : Pos} (hN : X.N.Nodup) (h : AXD X W e af) (hi : X.N[i]? = some x := by rfl) (hx : Loc X.env.scope x := by first | exact Or.inl rfl | exact Or.inr rfl) (hs : swapsWith e (some (.Name x pos')) pos.line X.env = pure false := by rfl) (hf : X.fn x = true ∨ X.env.scope.names.lookup x = some .local := by first | exact .inl rfl | exact .inr rfl) :
    AXS X W (.Assign [.Name x pos'] e pos) (sCellD af i) := by
  obtain ⟨t, p, r⟩ := h
  exact ⟨_, ps_set hN hi hx p hs hf, refS_cellD r⟩
end
/-! ### list(range(n)) -/
def fLRng (a : AE) : AFr := fun env st q er => a env st (fun x s1 => ∃ n : Int, x = .int n ∧ 0 ≤ n ∧ n ≤ 100000 ∧ q ((List.range n.toNat).map fun (i : Nat) => D.int (i : Int)) s1) er
theorem reps_rg {K : PySem.W.Frag} {G : Gh} {n : Int} : Reps K G ((List.range n.toNat).map fun (i : Nat) => D.int (i : Int)) (rgV 0 n) := by
  have e1 : ((List.range n.toNat).map fun (i : Nat) => D.int (i : Int)) = ((List.range n.toNat).map fun (i : Nat) => (i : Int)).map D.int := by rw [List.map_map]; rfl
  have e2 : rgV 0 n = ((List.range n.toNat).map fun (i : Nat) => (i : Int)).map V.int := by
    unfold rgV
    rw [List.map_map]
    simp
  rw [e1, e2]
  exact Reps.ints _
section
variable {X : Cx} {W : WX} {k : Nat} {a o e : Expr} {ae ao : AE} {p p2 pos pos2 apos : Pos}
theorem axf_lrng (C : CxE X W k) (hm : X.mg "list" = none) (hmr : X.mg "range" = none) (h : AX X W a ae) (hg : Gl X "list" := by rfl) (hgr : Gl X "range" := by rfl) (na : starEach [a] X.env = (false, eval a X.env) :: starEach [] X.env := by rfl)
    (na2 : starEach [.Call (.Name "range" p2) [a] [] pos2] X.env = (false, eval (.Call (.Name "range" p2) [a] [] pos2) X.env) :: starEach [] X.env := by rfl) : AXF X W (.Call (.Name "list" p) [.Call (.Name "range" p2) [a] [] pos2] [] pos) (fLRng ae) := by
  obtain ⟨t, pe, r⟩ := h
  refine ⟨_, pe_listRg C.calm hg hm (prg_1 hgr hmr pe na) na2, fun G env st σ H Q q er s l h tE tX => r G env st σ H _ _ er s l h (fun v d st1 G1 H1 p1 s1 r1 h1 => ?_) tX⟩
  obtain ⟨n, rfl, h0, h2, h1⟩ := h1
  cases r1
  refine ⟨n, rfl, RgOk.of_le (by omega) (by omega) (by omega) h0, fun a hp => ?_⟩
  obtain ⟨s2, p2, np, gp⟩ := s1.room (o := .lst (rgV 0 n)) hp
  exact tE _ _ st1 _ _ (p1.trans p2) s2 (ResOk.on p1 ⟨a, _, rfl, upd_same, gp, np, hp, reps_rg⟩) h1
/-! ### l.index(x) -/
def aIdx (o a : AE) : AE := fun env st q er => o env st (fun x s1 => (∃ l, vw s1 x = .lst l) ∧ a env s1 (fun y s2 => ∃ l j z, vw s2 x = .lst l ∧ (D.lst l).shp ∧ (vw s2 y).shp ∧ l[j]? = some z ∧ D.eqv z (vw s2 y) = true ∧ (∀ (m : Nat) (z' : D), m < j → l[m]? = some z' → D.eqv z' (vw s2 y) = false) ∧ q (.int (j : Nat)) s2) er) er
theorem pys_map : ∀ l : List D, D.pys l = l.map D.py
  | [] => by rw [D.pys]; rfl
  | x :: xs => by rw [D.pys, pys_map xs]; rfl
theorem plains_mem : ∀ {l : List D}, D.plains l = true → ∀ x ∈ l, x.plain = true
  | [], _, _, h => by cases h
  | y :: ys, h, x, hx => by
    rw [D.plains, Bool.and_eq_true] at h
    rcases List.mem_cons.mp hx with rfl | hx
    · exact h.1
    · exact plains_mem h.2 x hx
theorem refE_idx {K : PySem.W.Frag} {to te : TE} (ho : RefE K W to ao) (he : RefE K W te ae) : RefE K W (tBM K "list" (rIndexD K) to (tCons te tNil)) (aIdx ao ae) := fun G env st σ H Q q er s l h tE tX => by
  refine ho G env st σ H _ _ er s l h (fun v d st1 G1 H1 p1 s1 r1 h1 => ?_) tX
  obtain ⟨⟨l0, hl0⟩, h1⟩ := h1
  have rv := r1.vw s1
  rw [hl0] at rv
  cases rv with
  | lst hp rs =>
    rename_i pp vs
    refine ⟨Or.inl ⟨rfl, _, Or.inl (Or.inl hp)⟩, he G1 env st1 σ H1 _ _ er s1 (l.mono p1.le) h1 (fun w d2 st2 G2 H2 p2 s2 r2 h2 => ?_) (tX.on p1)⟩
    obtain ⟨l2, j, z, hl2, hsl, hsy, hj, he1, he2, h2⟩ := h2
    have rv2 := (r1.mono p2.le).vw s2
    have ry := r2.vw s2
    rw [hl2] at rv2
    have dl := rv2.dp s2.ex hsl.1
    have dy := ry.dp s2.ex hsy.1
    rw [D.py] at dl
    have pl : ∀ x ∈ l2, x.plain = true := plains_mem (by have := hsl.1; rw [D.plain] at this; exact this)
    have sl := D.shaped hsl
    rw [D.py] at sl
    refine ⟨pp, w, _, _, j, z.py, rfl, rfl, dl, dy, sl, D.shaped hsy, by rw [pys_map, List.getElem?_map, hj]; rfl, ?_, fun m z' hm hz => ?_, tE _ _ st2 G2 H2 (p1.trans p2) s2 (.int _) h2⟩
    · rw [D.py_eqv (pl z (List.mem_of_getElem? hj)) hsy.1]; exact he1
    · rw [pys_map, List.getElem?_map] at hz
      cases hz2 : l2[m]? with
      | none => rw [hz2] at hz; cases hz
      | some y =>
        rw [hz2] at hz
        obtain rfl : y.py = z' := Option.some.inj hz
        rw [D.py_eqv (pl y (List.mem_of_getElem? hz2)) hsy.1]
        exact he2 m y hm hz2
theorem ax_idx (C : CxE X W k) (ho : AX X W o ao) (he : AX X W e ae) (hbase : attributeBase o "index" X.env (eval o X.env) = eval o X.env := by rfl)
    (hfew : ((backTo pos (starEach [e] X.env)).all (fun x => !x.1) && (backToKw pos (keywordEach [] X.env)).all (fun x => x.1.isSome) && decide (([e] : List Expr).length + ([] : List Keyword).length + (if ([] : List Keyword).isEmpty then 0 else 1) < 30)) = true := by rfl)
    (hline : (apos.endLine == pos.line) = true := by rfl) (hs : starEach [e] X.env = (false, eval e X.env) :: starEach [] X.env := by rfl) : AX X W (.Call (.Attribute o "index" apos) [e] [] pos) (aIdx ao ae) := by
  obtain ⟨to, po, ro⟩ := ho
  obtain ⟨te, pe, re⟩ := he
  exact ⟨_, pe_bm PySem.F.plainAttrs_list PySem.F.slot_list_index PySem.F.type_list_index (mt_indexD (by have := u64 C.room; omega)) po (pa_cons pe pa_nil hs) hbase hfew hline hs rfl, refE_idx ro re⟩
end
end AM
set_option Elab.async false
set_option linter.all false
set_option maxRecDepth 100000
set_option maxHeartbeats 4000000
namespace AM
open PySem PySem.Spec PyProof.Rows L2 Evl
/-! ### l[::-1] -/
def aRev (a : AE) : AE := fun env st q er => a env st (fun x s1 => ∃ l, vw s1 x = .lst l ∧ q (.lst l.reverse) s1) er
theorem Reps.reverse {K : PySem.W.Frag} {G : Gh} : ∀ {l : List D} {vs : List V}, Reps K G l vs → Reps K G l.reverse vs.reverse
  | _, _, .nil => .nil
  | _ :: _, _ :: _, .cons h r => by
    rw [List.reverse_cons, List.reverse_cons]
    exact (Reps.reverse r).append (.cons h .nil)
section
variable {X : Cx} {W : WX} {k : Nat}
theorem ax_rev {e : Expr} {ae : AE} {k1 : Nat} {p1 p2 p3 pos : Pos} (h : AX X W e ae) : AX X W (.Subscript e (.Slice none none (some (.UnaryOp .USub (.Constant (.int 1) k1 p1) p2)) p3) pos) (aRev ae) := by
  obtain ⟨t, pe, r⟩ := h
  refine ⟨_, pe_revL pe, fun G env st σ H Q q er s l h tE tX => r G env st σ H _ _ er s l h (fun v d st1 G1 H1 p1 s1 r1 h1 => ?_) tX⟩
  obtain ⟨l0, hl, h1⟩ := h1
  have rv := r1.vw s1
  rw [hl] at rv
  cases rv with
  | lst hp rs =>
    refine ⟨_, _, rfl, SqL.of hp, fun a ha => ?_⟩
    obtain ⟨s4, p4⟩ := s1.new (o := .lst (List.reverse _)) ha
    exact tE _ _ st1 _ _ (p1.trans p4) s4 (.lst upd_same ((Reps.reverse rs).mono p4.le)) h1
/-! ### list * int -/
def oRep : O2 := fun x y q => ∃ l k, x = .lst l ∧ y = .int k ∧ 0 ≤ k ∧ k ≤ 100000 ∧ l.length * k.toNat ≤ 100000 ∧ q (.lst (List.replicate k.toNat l).flatten)
theorem Reps.rep {K : PySem.W.Frag} {G : Gh} {l : List D} {vs : List V} (r : Reps K G l vs) : ∀ n : Nat, Reps K G (List.replicate n l).flatten (List.replicate n vs).flatten
  | 0 => .nil
  | n + 1 => by
    rw [List.replicate_succ, List.replicate_succ, List.flatten_cons, List.flatten_cons]
    exact r.append (Reps.rep r n)
theorem op_Rep : OpR X (binaryOp .Mult) rRep ∧ RefO X.K rRep oRep := ⟨op_rep, fun G st H x y dx dy Q q s rx ry h t => by
  obtain ⟨l, k, rfl, rfl, h0, h1, h2, h⟩ := h
  cases rx with
  | lst hp rs =>
    cases ry
    exact ⟨_, k, _, rfl, rfl, hp, by omega, by omega, sz_of (by rw [← rs.length]; exact h2), fun p hp' => t.newL s (Reps.rep rs k.toNat) h hp'⟩⟩
/-! ### n += .. -/
abbrev oInc : O2 := oI fun i j => .int (i + j)
theorem ip_Add : PIp X .Add (rI0 fun i j => .int (i + j)) ∧ RefO X.K (rI0 fun i j => .int (i + j)) oInc := ⟨ip_add, ref_i fun _ _ _ => .int _⟩
theorem ip_Sub : PIp X .Sub (rI0 fun i j => .int (i - j)) ∧ RefO X.K (rI0 fun i j => .int (i - j)) oSub := ⟨ip_sub, ref_i fun _ _ _ => .int _⟩
theorem ip_Mul : PIp X .Mult (rI CMulW fun i j => .int (i * j)) ∧ RefO X.K (rI CMulW fun i j => .int (i * j)) oMul := ⟨(opI fun _ _ _ _ _ _ _ hc q => imul_int q hc.ok : OpR X (inplaceOp .Mult) (rI CMulW fun i j => .int (i * j))), ref_ic fun _ _ _ => .int _⟩
end
/-! ### dict([(key, value), ..]), the keys tuples that differ -/
def PairsAt (H : Hp) : List V → List (List Key) → List V → Prop
  | [], [], [] => True
  | x :: xs, k :: ks, y :: ys => (∃ T b, x = .ref T ∧ H T = some (.tup [.ref b, y]) ∧ H b = some (.tup (k.map kV))) ∧ PairsAt H xs ks ys
  | _, _, _ => False
theorem PairsAt.len {H : Hp} : ∀ {xs : List V} {ks : List (List Key)} {ys : List V}, PairsAt H xs ks ys → xs.length = ks.length ∧ ys.length = ks.length
  | [], [], [], _ => ⟨rfl, rfl⟩
  | _ :: _, _ :: _, _ :: _, h => ⟨congrArg Nat.succ h.2.len.1, congrArg Nat.succ h.2.len.2⟩
  | [], [], _ :: _, h => h.elim
  | [], _ :: _, _, h => by cases h
  | _ :: _, [], _, h => by cases h
  | _ :: _, _ :: _, [], h => h.elim
def tDictP (K : PySem.W.Frag) (ta : TA) : TE := fun σ H Q => ta σ H fun vs H1 => ∃ (a : Addr) (xs ys : List V) (ks : List (List Key)), vs = [.ref a] ∧ SqL K H1 a xs ∧ PairsAt H1 xs ks ys ∧ ks.Nodup ∧ ∀ p, H1 p = none → Q (.ref p) (upd H1 p (.dT (ks.zip ys)))
section
variable {X : Cx}
theorem pairs_addrs {pins : List (Addr × Obj)} {σ : L2.St} {H : Hp} {s : Shared} (I : Inv X pins σ H s) : ∀ {xs : List V} {ks : List (List Key)} {ys : List V} {its : List Value}, PairsAt H xs ks ys → Vals xs its → ∃ (ts bs : List Addr) (us : List Value), its = ts.map Value.ref ∧ ts.length = ks.length ∧ bs.length = ks.length ∧ us.length = ks.length ∧ Vals ys us ∧ (∀ (i : Nat) (k : List Key) (b : Addr), ks[i]? = some k → bs[i]? = some b → H b = some (.tup (k.map kV))) ∧
    ∀ (j : Nat) (t b : Addr) (u : Value), ts[j]? = some t → bs[j]? = some b → us[j]? = some u → s.heap.IsTuple t #[.ref b, u]
  | [], [], [], _, _, .nil => ⟨[], [], [], rfl, rfl, rfl, rfl, .nil, fun i k b h => by simp at h, fun j t b u h => by simp at h⟩
  | x :: xs, k :: ks, y :: ys, _, h, .cons r rs => by
    obtain ⟨⟨T, b, rfl, hT, hb⟩, h2⟩ := h
    obtain ⟨ts, bs, us, rfl, l1, l2, l3, hv, hk, ht⟩ := pairs_addrs I h2 rs
    cases r
    obtain ⟨its', r', p', _⟩ := I.tuple (SqT.of hT)
    cases r' with
    | cons ra rb =>
      cases rb with
      | cons ry rn =>
        rename_i u _
        cases rn
        cases ra
        refine ⟨T :: ts, b :: bs, _ :: us, rfl, by simp [l1], by simp [l2], by simp [l3], .cons ry hv, fun i k' b' e1 e2 => ?_, fun j t b' u' e1 e2 e3 => ?_⟩
        · cases i with
          | zero => simp at e1 e2; subst e1 e2; exact hb
          | succ i => exact hk i k' b' (by simpa using e1) (by simpa using e2)
        · cases j with
          | zero => simp at e1 e2 e3; subst e1 e2 e3; exact p'
          | succ j => exact ht j t b' u' (by simpa using e1) (by simpa using e2) (by simpa using e3)
  | [], [], _ :: _, _, h, _ => h.elim
  | _ :: _, _ :: _, [], _, h, _ => h.elim
theorem pe_dictPairs {e : Expr} {ta : TA} {p pos : Pos} (hc : X.calm = true) (hu : X.A.units + 4 < cLine) (hg : Gl X "dict") (hm : X.mg "dict" = none) (ha : PA X [e] ta)
    (hs0 : starEach [e] X.env = (false, eval e X.env) :: starEach [] X.env := by rfl) (hpl0 : (backTo pos (starEach [] X.env)).any (·.1) = false := by rfl) :
    PE X (.Call (.Name "dict" p) [e] [] pos) (tDictP X.K ta) := by
  refine ⟨fun pins s σ H Q I h => ?_⟩
  refine Call_ (ld_blt I hg hm PyProof.Rows.boot_dict (PyProof.Rows.callWith_type1 (thn (ha.run pos pins s σ H _ I h) fun us s1 ⟨vs, H1, I1, r1, q1⟩ => ?_) hs0 hpl0))
  obtain ⟨a, xs, ys, ks, ex, hqx, hk, hnd, q⟩ := q1
  subst ex
  cases r1 with
  | cons r rr =>
    cases rr
    cases r
    obtain ⟨its, rv, pl, hz⟩ := I1.list hqx
    obtain ⟨ts, bs, us, rfl, l1, l2, l3, hv, hbk, htt⟩ := pairs_addrs I1 hk rv
    obtain ⟨lx, ly⟩ := hk.len
    generalize hps : (ks.zip (bs.zip us) : List (List Key × Addr × Value)) = ps
    have psl : ps.length = ks.length := by rw [← hps]; simp; omega
    have psk : ps.map (·.1) = ks := by rw [← hps, List.map_fst_zip (by simp; omega)]
    have pget : ∀ (i : Nat) (k : List Key) (c : Addr) (v : Value), ps[i]? = some (k, c, v) ↔ (ks[i]? = some k ∧ bs[i]? = some c ∧ us[i]? = some v) := by
      intro i k c v
      rw [← hps, List.getElem?_zip_eq_some]
      simp only [List.getElem?_zip_eq_some]
    have P := PairArg.list (prog := X.prog) (w := X.w) a (ts.map Value.ref).toArray (fun j => ts[j]?.getD 0) ((bs.map Value.ref).zip us)
    have nl : ((bs.map Value.ref).zip us).length = ks.length := by simp; omega
    refine call_dict_pairsH (knd := tupleKind (mixKind X.prog X.w)) (ps := ps) P (I1.ok.hd hc) (show X.A.in1.in1.units < cLine by have : X.A.in1.in1.units = X.A.units + 2 := rfl; omega) ⟨pl, by simp; omega, fun j k v hj => ?_⟩ ⟨by rw [nl, psl], fun i key v hrel => ?_⟩ (fun h3 hk3 x hx => ?_) (by rw [nl]; omega) fun h3 tk hd hk3 => ?_
    · rw [List.getElem?_zip_eq_some, List.getElem?_map] at hj
      obtain ⟨e1, e2⟩ := hj
      have hj3 : j < ts.length := by have := (List.getElem?_eq_some_iff.mp e2).1; omega
      cases hb : bs[j]? with
      | none => rw [hb] at e1; cases e1
      | some b =>
        rw [hb] at e1
        obtain rfl : Value.ref b = k := Option.some.inj e1
        have et : ts[j]? = some ts[j] := List.getElem?_eq_getElem hj3
        refine ⟨by simp [et], .inl ?_⟩
        show s1.heap.IsTuple (ts[j]?.getD 0) #[Value.ref b, v]
        rw [et]
        exact htt j _ b v et hb e2
    · have hrel : ((bs.map Value.ref).zip us)[i]? = some (key, v) := hrel
      rw [List.getElem?_zip_eq_some, List.getElem?_map] at hrel
      obtain ⟨e1, e2⟩ := hrel
      cases hb : bs[i]? with
      | none => rw [hb] at e1; cases e1
      | some c =>
        rw [hb] at e1
        obtain rfl : Value.ref c = key := Option.some.inj e1
        have hik : i < ks.length := by have := (List.getElem?_eq_some_iff.mp hb).1; omega
        exact ⟨ks[i], c, (pget i _ _ _).mpr ⟨List.getElem?_eq_getElem hik, hb, e2⟩, rfl⟩
    · obtain ⟨i, hi⟩ := List.mem_iff_getElem?.mp hx
      obtain ⟨e1, e2, _⟩ := (pget i x.1 x.2.1 x.2.2).mp hi
      obtain ⟨o, its, n, g1, g2⟩ := key_of (P := X.prog) (w := X.w) I1.hok (hbk i _ _ e1 e2)
      exact ⟨o, its, n, hk3 _ _ (Nat.ne_of_lt (Heap.lt_size g1)) (by simp) g1, g2⟩
    · rw [storedAll_nodup ps [] (by simpa [psk] using hnd), List.nil_append] at hd
      have keep : ∀ c o, s1.heap.get? c = some o → h3.get? c = some o := fun c o g => hk3 c o (by simp) g
      have hH : H1 s1.heap.objs.size = none := I1.hok.fresh (Nat.le_refl _)
      obtain ⟨o, es, ep, g1, g2, g3, g4, _, g5⟩ := hd
      refine ⟨.ref s1.heap.objs.size, _, I1.laid (t' := tk) (a := s1.heap.objs.size) (o := .dT (ks.zip ys)) keep (Nat.le_refl _) ?_, rfl, q _ hH⟩
      refine ⟨by simp; omega, ?_, ps, ?_, o, es, ep, g1, g2, g3, g4, g5⟩
      · exact beq_eq_false_iff_ne.mpr (Nat.ne_of_gt I1.big)
      · rw [← hps]
        refine paired_zip hv (by omega) (by omega) fun i k c e1 e2 => ?_
        have hb := hbk i k c e1 e2
        rw [upd_ne (fun z => by rw [z, hH] at hb; cases hb)]
        exact hb
end
theorem pairsAt_of {K : PySem.W.Frag} {G : Gh} {H : Hp} (ex : ExL G.g H) : ∀ {ps : List (D × D)} {vs : List V}, Reps K G (ps.map fun p => D.tup [p.1, p.2]) vs → (∀ p ∈ ps, isKeyT p.1) → ∃ (ks : List (List Key)) (ys : List V), PairsAt H vs ks ys ∧ ps.map (·.1) = ks.map kT ∧ RepT K G ps (ks.zip ys)
  | [], _, .nil, _ => ⟨[], [], trivial, rfl, .nil⟩
  | (d, e) :: ps, v :: vs, .cons h r, hk => by
    obtain ⟨ks, ys, h1, e1, h2⟩ := pairsAt_of ex r fun k hm => hk k (by simp [hm])
    obtain ⟨k, e2⟩ := hk (d, e) (by simp)
    have e2 : d = kT k := e2
    subst e2
    cases h with
    | tup hp rs =>
      rename_i T vs'
      cases rs with
      | cons ra rb =>
        cases rb with
        | cons ry rn =>
          rename_i y _
          cases rn
          cases ra with
          | tup hp' rs' =>
            rename_i b ws
            have := reps_kD rs'
            subst this
            refine ⟨k :: ks, _ :: ys, ⟨⟨T, b, rfl, ex.tup hp, ex.tup hp'⟩, h1⟩, by simp [e1], .cons ry h2⟩
section
variable {X : Cx} {W : WX} {k : Nat} {e : Expr} {ae : AE} {p pos : Pos}
def fDPairs (a : AE) : AFd := fun env st q er => a env st (fun x s1 => ∃ ps : List (D × D), vw s1 x = .lst (ps.map fun p => D.tup [p.1, p.2]) ∧ (∀ p ∈ ps, isKeyT p.1) ∧ (ps.map (·.1)).Nodup ∧ q ps s1) er
theorem axd_pairs (C : CxE X W k) (hm : X.mg "dict" = none) (h : AX X W e ae) (hg : Gl X "dict" := by rfl)
    (hs0 : starEach [e] X.env = (false, eval e X.env) :: starEach [] X.env := by rfl) (hpl0 : (backTo pos (starEach [] X.env)).any (·.1) = false := by rfl) :
    AXD X W (.Call (.Name "dict" p) [e] [] pos) (fDPairs ae) := by
  obtain ⟨t, pe, r⟩ := h
  refine ⟨_, pe_dictPairs C.calm (by have := u64 C.room; omega) hg hm (pa_cons pe pa_nil hs0) hs0 hpl0, fun G env st σ H Q q er s sl a tE tX => ?_⟩
  refine r G env st σ H _ _ er s sl a (fun v d st2 G2 H2 p2 s2 r2 h2 => ?_) tX
  obtain ⟨ps, hl, hk, hnd, h2⟩ := h2
  have rx := r2.vw s2
  rw [hl] at rx
  cases rx with
  | lst ha rs =>
    obtain ⟨ks, ys, hks, ek, rt⟩ := pairsAt_of s2.ex rs hk
    rw [ek] at hnd
    refine ⟨_, _, ys, ks, rfl, SqL.of ha, hks, nodup_inv hnd, fun a hp => ?_⟩
    obtain ⟨s4, p4, na, ng⟩ := s2.room (o := .dT (ks.zip _)) hp
    refine tE _ _ st2 G2 _ (p2.trans p4) s4 ⟨a, rfl, ⟨_, upd_same, rt⟩, ng, na, ?_⟩ h2
    cases hh : H a with
    | none => rfl
    | some o => exact absurd hp (p2.m a (by rw [hh]; exact fun z => nomatch z))
end
end AM
set_option Elab.async false
set_option linter.all false
set_option maxRecDepth 100000
set_option maxHeartbeats 4000000
namespace AM
open PySem PySem.Spec PyProof.Rows L2 Evl
section
variable {X : Cx} {CX : CXT} {k : Nat} {f : Addr} {fd : FuncData} {ps : List Str} {sp : Sp} {E : L2.St → XK} {x : Str} {e : Expr} {es : List Expr} {t : TA} {p pos : Pos} {ds : List Value} {dvs : List V}
/-- f(x, .., *y) -/
theorem pe_callSt (F : FnOk X.prog X.w X.K X.mg X.base CX k f fd ps sp) (hr : Room k X.A) (hg : Gl X x) (hm : X.mg x = some (.ref f)) (hk : PySem.W.keepIn X.K (.ref f) = true) (hb : Binds X.K fd ps ds) (hd : Vals dvs ds) (hx : ∀ σ, PassesAt CX X σ (E σ))
    (ha : PA X (e :: es) t) (hdb : (x == ("__debug__" : Str)) = false := by decide) (he : starEach (e :: es) X.env = (false, eval e X.env) :: starEach es X.env := by rfl) (hst : (backTo pos (starEach es X.env)).any (·.1) = true := by rfl) :
    PE X (.Call (.Name x p) (e :: es) [] pos) (tCallSD sp dvs E t) := by
  refine ⟨fun pins s σ H Q I h => ?_⟩
  refine wpAny_Call_Name_kw (ld_glob I hg hm ?_ hdb)
  refine PySem.W.callWith_S2 (h₀ := X.base) I.ok.mod.kin hk (thn (ha.run pos pins s σ H _ I h) fun us s1 ⟨vs, H1, I1, r, q⟩ => ⟨I1.kIn, ?_⟩) he hst
  exact run_fnSD F hr hb hd (hx σ) I1 r q
end
section
variable {X : Cx} {W : WX} {k j : Nat} {f : Addr} {fd : FuncData} {ps : List Str} {m : AF} {x : Str} {e : Expr} {es : List Expr} {aa : AEs} {p pos : Pos} {dd : List D} {dvs : List V}
theorem ax_callSt (C : CxE X W k) (F : FnOk X.prog X.w X.K X.mg X.base (L2N.CX X.prog X.w) j f fd ps (SpA X.K m)) (hm : X.mg x = some (.ref f)) (hk : PySem.W.keepIn X.K (.ref f) = true) (hb : BindsD X.K fd ps dvs) (hdd : ∀ G, Reps X.K G dd dvs) (ha : AXA X W (e :: es) aa) (hj : j ≤ k)
    (hg : Gl X x := by rfl) (hdb : (x == ("__debug__" : Str)) = false := by decide) (he : starEach (e :: es) X.env = (false, eval e X.env) :: starEach es X.env := by rfl) (hst : (backTo pos (starEach es X.env)).any (·.1) = true := by rfl) : AX X W (.Call (.Name x p) (e :: es) [] pos) (aCall m aa dd) := by
  obtain ⟨t, p, r⟩ := ha
  obtain ⟨ds, hv, hb⟩ := hb
  exact ⟨_, pe_callSt F (C.room.mono hj) hg hm hk hb hv (fun σ => L2N.passAt C.takes σ) p hdb he hst, refE_call r hdd⟩
end
/-! ### l += list -/
def sExt (i : Nat) (a : AE) : AS := fun env st k => ∃ n, env[i]? = some (.d (.ref n)) ∧ a env st (fun y s1 => ∃ l l2, s1[n]? = some (.lst l) ∧ vw s1 y = .lst l2 ∧ l.length + l2.length ≤ 100000 ∧ k.nx (env.set i (.d (.ref n))) (s1.set n (.lst (l ++ l2)))) (fun e s1 => k.er e env s1)
section
variable {X : Cx} {K : PySem.W.Frag} {W : WX}
theorem refS_ext {i : Nat} {te : TE} {ae : AE} (he : RefE K W te ae) : RefS K W (tAug i te rExt2) (sExt i ae) := fun G env st σ H D k s l h t => by
  obtain ⟨n, ex, h⟩ := h
  obtain ⟨u, eu, ru⟩ := l.slot i _ ex
  refine ⟨u, eu, he G env st σ H _ _ _ s l h (fun v d st2 G2 H2 p2 s2 r2 q => ?_) (t.x l)⟩
  obtain ⟨ls, ls2, hn2, hv2, hlen, q⟩ := q
  cases ru with
  | ref ep =>
    rename_i pp
    obtain ⟨vs2, gp2, hp2, rs2⟩ := s2.cell n _ pp hn2 (pre_get p2.le.a ep)
    have rv := r2.vw s2
    rw [hv2] at rv
    cases rv with
    | lst hb rb =>
      obtain ⟨s3, p3⟩ := s2.setCell (n := n) (c' := .lst (ls ++ ls2)) (o := .lst (vs2 ++ _)) (pre_get p2.le.a ep) gp2 ⟨_, gp2, upd_same, rs2.append rb⟩
      exact ⟨pp, _, vs2, _, rfl, rfl, hp2, hb, sz_of (by rw [← rs2.length, ← rb.length]; exact hlen), t.nx _ _ _ G2 _ (p2.trans p3) s3 ((l.mono (p2.trans p3).le).set i (.ref (pre_get p2.le.a ep))) q⟩
theorem axs_ext {i : Nat} {x : Str} {e : Expr} {ae : AE} {pos pos' : Pos} (hN : X.N.Nodup) (h : AX X W e ae) (hi : X.N[i]? = some x := by rfl) (hx : Loc X.env.scope x := by first | exact Or.inl rfl | exact Or.inr rfl) (hf : X.fn x = true ∨ X.env.scope.names.lookup x = some .local := by first | exact .inl rfl | exact .inr rfl) :
    AXS X W (.AugAssign (.Name x pos') .Add e pos) (sExt i ae) := by
  obtain ⟨t, p, r⟩ := h
  exact ⟨_, ps_aug hN hi hx p (iop_ext : OpR X (inplaceOp .Add) rExt2) hf, refS_ext r⟩
end
end AM
set_option Elab.async false
set_option linter.all false
set_option maxRecDepth 100000
set_option maxHeartbeats 4000000
namespace AM
open PySem PySem.Spec PyProof.Rows L2 Evl
/-! ### own __iter__ that gives back iter(self.f), f a list -/
def spIt (K : PySem.W.Frag) (n : Nat) (C : Addr) (fld : Str) : Sp := fun vs H Q _ => ∃ a dx fs l zs, vs = [.ref a] ∧ H a = some (.ins C dx fs) ∧ Cls K C ∧ NoAttr K C fld ∧ fs.lookup fld = some (.ref l) ∧ SqL K H l zs ∧ ∀ it, H it = none → n ≤ it → Q (.ref it) (upd H it (ItO l it 0))
def rIterB (K : PySem.W.Frag) (n : Nat) : List V → Hp → VK → Prop := fun xs H Q => ∃ (l : Addr) (zs : List V), xs = [.ref l] ∧ SqL K H l zs ∧ ∀ it, H it = none → n ≤ it → Q (.ref it) (upd H it (ItO l it 0))
theorem call_iterB {X : Cx} : CallR X (.builtin "iter") (rIterB X.K X.base.objs.size) := by
  intro pins s σ H xs us Q I r h
  obtain ⟨l, zs, ex, hq, q⟩ := h
  exact ItX.call_iterN pins s σ H xs us Q I r ⟨l, zs, ex, hq, fun it h1 h2 => q it h1 (Nat.le_trans I.ok.bsz h2)⟩
/-- a heap with room that is taken by nothing -/
def padH (h : Heap) (n : Nat) : Heap := ⟨h.objs ++ Array.replicate (n - h.objs.size) ⟨.none, none, .freed, #[]⟩, h.life⟩
theorem padH_size {h : Heap} {n : Nat} (e : h.objs.size ≤ n) : (padH h n).objs.size = n := by
  unfold padH
  simp
  omega
theorem padH_get {h : Heap} {n b : Nat} : (padH h n).get? b = h.get? b := by
  unfold Heap.get? padH
  by_cases hb : b < h.objs.size
  · rw [Array.getElem?_append_left hb]
  · have e : h.objs[b]? = none := Array.getElem?_eq_none (by omega)
    rw [Array.getElem?_append_right (by omega), e, Array.getElem?_replicate]
    by_cases h2 : b - h.objs.size < n - h.objs.size
    · rw [if_pos h2]
    · rw [if_neg h2]
theorem env0_pad {P : Program} {w : World} {K : PySem.W.Frag} {mg : Str → Option Value} {base : Heap} {A : Around} {outer : List Env} {s : Shared} {H : Hp} (e : Env0 P w K mg base A outer s H) : Env0 P w K mg (padH base s.heap.objs.size) A outer s H := by
  have k : ∀ b o, base.get? b = some o → (padH base s.heap.objs.size).get? b = some o := fun b o h => by rw [padH_get]; exact h
  have ff : ∀ l : List Env, s.heap.FunFrames base l → s.heap.FunFrames (padH base s.heap.objs.size) l := by
    intro l
    induction l with
    | nil => exact fun _ => trivial
    | cons x xs ih =>
      rintro ⟨h1, ⟨L, o, h2, h3, h4⟩, h5⟩
      exact ⟨h1, ⟨L, o, h2, by rw [padH_get]; exact h3, h4⟩, ih h5⟩
  obtain ⟨mb, b1, b2⟩ := e.mod.blt
  exact ⟨e.frames, ⟨e.mod.kin.keeps k, e.mod.glob.keeps k, ⟨mb, b1.keeps k, b2⟩, e.mod.nolimit.keeps k⟩, fun b o h => e.bs b o (by rw [padH_get] at h; exact h), Nat.le_of_eq (padH_size e.bsz), ff _ e.funs, e.frf, e.hok, e.bare⟩
theorem fn_iter {P : Program} {w : World} {K : PySem.W.Frag} {mg : Str → Option Value} {base : Heap} {x qual : Str} {params : Arguments} {scope : Scope} {f : Addr} {fd : FuncData} {C : Addr} {fld : Str} {p1 p2 p3 p4 p5 : Pos}
    (F : FunD K x qual params [.Return (some (.Call (.Name "iter" p1) [.Attribute (.Name "self" p2) fld p3] [] p4)) p5] scope [] [] f fd) (S : FnScope ["self"] ["self"] scope) (hm : mg "iter" = none)
    (hg : ∀ (cdv : Value) (A : Around) (outer : List Env) (s : Shared) (H : Hp) (E : XK), Gl (cxOf (L2N.CX P w) P w K mg base ["self"] qual scope f cdv A outer s H E) "iter")
    (hv : Vis scope "self")
    (hb : ∀ env : Env, attributeBase (.Name "self" p2) fld env (eval (.Name "self" p2) env) = eval (.Name "self" p2) env := by intro _; rfl)
    (hst : ∀ env : Env, starEach [.Attribute (.Name "self" p2) fld p3] env = [(false, eval (.Attribute (.Name "self" p2) fld p3) env)] := by intro _; rfl) :
    FnOk P w K mg base (L2N.CX P w) 1 f fd ["self"] (spIt K base.objs.size C fld) := by
  refine F.ok (k := 0) S (fun vs H Q E h => ?_) (fun cdv A outer s H vs Q E hr h => ?_)
  · obtain ⟨a, dx, fs, l, zs, rfl, _⟩ := h; rfl
  · obtain ⟨a, dx, fs, l, zs, rfl, ha, hc, hn, hl, hq, q⟩ := h
    refine ⟨_, pss_one (ps_ret (pe_callB call_iterB (hg _ _ _ _ _ _) hm (by rfl) (pa_cons (pe_fld (pe_var (i := 0) rfl hv (by decide) (by decide)) (hb _)) pa_nil (by rw [hst]; rfl)) (by decide) (by decide) (by rw [hst]; rfl) (by rfl))), ?_⟩
    exact ⟨.ref a, rfl, a, C, dx, fs, .ref l, rfl, ha, hc, hn, hl, l, zs, rfl, hq, q⟩
def iOwn (K : PySem.W.Frag) (C : Addr) (fld : Str) (te : TE) : TI := fun σ H R => te σ H fun x H1 => ∃ a dx fs l zs, x = .ref a ∧ H1 a = some (.ins C dx fs) ∧ Cls K C ∧ NoAttr K C fld ∧ fs.lookup fld = some (.ref l) ∧ SqL K H1 l zs ∧ R (Itl K l) H1
theorem itlF0 {K : PySem.W.Frag} {a : Addr} : ItX.ItlF K a 0 = Itl K a := by
  unfold ItX.ItlF
  simp only [Nat.zero_add]
section
variable {X : Cx} {k : Nat} {f C : Addr} {fd : FuncData} {ps : List Str} {fld : Str} {e : Expr} {te : TE}
/-- the own __iter__ runs: an iterator that nobody holds -/
theorem run_iter {A' : Around} {pins : List (Addr × Obj)} {σ : L2.St} {H : Hp} {s : Shared} {Q : Value → Shared → Prop} {a dx l : Addr} {fs : List (Str × V)} {zs : List V} (F : ∀ base, FnOk X.prog X.w X.K X.mg base (L2N.CX X.prog X.w) k f fd ps (spIt X.K base.objs.size C fld)) (hr : Room k A') (hfr : A'.frames = X.A.frames) (hb : Binds X.K fd ps [])
    (hs : PySem.W.findIn X.K (.ref C) "__iter__" = some (some (.ref f))) (hfn : PySem.W.isFn X.K (.ref f) = true)
    (I : Inv X pins σ H s) (ha : H a = some (.ins C dx fs)) (hc : Cls X.K C) (hn : NoAttr X.K C fld) (hl : fs.lookup fld = some (.ref l)) (hq : SqL X.K H l zs)
    (h : ∀ (it : Addr) (s' : Shared), H it = none → s.heap.objs.size ≤ it → Inv X pins σ (upd H it (ItO l it 0)) s' → Q (.ref it) s') : wpAny (model X.prog X.w) A' (pyIter (.ref a)) Q X.xe s := by
  obtain ⟨mA, J, _⟩ := ins_get I.hok ha
  obtain ⟨od, J, _⟩ := J.look
  obtain ⟨m, hF⟩ := I.fr
  refine PySem.W.owit_iter hF I.ok.mod.kin J hs hfn ?_
  have e0 : Env0 X.prog X.w X.K X.mg X.base A' X.stack s H := by
    have e := I.env0
    exact ⟨by rw [hfr]; exact e.frames, e.mod, e.bs, e.bsz, e.funs, e.frf, e.hok, e.bare⟩
  have e1 := env0_pad e0
  have hsz : (padH X.base s.heap.objs.size).objs.size = s.heap.objs.size := padH_size e0.bsz
  have F := F (padH X.base s.heap.objs.size)
  rw [hsz] at F
  have hsp : spIt X.K s.heap.objs.size C fld [.ref a] H (fun v H' => ∃ it, v = .ref it ∧ H it = none ∧ s.heap.objs.size ≤ it ∧ H' = upd H it (ItO l it 0)) (fun _ _ _ => False) := ⟨a, dx, fs, l, zs, rfl, ha, hc, hn, hl, hq, fun it hi hg => ⟨it, rfl, hi, hg, rfl⟩⟩
  have hlen : [Value.ref a].length = ps.length := F.len _ _ _ _ hsp
  have b := hb s [.ref a] I.kIn (by rw [List.append_nil]; exact hlen)
  rw [List.append_nil] at b
  refine wpAny_call (codeAny_mono (F.run A' X.stack s H ⟨[.ref a], []⟩ [.ref a] [.ref a] _ _ hr e1 b (.cons rfl .nil) hsp) fun r s' hq => ?_)
  cases r with
  | error e =>
    obtain ⟨_, _, _, _, _, _, _, _, _, _, _, _, w⟩ := hq
    exact w.elim
  | ok fl =>
    cases fl with
    | next => exact False.elim hq
    | brk => exact False.elim hq
    | cont => exact False.elim hq
    | ret u =>
      obtain ⟨v2, H2, I2, rv2, it2, ev2, hi, hge, eH2⟩ := I.after hq
      subst ev2 eH2
      obtain rfl : u = Value.ref it2 := rv2
      show wpAny _ _ (specialOf (.ref it2) "__next__") _ _ s'
      have hT : s'.TypeIs (.ref it2) "list_iterator" := ⟨_, itO_get I2 upd_same, rfl⟩
      exact wpAny_specialOf (name := Str.ofString "__next__") hT slot_listiter_next.lookup (h it2 s' hi hge I2)
theorem pi_own {tg : Expr} (F : ∀ base, FnOk X.prog X.w X.K X.mg base (L2N.CX X.prog X.w) k f fd ps (spIt X.K base.objs.size C fld)) (hr : Room k X.A) (hb : Binds X.K fd ps [])
    (hs : PySem.W.findIn X.K (.ref C) "__iter__" = some (some (.ref f))) (hfn : PySem.W.isFn X.K (.ref f) = true) (he : PE X e te) : PI X tg e (iOwn X.K C fld te) := by
  refine ⟨fun pins s σ H R I h => thn (he.run pins s σ H _ I h) fun u s1 ⟨v, H1, I1, r1, a, dx, fs, l, zs, ev, ha, hc, hn, hl, hq, q⟩ => ?_⟩
  subst ev
  obtain rfl : u = Value.ref a := r1
  refine run_iter F hr rfl hb hs hfn I1 ha hc hn hl hq fun it s' hi hge I2 => ?_
  have eo := itO_get I2 (upd_same (H := H1) (a := it) (o := ItO l it 0))
  have st : s'.heap.IsListIter it l (0 + 0) := ⟨_, eo, rfl, rfl⟩
  have I3 := ItX.inv_drop (φ := fun h => h.get? it = some (GNX.itObj l 0)) I2 (by rw [upd_same]; rfl)
  have I4 := ItX.inv_fp I2 (upd_same (H := H1) (a := it) (o := ItO l it 0)) (Nat.le_trans I1.sz hge)
  rw [ItX.dropH_upd hi] at I3 I4
  refine ⟨it, [it], _, _, H1, rfl, I3, ItX.turn_listF l it 0, st, fun b hb => ?_, by rw [itlF0]; exact q⟩
  obtain rfl : b = it := by simpa using hb
  exact I4
end
/-- the items of an object that is walked by its list f -/
def itemsO (c f : Str) : D → Option (List D)
  | .obj c' fs => if c' = c then (match fs.lookup f with
    | some (.lst l) => some l
    | _ => none) else none
  | _ => none
def aIterO (c f : Str) (a : AE) : AI := fun env st q er => a env st (fun d s1 => ∃ l, itemsO c f d = some l ∧ q l [] s1) er
theorem rep_items {K : PySem.W.Frag} {G : Gh} {c f : Str} {d : D} {v : V} {l : List D} (r : Rep K G d v) (e : itemsO c f d = some l) : ∃ p dx fs a vs, v = .ref p ∧ G.g p = some (.ins (He.ga K c) dx fs) ∧ fs.lookup f = some (.ref a) ∧ G.g a = some (.lst vs) ∧ Reps K G l vs := by
  cases r with
  | obj hp rf =>
    rename_i c' p dx fs vs
    have e' : (if c' = c then (match fs.lookup f with
      | some (.lst l) => some l
      | _ => none) else none) = some l := e
    clear e
    have e := e'; clear e'
    split at e
    · rename_i ec
      subst ec
      split at e
      · rename_i l' el
        cases e
        obtain ⟨w, hw, rw'⟩ := rf.look el
        cases rw' with
        | lst ha rs => exact ⟨p, dx, vs, _, _, rfl, hp, hw, ha, rs⟩
      · cases e
    · cases e
  | _ => cases e
section
variable {X : Cx} {W : WX} {k j : Nat} {fa : Addr} {fd : FuncData} {ps : List Str} {c fld : Str} {e tg : Expr} {ae : AE}
theorem axi_own (C : CxE X W k) (F : ∀ base, FnOk X.prog X.w X.K X.mg base (L2N.CX X.prog X.w) j fa fd ps (spIt X.K base.objs.size (He.ga X.K c) fld)) (hb : BindsD X.K fd ps []) (hcl : Cls X.K (He.ga X.K c)) (hna : NoAttr X.K (He.ga X.K c) fld)
    (hs : PySem.W.findIn X.K (.ref (He.ga X.K c)) "__iter__" = some (some (.ref fa))) (hfn : PySem.W.isFn X.K (.ref fa) = true) (he : AX X W e ae) (hj : j ≤ k) : AXI X W tg e (aIterO c fld ae) := by
  obtain ⟨t, p, r⟩ := he
  obtain ⟨ds0, v0, hb⟩ := hb
  cases v0
  refine ⟨_, pi_own F (C.room.mono hj) hb hs hfn p, fun G env st σ H R q er s sl a t tX => r G env st σ H _ _ er s sl a (fun v d st2 G2 H2 p2 s2 r2 ⟨l, el, h2⟩ => ?_) tX⟩
  obtain ⟨p, dx, fs, a, vs, rfl, hp, hl, ha, rs⟩ := rep_items r2 el
  refine ⟨p, dx, fs, a, vs, rfl, s2.ex.ins hp, hcl, hna, hl, SqL.of (s2.ex.lst ha), t _ _ _ st2 G2 H2 p2 s2 (walks_seq fun G3 st3 H3 le s3 _ => ⟨vs, rs.mono le, SqL.of (s3.ex.lst (le.g _ _ ha))⟩) h2⟩
end
end AM
set_option Elab.async false
set_option linter.all false
set_option maxRecDepth 100000
set_option maxHeartbeats 4000000
namespace AM
open PySem PySem.Spec PyProof.Rows L2 Evl
/-! ### fresh dicts: handed back, come from a call -/
def sRetD (f : AFd) : AS := fun env st k => f env st (fun l s1 => k.rt (.ownD l) s1) (fun e s1 => k.er e env s1)
section
variable {X : Cx} {W : WX} {e : Expr} {af : AFd} {pos p : Pos} {k j : Nat} {f : Addr} {fd : FuncData} {ps : List Str} {m : AF} {x : Str} {es : List Expr} {aa : AEs} {dd : List D} {dvs : List V}
theorem axs_retD (h : AXD X W e af) : AXS X W (.Return (some e) pos) (sRetD af) := by
  obtain ⟨t, p, r⟩ := h
  refine ⟨_, ps_ret p, fun G env st σ H D k s l a t => ?_⟩
  exact r G env st σ H _ _ _ s l a (fun v ds st2 G2 H2 p2 s2 r2 h2 => t.rt v (.ownD ds) st2 G2 H2 p2 s2 r2 h2) (t.x l)
theorem axd_call (C : CxE X W k) (F : FnOk X.prog X.w X.K X.mg X.base (L2N.CX X.prog X.w) j f fd ps (SpA X.K m)) (hm : X.mg x = some (.ref f)) (hk : PySem.W.keepIn X.K (.ref f) = true) (hb : BindsD X.K fd ps dvs) (hdd : ∀ G, Reps X.K G dd dvs) (ha : AXA X W (e :: es) aa) (hj : j ≤ k)
    (hg : Gl X x := by rfl) (hdb : (x == ("__debug__" : Str)) = false := by decide) (he : starEach (e :: es) X.env = (false, eval e X.env) :: starEach es X.env := by rfl) (hpl : (backTo pos (starEach es X.env)).any (·.1) = false := by rfl) : AXD X W (.Call (.Name x p) (e :: es) [] pos) (fdCall m aa dd) := by
  obtain ⟨t, p, r⟩ := ha
  obtain ⟨ds, hv, hb⟩ := hb
  refine ⟨_, pe_callSD F (C.room.mono hj) hg hm hk hb hv (fun σ => L2N.passAt C.takes σ) p hdb he hpl, fun G env st σ H Q q er s l h tE tX => ?_⟩
  refine r G env st σ H _ _ er s l h (fun vs ds st2 G2 H2 p2 s2 a2 h2 => ?_) tX
  refine ⟨G2, st2, _, _, er, s2, a2.append (hdd G2), h2, fun v r st3 G3 H3 p3 s3 r3 h3 => ?_, fun e c dx st3 G3 H3 p3 s3 ea h3 => tX e c dx st3 G3 H3 (p2.trans p3) s3 ea h3⟩
  cases r with
  | ownD l => exact tE v l st3 G3 H3 (p2.trans p3) s3 (r3.on p2) h3
  | _ => exact h3.elim
end
/-- a fresh list, a fresh dict, as a cell -/
def aCellL (f : AFr) : AE := fun env st q er => f env st (fun l s1 => q (.ref s1.length) (s1 ++ [.lst l])) er
def aCellD (f : AFd) : AE := fun env st q er => f env st (fun l s1 => q (.ref s1.length) (s1 ++ [.dic l])) er
section
variable {X : Cx} {W : WX} {e : Expr}
theorem ax_cellL {af : AFr} (h : AXF X W e af) : AX X W e (aCellL af) := by
  obtain ⟨t, p, r⟩ := h
  refine ⟨_, p, fun G env st σ H Q q er s l a tE tX => r G env st σ H _ _ er s l a (fun v ds st2 G2 H2 p2 s2 r2 h2 => ?_) tX⟩
  obtain ⟨G3, s3, p3, r3⟩ := own_cell s2 p2 r2
  exact tE v _ _ G3 H2 p3 s3 r3 h2
theorem ax_cellD {af : AFd} (h : AXD X W e af) : AX X W e (aCellD af) := by
  obtain ⟨t, p, r⟩ := h
  refine ⟨_, p, fun G env st σ H Q q er s l a tE tX => r G env st σ H _ _ er s l a (fun v ds st2 G2 H2 p2 s2 r2 h2 => ?_) tX⟩
  obtain ⟨G3, s3, p3, r3⟩ := ownd_cell s2 p2 r2
  exact tE v _ _ G3 H2 p3 s3 r3 h2
end
/-! ### the methods, by values -/
section
variable {X : Cx}
def rClearT : V → List V → Hp → VK → Prop := fun x xs H Q => ∃ a kvs, x = .ref a ∧ xs = [] ∧ H a = some (.dT kvs) ∧ Q .non (upd H a (.dT []))
theorem mt_clearT : MtR X "dict.clear" rClearT := by
  intro pins s σ H x xs v us Q I rx rxs h
  obtain ⟨a, kvs, rfl, rfl, ha, q⟩ := h
  cases rx
  cases rxs
  obtain ⟨z, hd, xs', rel, dd⟩ := dt_of I.hok ha
  have hz : (pairsH xs').length ≤ sizeLine := by rw [show (pairsH xs').length = xs'.length by simp [pairsH], ← Paired.length rel]; exact z
  refine clear_keyed (knd := tupleKind (mixKind X.prog X.w)) ⟨xs', dd, rfl⟩ (fun h' hm' hs => ?_) hz
  obtain ⟨ys, dd', e⟩ := hm'
  have ey : ys = [] := List.map_eq_nil_iff.mp e
  subst ey
  obtain ⟨o, es, ep, hq, h2, h3, h4, _, h5⟩ := dd'
  have I2 : Inv X pins σ (upd H a (.dT [])) { s with heap := h' } := d_write (t' := s.toks) I (by rw [ha]; exact True.intro) hs ⟨o, hq⟩ ⟨Nat.zero_le _, hd, [], .nil, o, es, ep, hq, h2, h3, h4, h5⟩
  exact ⟨.non, _, I2, rfl, q⟩
def rGetT : V → List V → Hp → VK → Prop := fun x xs H Q => ∃ (a : Addr) (kvs : List (List L2.Key × V)) (k : List L2.Key) (b : Addr) (d : V), x = .ref a ∧ xs = [.ref b, d] ∧ Rd H a (.dT kvs) ∧ H b = some (.tup (k.map kV)) ∧ Q ((valV kvs k).getD d) H
theorem valueAt_pairs {κ : Type} [DecidableEq κ] (xs : List (κ × Addr × Value)) (k : κ) : valueAt (pairsH xs) k = (atKey xs k).map (·.2) := valueAt_pairsH xs k
theorem mt_getT (hu : X.A.units + 1 < cLine) : MtR X "dict.get" rGetT := by
  intro pins s σ H x xs v us Q I rx rxs h
  obtain ⟨a, kvs, k, b, d, rfl, rfl, ha, hb, q⟩ := h
  cases rx
  obtain ⟨u1, u2, rfl, r1, r2⟩ := vals2 rxs
  cases r1
  obtain ⟨z, hd, xs', rel, dd⟩ := dt_rd I.hok ha
  refine getOr_keyed (knd := tupleKind (mixKind X.prog X.w)) (tupleKind_room_in1 hu) (key_of I.hok hb) hd ⟨xs', dd, rfl⟩ ?_
  rw [valueAt_pairsH]
  have r := rel.val k
  refine ⟨(valV kvs k).getD d, H, I.tok _, ?_, q⟩
  revert r
  cases valV kvs k <;> cases (atKey xs' k).map (·.2) <;> intro r
  · exact r2
  · exact (show False from r).elim
  · exact (show False from r).elim
  · exact r
end
/-! ### by data -/
inductive DGetD : List (D × D) → D → Option D → Prop
  | hit {l : List (D × D)} {k v : D} : DLook l k v → DGetD l k (some v)
  | miss {l : List (D × D)} {k : D} : (∀ p ∈ l, p.1 ≠ k) → DGetD l k none
theorem RepT.getD {K : PySem.W.Frag} {G : Gh} {l : List (D × D)} {kvs : List (List Key × V)} {k : List Key} {o : Option D} {d : D} {v : V} (r : RepT K G l kvs) (rd : Rep K G d v) (h : DGetD l (.tup (k.map kD)) o) : Rep K G (o.getD d) ((valV kvs k).getD v) := by
  generalize hk : D.tup (k.map kD) = kk at h
  cases h with
  | hit hl =>
    subst hk
    obtain ⟨w, e, rw'⟩ := r.look hl
    rw [e]; exact rw'
  | miss hm =>
    subst hk
    rw [r.none hm]; exact rd
/-- d.clear() -/
def aClrD (o : AE) : AE := fun env st q er => o env st (fun x s1 => ∃ n l, x = .ref n ∧ s1[n]? = some (.dic l) ∧ q .non (s1.set n (.dic []))) er
/-- d.get(k, x) -/
def aGetD (o a b : AE) : AE := fun env st q er => o env st (fun x s1 => (∃ l0, vw s1 x = .dic l0) ∧ a env s1 (fun y s2 => b env s2 (fun z s3 => ∃ l r, vw s3 x = .dic l ∧ isKeyT (vw s3 y) ∧ DGetD l (vw s3 y) r ∧ q (r.getD z) s3) er) er) er
/-- x.pop(), x.pop(i), x.clear(): lists -/
def aPopL (o : AE) : AE := fun env st q er => o env st (fun x s1 => ∃ n l y, x = .ref n ∧ s1[n]? = some (.lst l) ∧ l[l.length - 1]? = some y ∧ q y (s1.set n (.lst l.dropLast))) er
def aPopI (o a : AE) : AE := fun env st q er => o env st (fun x s1 => ∃ n l0, x = .ref n ∧ s1[n]? = some (.lst l0) ∧ a env s1 (fun j s2 => ∃ (i : Nat) (l : List D) (y : D), j = .int (i : Int) ∧ i < 2 ^ 63 ∧ s2[n]? = some (.lst l) ∧ l[i]? = some y ∧ q y (s2.set n (.lst (l.eraseIdx i)))) er) er
def aClrL (o : AE) : AE := fun env st q er => o env st (fun x s1 => ∃ n l, x = .ref n ∧ s1[n]? = some (.lst l) ∧ q .non (s1.set n (.lst []))) er
section
variable {K : PySem.W.Frag} {G : Gh}
theorem Reps.erase : ∀ {ds : List D} {vs : List V} (i : Nat), Reps K G ds vs → Reps K G (ds.eraseIdx i) (vs.eraseIdx i)
  | _, _, _, .nil => .nil
  | _, _, 0, .cons _ r => r
  | _, _, i + 1, .cons q r => .cons q (Reps.erase i r)
theorem Reps.dropLast : ∀ {ds : List D} {vs : List V}, Reps K G ds vs → Reps K G ds.dropLast vs.dropLast
  | _, _, .nil => .nil
  | _, _, .cons h .nil => .nil
  | _, _, .cons h (.cons h2 r) => .cons h (Reps.dropLast (.cons h2 r))
end
section
variable {X : Cx} {W : WX} {k : Nat} {o e e2 : Expr} {ao ae ab : AE} {pos apos : Pos}
theorem ax_clrD (ho : AX X W o ao) (hbase : attributeBase o "clear" X.env (eval o X.env) = eval o X.env := by rfl) (hline : (apos.endLine == pos.line) = true := by rfl) : AX X W (.Call (.Attribute o "clear" apos) [] [] pos) (aClrD ao) := by
  obtain ⟨t, p, r⟩ := ho
  refine ⟨_, pe_bm0 PySem.F.plainAttrs_dict PySem.F.slot_dict_clear PySem.F.type_dict_clear mt_clearT p hbase hline, fun G env st σ H Q q er s l h tE tX => ?_⟩
  refine r G env st σ H _ _ er s l h (fun v d st1 G1 H1 p1 s1 r1 h1 => ?_) tX
  obtain ⟨n, ls, rfl, hn, h1⟩ := h1
  cases r1 with
  | ref ep =>
    rename_i a
    obtain ⟨gp, kvs, hp, rk⟩ := s1.cell n _ a hn ep
    obtain ⟨s2, p2⟩ := s1.setCell (n := n) (c' := .dic []) (o := .dT []) ep gp ⟨gp, [], upd_same, .nil⟩
    exact ⟨Or.inr (Or.inr (Or.inl ⟨rfl, .inr ⟨_, hp⟩⟩)), a, kvs, rfl, rfl, hp, tE .non .non _ G1 _ (p1.trans p2) s2 .non h1⟩
theorem ax_clrL (ho : AX X W o ao) (hbase : attributeBase o "clear" X.env (eval o X.env) = eval o X.env := by rfl) (hline : (apos.endLine == pos.line) = true := by rfl) : AX X W (.Call (.Attribute o "clear" apos) [] [] pos) (aClrL ao) := by
  obtain ⟨t, p, r⟩ := ho
  refine ⟨_, pe_bm0 PySem.F.plainAttrs_list PySem.F.slot_list_clear PySem.F.type_list_clear mt_clear p hbase hline, fun G env st σ H Q q er s l h tE tX => ?_⟩
  refine r G env st σ H _ _ er s l h (fun v d st1 G1 H1 p1 s1 r1 h1 => ?_) tX
  obtain ⟨n, ls, rfl, hn, h1⟩ := h1
  cases r1 with
  | ref ep =>
    rename_i a
    obtain ⟨vs, gp, hp, rk⟩ := s1.cell n _ a hn ep
    obtain ⟨s2, p2⟩ := s1.setCell (n := n) (c' := .lst []) (o := .lst []) ep gp ⟨[], gp, upd_same, .nil⟩
    exact ⟨Or.inl ⟨rfl, _, Or.inl (Or.inl hp)⟩, a, vs, rfl, rfl, hp, tE .non .non _ G1 _ (p1.trans p2) s2 .non h1⟩
theorem ax_popL (ho : AX X W o ao) (hbase : attributeBase o "pop" X.env (eval o X.env) = eval o X.env := by rfl) (hline : (apos.endLine == pos.line) = true := by rfl) : AX X W (.Call (.Attribute o "pop" apos) [] [] pos) (aPopL ao) := by
  obtain ⟨t, p, r⟩ := ho
  refine ⟨_, pe_bm0 PySem.F.plainAttrs_list PySem.F.slot_list_pop PySem.F.type_list_pop mt_pop p hbase hline, fun G env st σ H Q q er s l h tE tX => ?_⟩
  refine r G env st σ H _ _ er s l h (fun v d st1 G1 H1 p1 s1 r1 h1 => ?_) tX
  obtain ⟨n, ls, y, rfl, hn, hy, h1⟩ := h1
  cases r1 with
  | ref ep =>
    rename_i a
    obtain ⟨vs, gp, hp, rk⟩ := s1.cell n _ a hn ep
    obtain ⟨w, hw, rw'⟩ := rk.get hy
    obtain ⟨s2, p2⟩ := s1.setCell (n := n) (c' := .lst ls.dropLast) (o := .lst vs.dropLast) ep gp ⟨_, gp, upd_same, rk.dropLast⟩
    exact ⟨Or.inl ⟨rfl, _, Or.inl (Or.inl hp)⟩, a, vs, w, rfl, rfl, hp, by rw [← rk.length]; exact hw, tE w y _ G1 _ (p1.trans p2) s2 (rw'.mono p2.le) h1⟩
theorem ax_popI (ho : AX X W o ao) (he : AX X W e ae) (hbase : attributeBase o "pop" X.env (eval o X.env) = eval o X.env := by rfl)
    (hfew : ((backTo pos (starEach [e] X.env)).all (fun x => !x.1) && (backToKw pos (keywordEach [] X.env)).all (fun x => x.1.isSome) && decide (([e] : List Expr).length + ([] : List Keyword).length + (if ([] : List Keyword).isEmpty then 0 else 1) < 30)) = true := by rfl)
    (hline : (apos.endLine == pos.line) = true := by rfl) (hs : starEach [e] X.env = (false, eval e X.env) :: starEach [] X.env := by rfl) : AX X W (.Call (.Attribute o "pop" apos) [e] [] pos) (aPopI ao ae) := by
  obtain ⟨to, po, ro⟩ := ho
  obtain ⟨te, pe, re⟩ := he
  refine ⟨_, pe_bm PySem.F.plainAttrs_list PySem.F.slot_list_pop PySem.F.type_list_pop mt_popAt po (pa_cons pe pa_nil hs) hbase hfew hline hs rfl, fun G env st σ H Q q er s l h tE tX => ?_⟩
  refine ro G env st σ H _ _ er s l h (fun v d st1 G1 H1 p1 s1 r1 h1 => ?_) tX
  obtain ⟨n, l0, rfl, hn, h1⟩ := h1
  cases r1 with
  | ref ep =>
    rename_i a
    obtain ⟨vs, gp, hp, rk⟩ := s1.cell n _ a hn ep
    refine ⟨Or.inl ⟨rfl, _, Or.inl (Or.inl hp)⟩, re G1 env st1 σ H1 _ _ er s1 (l.mono p1.le) h1 (fun w d st2 G2 H2 p2 s2 r2 h2 => ?_) (tX.on p1)⟩
    obtain ⟨i, ls, y, rfl, hi, hn2, hy, h2⟩ := h2
    cases r2
    obtain ⟨vs2, gp2, hp2, rk2⟩ := s2.cell n _ a hn2 (pre_get p2.le.a ep)
    obtain ⟨w, hw, rw'⟩ := rk2.get hy
    obtain ⟨s3, p3⟩ := s2.setCell (n := n) (c' := .lst (ls.eraseIdx i)) (o := .lst (vs2.eraseIdx i)) (pre_get p2.le.a ep) gp2 ⟨_, gp2, upd_same, rk2.erase i⟩
    have hil := (List.getElem?_eq_some_iff.mp hw).1
    refine ⟨a, vs2, (i : Int), i, w, rfl, rfl, hp2, by omega, by omega, ?_, hw, tE w y _ G2 _ ((p1.trans p2).trans p3) s3 (rw'.mono p3.le) h2⟩
    rw [seqIndex_of (by omega) (by simpa using hil)]
    simp
def tyDict (x : V) (H : Hp) : Prop := ∃ a kvs, x = .ref a ∧ Rd H a (.dT kvs)
theorem tyDict_is {pins : List (Addr × Obj)} {σ : L2.St} {H : Hp} {s : Shared} {x : V} {v : Value} (I : Inv X pins σ H s) (rx : RelV x v) (ty : tyDict x H) : s.TypeIs v "dict" ∧ ∀ b, v = .ref b → ∃ ob, s.heap.get? b = some ob ∧ ob.dict = none := by
  obtain ⟨a, kvs, rfl, e⟩ := ty
  obtain rfl : v = Value.ref a := rx
  obtain ⟨_, _, xs, _, dd⟩ := dt_rd I.hok e
  refine ⟨dd.typeIs, fun b q => ?_⟩
  cases q
  obtain ⟨ob, _, _, h1, h2, _⟩ := dd
  exact ⟨ob, h1, h2.2.1⟩
def tBMD (r : V → List V → Hp → VK → Prop) (to : TE) (t : TA) : TE := fun σ H Q => to σ H fun x H1 => tyDict x H1 ∧ t σ H1 fun xs H2 => r x xs H2 Q
theorem pe_bmD {o e : Expr} {es : List Expr} {to : TE} {t : TA} {name : Str} {apos cpos : Pos} {id : String} {r : V → List V → Hp → VK → Prop} (pa : PlainAttrs "dict") (slot : Slot "dict" name id) (hty : typeOf (.builtin id) = pure (.type "method_descriptor")) (hm : MtR X id r) (ho : PE X o to) (ha : PA X (e :: es) t)
    (hbase : attributeBase o name X.env (eval o X.env) = eval o X.env := by rfl)
    (hfew : ((backTo cpos (starEach (e :: es) X.env)).all (fun x => !x.1) && (backToKw cpos (keywordEach [] X.env)).all (fun x => x.1.isSome)
      && decide ((e :: es).length + ([] : List Keyword).length + (if ([] : List Keyword).isEmpty then 0 else 1) < 30)) = true := by rfl)
    (hline : (apos.endLine == cpos.line) = true := by rfl) (hs : starEach (e :: es) X.env = (false, eval e X.env) :: starEach es X.env := by rfl) (hplain : (backTo cpos (starEach es X.env)).any (·.1) = false := by rfl) :
    PE X (.Call (.Attribute o name apos) (e :: es) [] cpos) (tBMD r to t) := by
  refine ⟨fun pins s σ H Q I h => ?_⟩
  refine wpAny_Call_method_late hbase hfew hline rfl (thn (ho.run pins s σ H _ I h) fun v s1 ⟨x, H1, I1, r1, ty, q1⟩ => ?_)
  obtain ⟨h1, h2⟩ := tyDict_is I1 r1 ty
  refine ⟨"dict", id, pa, slot, hty, h1, h2, ?_⟩
  have hA := ha.run cpos pins s1 σ H1 _ I1 q1
  rw [hs] at hA ⊢
  refine Calls.callWith_builtin (by show (false || (backTo cpos (starEach es X.env)).any (·.1)) = false; rw [hplain] <;> rfl) (Calls.evalArgs_plain ?_)
  exact thn hA fun us s2 ⟨vs, H2, I2, r2, q2⟩ => hm pins s2 σ H2 x vs v us Q I2 r1 r2 q2
theorem ax_getD (C : CxE X W k) (ho : AX X W o ao) (he : AX X W e ae) (he2 : AX X W e2 ab) (hbase : attributeBase o "get" X.env (eval o X.env) = eval o X.env := by rfl)
    (hfew : ((backTo pos (starEach [e, e2] X.env)).all (fun x => !x.1) && (backToKw pos (keywordEach [] X.env)).all (fun x => x.1.isSome) && decide (([e, e2] : List Expr).length + ([] : List Keyword).length + (if ([] : List Keyword).isEmpty then 0 else 1) < 30)) = true := by rfl)
    (hline : (apos.endLine == pos.line) = true := by rfl) (hs : starEach [e, e2] X.env = (false, eval e X.env) :: starEach [e2] X.env := by rfl) (hs2 : starEach [e2] X.env = (false, eval e2 X.env) :: starEach [] X.env := by rfl) (hpl : (backTo pos (starEach [e2] X.env)).any (·.1) = false := by rfl) : AX X W (.Call (.Attribute o "get" apos) [e, e2] [] pos) (aGetD ao ae ab) := by
  obtain ⟨to, po, ro⟩ := ho
  obtain ⟨te, pe, re⟩ := he
  obtain ⟨tb, pb, rb⟩ := he2
  refine ⟨_, pe_bmD PySem.F.plainAttrs_dict PySem.F.slot_dict_get PySem.F.type_dict_get (mt_getT (by have := u64 C.room; omega)) po (pa_cons pe (pa_cons pb pa_nil hs2) hs) hbase hfew hline hs hpl, fun G env st σ H Q q er s l h tE tX => ?_⟩
  refine ro G env st σ H _ _ er s l h (fun v d st1 G1 H1 p1 s1 r1 h1 => ?_) tX
  obtain ⟨⟨l0, e0⟩, h1⟩ := h1
  have rv := r1.vw s1
  rw [e0] at rv
  obtain ⟨a, kvs, ev, hp⟩ : ∃ a kvs, v = .ref a ∧ Rd H1 a (.dT kvs) := by
    cases rv with
    | dicT hp rk => exact ⟨_, _, rfl, hp⟩
  subst ev
  refine ⟨⟨_, _, rfl, hp⟩, re G1 env st1 σ H1 _ _ er s1 (l.mono p1.le) h1 (fun w d2 st2 G2 H2 p2 s2 r2 h2 => ?_) (tX.on p1)⟩
  have p12 := p1.trans p2
  refine rb G2 env st2 σ H2 _ _ er s2 (l.mono p12.le) h2 (fun w3 d3 st3 G3 H3 p3 s3 r3 h3 => ?_) (tX.on p12)
  have p13 := p12.trans p3
  obtain ⟨ls, o', e3, ⟨kk, ek⟩, hg, h3⟩ := h3
  have rx3 := (r1.mono (p2.trans p3).le).vw s3
  rw [e3] at rx3
  have ry3 := (r2.mono p3.le).vw s3
  rw [ek] at ry3 hg
  cases rx3 with
  | dicT hp3 rk3 =>
    cases ry3 with
    | tup hy rs _ =>
      have := reps_kD rs
      subst this
      exact ⟨a, _, kk, _, w3, rfl, rfl, hp3, hy, tE _ _ st3 G3 H3 p13 s3 (RepT.getD rk3 r3 hg) h3⟩
/-- d[k] = v, keys tuples: the value first -/
def sSetDx (o b a : AE) : AS := fun env st k => a env st (fun d s1 => o env s1 (fun x s2 => b env s2 (fun j s3 => ∃ n l l2, x = .ref n ∧ s3[n]? = some (.dic l) ∧ isKeyT (vw s3 j) ∧ l.length < 100000 ∧ DPutD l (vw s3 j) d l2 ∧ k.nx env (s3.set n (.dic l2))) (fun e s => k.er e env s)) (fun e s => k.er e env s)) (fun e s => k.er e env s)
theorem axs_setDx {a b : Expr} {aa : AE} {spos : Pos} (C : CxE X W k) (ha : AX X W a aa) (ho : AX X W o ao) (hb : AX X W b ab)
    (hg : ∀ v, assign (.Subscript o b spos) X.env v = (do
      let ov ← holding [v] (eval o X.env)
      let iv ← holding [v, ov] (eval b X.env)
      standAt spos
      holding [v, ov, iv] (setItem ov iv v)
      release [v, ov, iv] []) := by intro _; rfl)
    (hs : swapsWithSole [.Subscript o b spos] a pos.line X.env = pure false := by rfl) (hw : swappedStores [.Subscript o b spos] a X.env = pure none := by rfl) (h1 : (assignEach [.Subscript o b spos] X.env).map (·.2) = [assign (.Subscript o b spos) X.env] := by rfl) :
    AXS X W (.Assign [.Subscript o b spos] a pos) (sSetDx ao ab aa) := by
  obtain ⟨ta, pa, ra⟩ := ha
  obtain ⟨to, po, ro⟩ := ho
  obtain ⟨tb, pb, rb⟩ := hb
  refine ⟨_, ps_asg pa (pg_sub po pb (set_dict (by have := u64 C.room; omega)) hg) hs hw h1, fun G env st σ H D k s l h t => ?_⟩
  refine ra G env st σ H _ _ _ s l h (fun v d st1 G1 H1 p1 s1 r1 h1 => ?_) (t.x l)
  refine ro G1 env st1 σ H1 _ _ _ s1 (l.mono p1.le) h1 (fun w x st2 G2 H2 p2 s2 r2 h2 => ?_) ((t.x l).on p1)
  refine rb G2 env st2 σ H2 _ _ _ s2 (l.mono (p1.trans p2).le) h2 (fun u j st3 G3 H3 p3 s3 r3 h3 => ?_) ((t.x l).on (p1.trans p2))
  have p13 := (p1.trans p2).trans p3
  obtain ⟨n, ls, l2, rfl, hn, ⟨kk, ek⟩, hsz, hput, h3⟩ := h3
  cases r2 with
  | ref ep =>
    rename_i p
    have ep3 := pre_get p3.le.a ep
    obtain ⟨gp, kvs, hp, rk⟩ := s3.cell n _ p hn ep3
    have ry := r3.vw s3
    rw [ek] at ry hput
    cases ry with
    | tup hy rs _ =>
      have := reps_kD rs
      subst this
      obtain ⟨s4, p4⟩ := s3.setCell (n := n) (c' := .dic l2) (o := .dT (putK kvs kk v)) ep3 gp ⟨gp, _, upd_same, RepT.put (r1.mono (p2.trans p3).le) rk hput⟩
      exact ⟨p, _, rfl, DPut.t hp hy (sz_lt (by rw [← rk.length]; exact hsz)), t.nx env σ _ G3 _ (p13.trans p4) s4 (l.mono (p13.trans p4).le) h3⟩
end
/-! ### != of dicts -/
section
variable {prog : Program} {w : World} {K : Type} [DecidableEq K] {knd : HeapKind prog w K} {A : Around} {E : Value → Shared → Prop} {s : Shared}
theorem neH {a b : Addr} {xa xb : List (K × Addr × Value)} {r : Bool} {Q : Value → Shared → Prop} (hr : knd.room A.in1) (ha : (a == sysModules) = false) (hb : (b == sysModules) = false)
    (da : s.heap.DictOfH knd a xa) (db : s.heap.DictOfH knd b xb) (hu : A.units < cLine) (hits : xa.length = xb.length → HitsH A.in1 s xb xa r) (h : Q (.bool (!(xa.length == xb.length && r))) s) :
    wpAny (model prog w) A (compareOp .NotEq (.ref a) (.ref b)) Q E s := by
  have tb := typeIsH db
  have ta := typeIsH da
  refine wpAny_richCompare_same_room (op := .NotEq) ta tb PySem.F.slot_dict_ne (wpAny_call_entry PySem.F.slot_dict_ne ta PySem.F.entry_dict_ne ?_ (PySem.F.args_dict_ne_2 _ _)) hu
  show wpAny _ _ (Builtin.Dict.dictSlotArgs "__ne__" ⟨[.ref a, .ref b], []⟩ >>= _) _ _ s
  refine wpAny_bind ?_
  unfold Builtin.Dict.dictSlotArgs
  refine wpAny_bind (wpAny_notOrdered_dict ta (wpAny_pure ?_))
  refine wpAny_bind (wpAny_isInstance (T := "dict") tb PySem.F.sub_dict_dict ?_)
  simp only [Bool.not_true, Bool.false_eq_true, if_false]
  refine wpAny_bind (wpAny_pure (wpAny_bind (wpAny_pure (wpAny_bind (samePairsH hr ha hb da db hits (wpAny_pure ⟨_, rfl, ?_, ?_⟩))))))
  · exact fun x => nomatch x
  · simpa using h
end
def rNeT (K : PySem.W.Frag) : R2 := fun x y H Q => ∃ a b kvs kws r, x = .ref a ∧ y = .ref b ∧ Rd H a (.dT kvs) ∧ Rd H b (.dT kws) ∧ (kvs.length = kws.length → VHits K H kws kvs r) ∧ Q (.bl (!(kvs.length == kws.length && r))) H
def oEqD : O2 := fun x y q => ∃ l m b, x = .dic l ∧ y = .dic m ∧ (l.length = m.length → DHits m l b) ∧ q (.bl (l.length == m.length && b))
def oNeD : O2 := fun x y q => ∃ l m b, x = .dic l ∧ y = .dic m ∧ (l.length = m.length → DHits m l b) ∧ q (.bl (!(l.length == m.length && b)))
section
variable {X : Cx} {W : WX} {k : Nat}
theorem op_neT (hu : X.A.units + 65 < cLine) : OpR X (compareOp .NotEq) (rNeT X.K) := by
  intro pins s σ H x y v u Q I rx ry h
  obtain ⟨a, b, kvs, kws, r, rfl, rfl, ea, eb, hh, q⟩ := h
  obtain rfl : v = Value.ref a := rx
  obtain rfl : u = Value.ref b := ry
  obtain ⟨_, ha, xa, ra, da⟩ := dt_rd I.hok ea
  obtain ⟨_, hb, xb, rb, db⟩ := dt_rd I.hok eb
  have l1 := Paired.length ra
  have l2 := Paired.length rb
  have hu1 : X.A.in1.units + 64 < cLine := by show X.A.units + 1 + 64 < cLine; omega
  refine neH (show (tupleKind (mixKind X.prog X.w)).room X.A.in1 by show X.A.units + 1 < cLine; omega) ha hb da db (by omega) (r := r) (fun hl => hits_of hu1 I rb (by obtain ⟨_, _, _, _, _, _, _, _, hn⟩ := db; exact hn) ra (hh (by omega))) ?_
  rw [← l1, ← l2]
  exact ⟨.bl _, H, I, rfl, q⟩
theorem Rv.dicT' {K : PySem.W.Frag} {G : Gh} {H : Hp} {l : List (D × D)} {v : V} (r : Rv K G H (.dic l) v) : ∃ a kvs, v = .ref a ∧ Rd H a (.dT kvs) ∧ RepT K G l kvs := by
  cases r with
  | dicT hp rk => exact ⟨_, _, rfl, hp, rk⟩
theorem op_EqD (C : CxE X W k) : OpR X (compareOp .Eq) (rEqT X.K) ∧ RefO X.K (rEqT X.K) oEqD := ⟨(op_EqT C).1, fun G st H x y dx dy Q q s rx ry h t => by
  obtain ⟨l, m, b, rfl, rfl, hh, h⟩ := h
  obtain ⟨a, kvs, rfl, ha, ra⟩ := rx.dicT'
  obtain ⟨a', kws, rfl, hb, rb⟩ := ry.dicT'
  refine ⟨a, a', kvs, kws, b, rfl, rfl, ha, hb, fun e => vhits s.ex rb ra (hh (by rw [ra.length, rb.length]; exact e)), ?_⟩
  rw [← ra.length, ← rb.length]
  exact t.here s (.bl _) h⟩
theorem op_NeD (C : CxE X W k) : OpR X (compareOp .NotEq) (rNeT X.K) ∧ RefO X.K (rNeT X.K) oNeD := ⟨op_neT (u64 C.room), fun G st H x y dx dy Q q s rx ry h t => by
  obtain ⟨l, m, b, rfl, rfl, hh, h⟩ := h
  obtain ⟨a, kvs, rfl, ha, ra⟩ := rx.dicT'
  obtain ⟨a', kws, rfl, hb, rb⟩ := ry.dicT'
  refine ⟨a, a', kvs, kws, b, rfl, rfl, ha, hb, fun e => vhits s.ex rb ra (hh (by rw [ra.length, rb.length]; exact e)), ?_⟩
  rw [← ra.length, ← rb.length]
  exact t.here s (.bl _) h⟩
end
end AM
set_option Elab.async false
set_option linter.all false
set_option maxRecDepth 100000
set_option maxHeartbeats 4000000
namespace AM
open PySem PySem.Spec PyProof.Rows L2 Evl
/-! ### sum of a list or of a tuple -/
section
variable {X : Cx} {W : WX} {k : Nat}
def rSumT (K : PySem.W.Frag) : List V → Hp → VK → Prop := fun vs H Q => rSum K vs H Q ∨ ∃ (a : Addr) (ns : List Int), vs = [V.ref a] ∧ SqT K H a (ns.map V.int) ∧ Q (.int ns.sum) H
theorem cr_sumT (hc : X.calm = true) : CallR X (.builtin "sum") (rSumT X.K) := by
  intro pins s σ H vs us Q I r h
  rcases h with h | ⟨a, ns, rfl, hs, q⟩
  · exact cr_sum hc pins s σ H vs us Q I r h
  · obtain ⟨its, rv, hl, _⟩ := I.tuple hs
    have hl' : s.heap.IsTuple a its.toArray := hl
    have hi : IntsAre its ns := rv.ints
    rw [Vals.ref1 r]
    obtain ⟨xs, hx⟩ := hi.allInts.items
    have hn : numsOf its.toArray.toList = ns := by rw [show its.toArray.toList = its from rfl, hi.numsOf]
    rw [hx] at hl' hn
    rw [nums_intItems] at hn
    refine PySem.W.ktm_sumG (I.ok.hd hc) hl' fun h' tk t' hk => ?_
    refine ⟨.int _, H, I.kept hk, ⟨_, rfl⟩, ?_⟩
    rw [preSum_eq, List.take_of_length_le (by simp), hn]
    exact q
def bSumA : ON := fun xs q => match xs with
  | [.tup l] => ∃ ns : List Int, l = ns.map D.int ∧ q (.int ns.sum)
  | _ => bSum xs q
theorem cb_sumA (C : CxE X W k) : CB X (.builtin "sum") bSumA := ⟨_, cr_sumT C.calm, fun G st H xs ds Q q s r h t => by
  unfold bSumA at h
  split at h
  · obtain ⟨bs, eb, h⟩ := h
    subst eb
    cases r with
    | cons r1 r2 =>
      cases r2
      cases r1 with
      | tup h1 r1 _ =>
        have := ints_ok r1
        subst this
        exact .inr ⟨_, bs, rfl, SqT.of h1, t.here s (.int _) h⟩
  · obtain ⟨bs, eb, h⟩ := h
    subst eb
    cases r with
    | cons r1 r2 =>
      cases r2
      cases r1 with
      | lst h1 r1 =>
        have := ints_ok r1
        subst this
        exact .inl ⟨_, bs, rfl, SqL.of h1, t.here s (.int _) h⟩⟩
@[simp ↓] theorem ev_bSumA_l {l : List D} {q : D → Prop} : bSumA [.lst l] q = bSum [.lst l] q := propext Iff.rfl
@[simp ↓] theorem ev_bSumA_t {l : List D} {q : D → Prop} : bSumA [.tup l] q = ∃ ns : List Int, l = ns.map D.int ∧ q (.int ns.sum) := propext Iff.rfl
end
end AM
set_option Elab.async false
set_option linter.all false
set_option maxRecDepth 100000
set_option maxHeartbeats 4000000
namespace AM
open PySem PySem.Spec L2 Evl
/-! ### xs[:] = ys -/
section
variable {prog : Program} {w : World} {A : Around} {E : Value → Shared → Prop} {s : Shared}
theorem setWhole {l b sl : Addr} {items new : Array Value} {n : Nat} {Q : Unit → Shared → Prop} (ho : s.heap.get? l = some { cls := .type "list", data := .seq items n })
    (hb : s.heap.IsList b new) (hs : s.heap.IsSliceOf sl .none .none .none) (hz : items.size + new.size ≤ sizeLine)
    (h : ∀ f : Array Value → Array Value, f items = new → Q () { s with heap := s.heap.update l (Obj.mapSeq f) }) : wpAny (model prog w) A (setItem (.ref l) (.ref sl) (.ref b)) Q E s := by
  have hl : s.heap.IsList l items := PySem.IsL.isList (n := n) ho
  obtain ⟨os, hos, hcs, hds⟩ := id hs
  obtain ⟨ob, hob, hcb, nb, hdb⟩ := id hb
  have hTs : s.TypeIs (.ref sl) "slice" := ⟨os, hos, hcs⟩
  have hTb : s.TypeIs (.ref b) "list" := ⟨ob, hob, hcb⟩
  unfold setItem
  try with_reducible refine wpAny_holding ?_
  first | refine wpAny_bind (wpAny_pure ?_) | skip
  refine wpAny_bind (wpAny_sequenceKey hl.typeIs (by decide) ?_)
  refine wpAny_bind (wpAny_callSpecial?_slot (name := Str.ofString "__setitem__") hl.typeIs PySem.slot_list_setitem
    (wpAny_call_entry PySem.slot_list_setitem hl.typeIs PySem.entry_list_setitem ?_ (PySem.args_list_setitem _ _ _)))
  show wpAny _ _ (Builtin.List.listSubscript? (.ref sl) >>= _) _ _ s
  refine wpAny_bind ?_
  unfold Builtin.List.listSubscript?
  refine wpAny_bind (wpAny_specialOf hTs slice_no_index ?_)
  simp only [Option.isNone_none, if_true]
  refine wpAny_pure ?_
  show wpAny _ _ (typeOf (.ref sl) >>= _) _ _ s
  refine wpAny_bind (wpAny_typeOf hTs ?_)
  rw [if_neg (by decide)]
  rw [listSliceParts_eq]
  refine wpAny_bind (wpAny_bind (wpAny_field hos hds (x := .none) rfl (wpAny_bind (wpAny_listPart .none ?_))))
  rw [if_neg (show ¬ ((rawPart none == rawInt 0) = true) from Bool.false_ne_true)]
  refine wpAny_bind (wpAny_field hos hds (x := .none) rfl (wpAny_bind (wpAny_listPart .none ?_)))
  refine wpAny_bind (wpAny_field hos hds (x := .none) rfl (wpAny_bind (wpAny_listPart .none (wpAny_pure ?_))))
  have hi : ∀ {A : Around} {E : Value → Shared → Prop} {Q : Array Value → Shared → Prop}, Q new s → wpAny (model prog w) A (Builtin.List.listItems (.ref b)) Q E s := by
    intro A E Q q
    unfold Builtin.List.listItems
    exact wpAny_bind (wpAny_seqItems hob hdb (wpAny_pure q))
  have ha : ∀ {A : Around} {E : Value → Shared → Prop} {Q : Array Value → Shared → Prop}, Q new s → wpAny (model prog w) A (Builtin.List.listAllItems (.ref b) "must assign iterable to extended slice") Q E s := by
    intro A E Q q
    unfold Builtin.List.listAllItems
    refine wpAny_bind (wpAny_typeOf hTb ?_)
    rw [if_pos (by decide)]
    exact hi q
  have e0 : (sliceBounds none none none items.size) = (0, (items.size : Int), 1) := rfl
  have es : (rawPart none, rawPart none, rawPart none).2.snd = rawPart none := rfl
  have hlong : ¬ (Builtin.List.listTooLong (items.size + new.size) = true) := by
    unfold Builtin.List.listTooLong
    simp
    exact hz
  split
  · refine wpAny_bind (hi ?_)
    refine wpAny_bind (m := Builtin.List.listItems (.ref l)) ?_
    unfold Builtin.List.listItems
    refine wpAny_bind (wpAny_seqItems ho rfl (wpAny_pure ?_))
    refine wpAny_bind (wpAny_of_eq (sliceIndices_raw none none none items.size (by simp)) ?_)
    rw [e0, if_pos (show ((1 : Int) == 1) = true from rfl)]
    refine wpAny_bind (wpAny_rule ?_)
    rw [if_neg hlong]
    have hf : (fun xs : Array Value => xs.extract 0 (0 : Int).toNat ++ new ++ xs.extract (max (0 : Int) (items.size : Int)).toNat) items = new := by
      have e1 : (max (0 : Int) (items.size : Int)).toNat = items.size := by omega
      show items.extract 0 0 ++ new ++ items.extract (max (0 : Int) (items.size : Int)).toNat items.size = new
      rw [e1]
      simp
    refine wpAny_bind (PyProof.Rows.listUpdate_at ho rfl ?_ (by omega) (by
      show ((fun xs : Array Value => xs.extract 0 (0 : Int).toNat ++ new ++ xs.extract (max (0 : Int) (items.size : Int)).toNat) items).size ≤ _
      rw [hf]; omega))
    refine wpAny_bind (wpAny_letGo ?_)
    exact wpAny_pure ⟨.none, rfl, wpAny_pure (h _ hf)⟩
  · refine wpAny_bind (ha ?_)
    refine wpAny_bind (m := Builtin.List.listItems (.ref l)) ?_
    unfold Builtin.List.listItems
    refine wpAny_bind (wpAny_seqItems ho rfl (wpAny_pure ?_))
    refine wpAny_bind (wpAny_of_eq (sliceIndices_raw none none none items.size (by simp)) ?_)
    rw [e0, if_pos (show ((1 : Int) == 1) = true from rfl)]
    refine wpAny_bind (wpAny_rule ?_)
    rw [if_neg hlong]
    have hf : (fun xs : Array Value => xs.extract 0 (0 : Int).toNat ++ new ++ xs.extract (max (0 : Int) (items.size : Int)).toNat) items = new := by
      have e1 : (max (0 : Int) (items.size : Int)).toNat = items.size := by omega
      show items.extract 0 0 ++ new ++ items.extract (max (0 : Int) (items.size : Int)).toNat items.size = new
      rw [e1]
      simp
    refine wpAny_bind (PyProof.Rows.listUpdate_at ho rfl ?_ (by omega) (by
      show ((fun xs : Array Value => xs.extract 0 (0 : Int).toNat ++ new ++ xs.extract (max (0 : Int) (items.size : Int)).toNat) items).size ≤ _
      rw [hf]; omega))
    refine wpAny_bind (wpAny_letGo ?_)
    exact wpAny_pure ⟨.none, rfl, wpAny_pure (h _ hf)⟩
def rSetW (K : PySem.W.Frag) : V → V → Hp → (Hp → Prop) → Prop := fun o v H Q => ∃ p xs b ys, o = .ref p ∧ v = .ref b ∧ H p = some (.lst xs) ∧ SqL K H b ys ∧ xs.length + ys.length ≤ sizeLine ∧ Q (upd H p (.lst ys))
theorem set_whole {X : Cx} {pins : List (Addr × Obj)} {s : Shared} {σ : St} {H : Hp} {o v : V} {ov u : Value} {sl : Addr} {Q : Hp → Prop} (I : Inv X pins σ H s) (ro : RelV o ov) (rv : RelV v u) (hs : s.heap.IsSliceOf sl .none .none .none) (h : rSetW X.K o v H Q) :
    wpAny (model X.prog X.w) X.A (setItem ov (.ref sl) u) (fun _ s' => ∃ H', Inv X pins σ H' s' ∧ Q H') X.xe s := by
  obtain ⟨p, xs, b, ys, rfl, rfl, hp, hb, hz, q⟩ := h
  cases ro
  cases rv
  obtain ⟨its, n, r, ho, _⟩ := I.lst hp
  obtain ⟨new, rn, hl, _⟩ := I.list hb
  have l1 := r.length
  have l2 := rn.length
  refine setWhole ho hl.isList hs (by rw [List.size_toArray, List.size_toArray]; omega) fun f hf => ?_
  refine ⟨_, I.lstUpd (n' := if new.toArray.size == its.toArray.size then n else n + 1) hp ho ?_ rn (by omega) s.toks, q⟩
  simp only [Obj.mapSeq, hf]
def gWhole (K : PySem.W.Frag) (to : TE) : TG := fun v σ H Q => to σ H fun o H1 => rSetW K o v H1 fun H2 => Q σ H2
theorem pg_whole {X : Cx} {o : Expr} {to : TE} {pos p2 : Pos} (ho : PE X o to)
    (ha : ∀ v, assign (.Subscript o (.Slice none none none p2) pos) X.env v = (do
      let ov ← holding [v] (eval o X.env)
      let iv ← holding [v, ov] (eval (.Slice none none none p2) X.env)
      standAt pos
      holding [v, ov, iv] (setItem ov iv v)
      release [iv, v, ov] []) := by intro _; rfl) : PG X (.Subscript o (.Slice none none none p2) pos) (gWhole X.K to) := by
  refine ⟨fun pins s σ H v u Q I r h => ?_⟩
  rw [ha]
  refine wpAny_bind (wpAny_holding (thn (ho.run pins s σ H _ I h) fun ov s1 ⟨x, H1, I1, r1, q1⟩ => ?_))
  refine wpAny_bind (wpAny_holding ?_)
  refine wpAny_Slice ?_
  rw [evalPart_none]
  refine wpAny_pure ?_
  refine wpAny_pure ?_
  refine wpAny_pure ?_
  have I2 : Inv X pins σ H1 { s1 with heap := s1.heap.push { cls := .type "slice", data := .fields #[.none, .none, .none] } } := I1.kept (t' := s1.toks) fun b ob q => Heap.get?_push_of_some _ q
  refine wpAny_bind (wpAny_standAt (wpAny_bind (wpAny_holding (thn (set_whole I2 r1 r (Heap.IsSliceOf.new ..) q1) fun _ s3 ⟨H3, I3, q3⟩ => ?_))))
  exact wpAny_release ⟨σ, H3, I3, q3⟩
end
section
variable {K : PySem.W.Frag} {W : WX}
/-- x[:] = e: the value first, a list of its own -/
def sSetW (o a : AE) : AS := fun env st k => a env st (fun d s1 => o env s1 (fun x s2 => match x, d with
  | .ref n, .lst ys => ∃ l, s2[n]? = some (.lst l) ∧ l.length + ys.length < 100000 ∧ k.nx env (s2.set n (.lst ys))
  | _, _ => False) (fun e s => k.er e env s)) (fun e s => k.er e env s)
theorem refS_setW {ta to : TE} {aa ao : AE} (ha : RefE K W ta aa) (ho : RefE K W to ao) : RefS K W (tAsg ta (gWhole K to)) (sSetW ao aa) := fun G env st σ H D k s l h t => by
  refine ha G env st σ H _ _ _ s l h (fun v d st1 G1 H1 p1 s1 r1 h1 => ?_) (t.x l)
  refine ho G1 env st1 σ H1 _ _ _ s1 (l.mono p1.le) h1 (fun w x st2 G2 H2 p2 s2 r2 h2 => ?_) ((t.x l).on p1)
  split at h2
  · rename_i n ys
    obtain ⟨ls, hn, hz, h2⟩ := h2
    cases r2 with
    | ref ep =>
      rename_i p
      have r1' := r1.mono p2.le
      cases r1' with
      | lst hb rs2 =>
        obtain ⟨vs, gp, hp, rs⟩ := s2.cell n _ p hn ep
        obtain ⟨s4, p4⟩ := s2.setCell (n := n) (c' := .lst ys) (o := .lst _) ep gp ⟨_, gp, upd_same, rs2⟩
        refine ⟨p, vs, _, _, rfl, rfl, hp, SqL.of (s2.ex.lst hb), ?_, t.nx env σ _ G2 _ ((p1.trans p2).trans p4) s4 (l.mono ((p1.trans p2).trans p4).le) h2⟩
        have := rs.length
        have := rs2.length
        exact Nat.le_of_lt (sz_lt (by omega))
  · exact h2.elim
end
section
variable {X : Cx} {W : WX} {o a : Expr} {ao aa : AE} {pos spos p2 : Pos}
theorem axs_setW (ha : AX X W a aa) (ho : AX X W o ao)
    (hg : ∀ v, assign (.Subscript o (.Slice none none none p2) spos) X.env v = (do
      let ov ← holding [v] (eval o X.env)
      let iv ← holding [v, ov] (eval (.Slice none none none p2) X.env)
      standAt spos
      holding [v, ov, iv] (setItem ov iv v)
      release [iv, v, ov] []) := by intro _; rfl)
    (hs : swapsWithSole [.Subscript o (.Slice none none none p2) spos] a pos.line X.env = pure false := by rfl) (hw : swappedStores [.Subscript o (.Slice none none none p2) spos] a X.env = pure none := by rfl) (h1 : (assignEach [.Subscript o (.Slice none none none p2) spos] X.env).map (·.2) = [assign (.Subscript o (.Slice none none none p2) spos) X.env] := by rfl) :
    AXS X W (.Assign [.Subscript o (.Slice none none none p2) spos] a pos) (sSetW ao aa) := by
  obtain ⟨ta, pa, ra⟩ := ha
  obtain ⟨to, po, ro⟩ := ho
  exact ⟨_, ps_asg pa (pg_whole po hg) hs hw h1, refS_setW ra ro⟩
end
/-! ### tuple * int -/
theorem tuple_mul1 (l : Addr) (items : Array Value) (n : Nat) (dd : Option Addr) (sl : Array (Option Value)) (u : Tok) :
    Meets (Builtin.«tuple.__mul__» ⟨[.ref l, .int 1 u], []⟩) (fun _ R s => s.heap.get? l = some { cls := .type "tuple", dict := dd, data := .seq items n, slots := sl } ∧
      R (.ok (.ret (Value.ref l))) s) :=
  .of_wp fun prog w A R s h => by
    obtain ⟨hp, g, d, tk, os⟩ := s
    obtain ⟨hl, h⟩ := h
    have f1 := AutoSeq1.idx_int
    wp_walk using wpAny_loadPart' hl
    repeat (first
      | (refine wpAny_ite_false (decide_eq_false (by decide)) ?_; wp_walk using wpAny_loadPart' hl)
      | (refine wpAny_ite_true (decide_eq_true (by simp)) ?_; wp_walk using wpAny_loadPart' hl))
    exact ⟨_, rfl, h⟩
section
variable {X : Cx}
def rRepT1 (K : PySem.W.Frag) : R2 := fun x y H Q => ∃ l xs, x = .ref l ∧ y = .int 1 ∧ SqT K H l xs ∧ Q (.ref l) H
theorem op_repT1 : OpR X (binaryOp .Mult) (rRepT1 X.K) := by
  intro pins s σ H x y v u Q I rx ry h
  obtain ⟨l, xs, rfl, rfl, hT, q⟩ := h
  cases rx
  obtain ⟨t, rfl⟩ := ry
  obtain ⟨its, r, ⟨⟨cls, dd, data, sl⟩, ho, hc, n, hd⟩, hs⟩ := I.tuple hT
  simp only at hc hd
  subst hc hd
  refine wpAny_binaryOp_repeat_ref (T := "tuple") (U := "int") (by decide) ⟨_, ho, rfl⟩ (fun s' => typeIs_int s' 1 t) noFill_tuple_mul F.fills_int_mul F.slot_int_rmul repeat_tuple F.slot_int_index.lookup
    (call_meets F.slot_int_rmul (typeIs_int s 1 t) F.entry_int_rmul (F.args_int_rmul_2 _ _) (int_rmul_tuple 1 t l its.toArray n dd sl)
      ⟨ho, rfl, ⟨_, ho, rfl⟩, call_meets F.slot_tuple_mul ⟨_, ho, rfl⟩ F.entry_tuple_mul (F.args_tuple_mul_2 _ _) (tuple_mul1 l its.toArray n dd sl t) ⟨ho, ?_⟩⟩)
  exact ⟨.ref l, H, I, rfl, q⟩
def oRepT : O2 := fun x y q => ∃ l k, x = .tup l ∧ y = .int k ∧ l ≠ [] ∧ 1 ≤ k ∧ k ≤ 1000 ∧ l.length ≤ 1000 ∧ q (.tup (List.replicate k.toNat l).flatten)
theorem op_RepT : OpR X (binaryOp .Mult) (fun x y H Q => rRepT1 X.K x y H Q ∨ rRepT X.K x y H Q) ∧ RefO X.K (fun x y H Q => rRepT1 X.K x y H Q ∨ rRepT X.K x y H Q) oRepT := ⟨op_repT1.or op_repT, fun G st H x y dx dy Q q s rx ry h t => by
  obtain ⟨l, k, rfl, rfl, h0, h1, h2, h3, h⟩ := h
  cases rx with
  | tup hp rs hh =>
    cases ry
    by_cases hk : k = 1
    · subst hk
      have e : (List.replicate (1 : Int).toNat l).flatten = l := by simp
      rw [e] at h
      exact .inl ⟨_, _, rfl, rfl, SqT.of hp, t.here s hh h⟩
    · refine .inr ⟨_, k, _, rfl, rfl, SqT.of hp, ?_, by omega, h2, by rw [← rs.length]; exact h3, fun p hp' => ?_⟩
      · intro e
        subst e
        cases rs
        exact h0 rfl
      · exact t.newT s (Reps.rep rs k.toNat) h hp'⟩
end
/-! ### own == against a value of another kind -/
def LookT (X : Cx) (P : V → Hp → Prop) (t : Value) : Prop := ∀ {pins : List (Addr × Obj)} {s : Shared} {σ : St} {H : Hp} {y : V} {u : Value}, L2.Inv X pins σ H s → L2.RelV y u → P y H → PySem.W.Looks (model X.prog X.w) s.heap (typeOf u) t
section
variable {X : Cx} {W : WX} {k j : Nat} {a b : Expr} {ta tb : TE} {C f : Addr} {fd : FuncData} {ps : List Str} {sp : Sp} {CX : CXT} {E : St → XK} {P : V → Hp → Prop} {t : Value}
theorem pe_eqK (hP : LookT X P t) (F : FnOk X.prog X.w X.K X.mg X.base CX k f fd ps sp) (hr : Room k X.A) (hn : PySem.W.notFirst X.K C t = true) (hs : PySem.W.findIn X.K (.ref C) "__eq__" = some (some (.ref f))) (hfn : PySem.W.isFn X.K (.ref f) = true) (hb : Binds X.K fd ps []) (hx : ∀ σ, PassesAt CX X σ (E σ)) (ha : PE X a ta) (hi : PE X b tb) :
    PC X .Eq a b (tOwn2 C sp E P ta tb) := by
  refine ⟨fun pins s σ H Q I h => ?_⟩
  refine binT ha hi I h fun v u s2 x y H2 I2 rx ry q => ?_
  obtain ⟨p, dx, fs, rfl, hp, hpy, q⟩ := q
  obtain rfl : v = Value.ref p := rx
  obtain ⟨mA, J, _⟩ := ins_get I2.hok hp
  obtain ⟨od, J, _⟩ := J.look
  obtain ⟨m, hF⟩ := I2.fr
  exact PySem.W.cmp_K (op := .Eq) (by have := u64 hr; omega) hF I2.ok.mod.kin J (hP I2 ry hpy) hn hs hfn (wpAny_mono (run_fnAt F hr rfl hb (hx σ) I2 (vs := [V.ref p, y]) (us := [Value.ref p, u]) (.cons (show L2.RelV (.ref p) (.ref p) from rfl) (.cons ry .nil)) q) (fun _ _ z => back_ok z) fun _ _ z => z)
def PLst (K : PySem.W.Frag) (y : V) (H : Hp) : Prop := ∃ a xs, y = .ref a ∧ SqL K H a xs
def PNon (y : V) (H : Hp) : Prop := y = .non
theorem look_lst : LookT X (PLst X.K) (.type "list") := by
  rintro pins s σ H y u I r ⟨a, xs, rfl, h⟩
  obtain rfl : u = Value.ref a := r
  obtain ⟨its, _, ht, _⟩ := I.list h
  obtain ⟨o, ho, hc⟩ := ht.isList.typeIs
  exact fun A Q E s k q => wpAny_typeOf_ref (k _ _ ho) (by rw [hc]; exact q)
theorem look_non : LookT X PNon (.type "NoneType") := by
  rintro pins s σ H y u I r h
  obtain rfl : y = .non := h
  cases r
  exact PySem.W.Looks.of_pure rfl
theorem look_cls {C : Addr} : LookT X (PIns C) (.ref C) := by
  rintro pins s σ H y u I r ⟨p', dx', fs', rfl, hp'⟩
  obtain rfl : u = Value.ref p' := r
  obtain ⟨mA', J', _⟩ := ins_get I.hok hp'
  obtain ⟨od', J', _⟩ := J'.look
  exact J'.type
end
def isLst : D → Prop
  | .lst _ => True
  | _ => False
def isNon : D → Prop
  | .non => True
  | _ => False
section
variable {K : PySem.W.Frag}
theorem pv_lst {G : Gh} {H : Hp} {d : D} {v : V} (r : Rv K G H d v) (h : isLst d) : PLst K v H := by
  cases r with
  | lst hp rs => exact ⟨_, _, rfl, SqL.of hp⟩
  | _ => exact h.elim
theorem pv_non {G : Gh} {H : Hp} {d : D} {v : V} (r : Rv K G H d v) (h : isNon d) : PNon v H := by
  cases r with
  | non => rfl
  | _ => exact h.elim
end
section
variable {X : Cx} {W : WX} {k j : Nat} {a b : Expr} {c : Str} {pos : Pos} {aa ab : AE} {mf : AF} {f : Addr} {fd : FuncData} {ps : List Str} {P : V → Hp → Prop} {PD : D → Prop} {t : Value}
theorem ax_eqK (hP : LookT X P t) (hv : ∀ {G : Gh} {H : Hp} {d : D} {v : V}, Rv X.K G H d v → PD d → P v H) (C : CxE X W k) (F : FnOk X.prog X.w X.K X.mg X.base (L2N.CX X.prog X.w) j f fd ps (SpA X.K mf)) (hb : BindsD X.K fd ps []) (hn : PySem.W.notFirst X.K (He.ga X.K c) t = true) (hs : PySem.W.findIn X.K (.ref (He.ga X.K c)) "__eq__" = some (some (.ref f))) (hfn : PySem.W.isFn X.K (.ref f) = true) (ha : AX X W a aa) (hi : AX X W b ab) (hj : j ≤ k) (hm : behindInMarks .Eq b = false := by first | exact nobehind _ (by decide) (by decide) | rfl) :
    AX X W (.Compare a [.Eq] [b] pos) (aOwn2 c mf PD aa ab) := by
  obtain ⟨ta, pa, ra⟩ := ha
  obtain ⟨tb, pb, rb⟩ := hi
  obtain ⟨ds, hv', hb⟩ := hb
  cases hv'
  exact ⟨_, pe_cmp (pe_eqK (E := fun σ c d H => W c d σ H) hP F (C.room.mono hj) hn hs hfn hb (fun σ => L2N.passAt C.takes σ) pa pb) hm, refE_own2 hv ra rb⟩
theorem axt_eqK (hP : LookT X P t) (hv : ∀ {G : Gh} {H : Hp} {d : D} {v : V}, Rv X.K G H d v → PD d → P v H) (C : CxE X W k) (F : FnOk X.prog X.w X.K X.mg X.base (L2N.CX X.prog X.w) j f fd ps (SpA X.K mf)) (hb : BindsD X.K fd ps []) (hn : PySem.W.notFirst X.K (He.ga X.K c) t = true) (hs : PySem.W.findIn X.K (.ref (He.ga X.K c)) "__eq__" = some (some (.ref f))) (hfn : PySem.W.isFn X.K (.ref f) = true) (ha : AX X W a aa) (hi : AX X W b ab) (hj : j ≤ k) (hm : behindInMarks .Eq b = false := by first | exact nobehind _ (by decide) (by decide) | rfl) :
    AXT X W (.Compare a [.Eq] [b] pos) (aTest (aOwn2 c mf PD aa ab)) := by
  obtain ⟨ta, pa, ra⟩ := ha
  obtain ⟨tb, pb, rb⟩ := hi
  obtain ⟨ds, hv', hb⟩ := hb
  cases hv'
  exact ⟨_, pt_cmp (pe_eqK (E := fun σ c d H => W c d σ H) hP F (C.room.mono hj) hn hs hfn hb (fun σ => L2N.passAt C.takes σ) pa pb) hm, refT_test (refE_own2 hv ra rb)⟩
end
end AM
set_option Elab.async false
set_option linter.all false
set_option maxRecDepth 100000
set_option maxHeartbeats 4000000
namespace AM
open PySem PySem.Spec L2 Evl
/-! ### the lists in a list's cell are frozen, ahead of a piece -/
inductive FrzS (n : Nat) : S → S → Prop
  | nil {s : S} : FrzS n s s
  | step {s s' : S} {L l : List D} {j m : Nat} : s[n]? = some (.lst L) → L[j]? = some (.ref m) → m ≠ n → s[m]? = some (.lst l) → FrzS n ((s.set m .dead).set n (.lst (L.set j (.lst l)))) s' → FrzS n s s'
def sFrzIn (i : Nat) (a : AS) : AS := fun env st k => ∃ n st2, env[i]? = some (.d (.ref n)) ∧ FrzS n st st2 ∧ a env st2 k
theorem frz_ok {K : PySem.W.Frag} {n : Nat} {st st2 : S} (f : FrzS n st st2) : ∀ {G : Gh} {H : Hp} {p : Addr}, SS K G st H → G.as[n]? = some p → ∃ G2, Post G H G2 H ∧ SS K G2 st2 H := by
  induction f with
  | nil => exact fun {G H p} s hp => ⟨G, ⟨Gh.le.refl G, fun _ _ e _ => .inl e, fun _ e _ _ => e, fun _ z => .inl z, fun _ k => k, fun _ _ _ _ e => e⟩, s⟩
  | step h1 h2 hm h3 f ih =>
    intro G H p s hp
    rename_i s0 s' L l j m
    obtain ⟨vs, gp, hh, rs⟩ := s.cell n _ p h1 hp
    obtain ⟨v, ev, rv⟩ := rs.get h2
    cases rv with
    | ref ep =>
      rename_i pm
      obtain ⟨vm, gpm, hhm, rm⟩ := s.cell m _ pm h3 ep
      obtain ⟨s2, p2⟩ := s.freezeCell ep gpm hhm
      have hne : p ≠ pm := fun z => by
        subst z
        exact hm ((List.getElem?_inj (List.getElem?_eq_some_iff.mp ep).1 s.nd).mp (ep.trans hp.symm))
      have gp2 : (upd G.g pm (.lst vm)) p = none := by rw [upd_ne hne]; exact gp
      have e : vs.set j (.ref pm) = vs := by
        apply List.ext_getElem?
        intro i
        by_cases hi : i = j
        · subst hi
          rw [List.getElem?_set_self (List.getElem?_eq_some_iff.mp ev).1, ev]
        · rw [List.getElem?_set_ne (Ne.symm hi)]
      have hu : upd H p (.lst vs) = H := by
        funext x
        by_cases hx : x = p
        · subst hx; rw [upd_same, hh]
        · rw [upd_ne hx]
      obtain ⟨s3, p3⟩ := s2.setCell (n := n) (c' := .lst (L.set j (.lst l))) (o := .lst vs) hp gp2 ⟨vs, gp2, upd_same, by
        have := (rs.mono p2.le).set (Rep.lst (K := K) upd_same (rm.mono p2.le)) j
        rw [e] at this
        exact this⟩
      rw [hu] at s3 p3
      obtain ⟨G3, p4, s4⟩ := ih s3 hp
      exact ⟨G3, (p2.trans p3).trans p4, s4⟩
theorem axs_frzIn {X : Cx} {W : WX} {st : Stmt} {as : AS} (i : Nat) (h : AXS X W st as) : AXS X W st (sFrzIn i as) := by
  obtain ⟨t, p, r⟩ := h
  refine ⟨_, p, fun G env st σ H D k s l a t => ?_⟩
  obtain ⟨n, st2, ei, f, a⟩ := a
  obtain ⟨u, eu, ru⟩ := l.slot i _ ei
  cases ru with
  | ref ep =>
    obtain ⟨G2, p2, s2⟩ := frz_ok f s ep
    exact r G2 env st2 σ H D k s2 (l.mono p2.le) a (t.on p2)
end AM
set_option Elab.async false
set_option linter.all false
set_option maxRecDepth 100000
set_option maxHeartbeats 4000000
namespace AM
open PySem PySem.Spec PyProof.Rows L2 Evl
/-! ### l.count(x) -/
def rCountD (K : PySem.W.Frag) : V → List V → Hp → VK → Prop := fun x xs H Q => ∃ (a : Addr) (y : V) (d : PyData) (ds : List PyData), x = V.ref a ∧ xs = [y] ∧ Dp K H (V.ref a) (.list ds) ∧ Dp K H y d ∧
  SeqAt.shaped (.list ds) = true ∧ SeqAt.shaped d = true ∧ Q (.int ((ds.countP fun z => PyData.eqv z d : Nat) : Int)) H
theorem mt_countD {X : Cx} (hu : X.A.units + 65 < cLine) : MtR X "list.count" (rCountD X.K) := by
  intro pins s σ H x xs v us Q I rx rxs h
  obtain ⟨a, y, d, ds, rfl, rfl, hl, hy, sl, sd, q⟩ := h
  cases rx
  cases rxs with
  | cons ry rt =>
    rename_i uy ut
    cases rt
    obtain ⟨bs, r1⟩ := Dp.reads I d y uy hy ry
    have hxs : PyData.canLayAll0 ds = true := SeqAt.canLay_of_shaped sl
    have hroom : X.A.units + 1 + min (PyData.depthAll ds) d.depth < cLine := room_in_shaped sd hu
    cases hl with
    | lst hs ha =>
      obtain ⟨its, rv, ⟨⟨cls, dd, data, sls⟩, n, ho, hc, hdn, hdt⟩, hlen⟩ := I.list hs
      simp only at hc hdt
      subst hc hdt
      obtain ⟨as, h4⟩ := Dp.readsAll I ds _ its ha rv
      have hmap : its.map (SeqAt.readOf s.heap) = ds := SeqAt.readsAll_map ds its as hxs h4
      refine call_meets PySem.F.slot_list_count ⟨_, ho, rfl⟩ PySem.F.entry_list_count (PySem.F.args_list_count_2 _ _)
        (SeqAt.list_countAt a its.toArray n dd sls uy (fun u => PyData.eqv (SeqAt.readOf s.heap u) d)) ⟨ho, SeqAt.items_eqAt (vs := its.toArray) (show ReadsAll s.heap its.toArray.toList ds as from h4) r1 hxs (SeqAt.canLay_of_shaped sd) hroom, ?_⟩
      rw [show its.toArray.toList = its from rfl, show (its.countP fun u => PyData.eqv (SeqAt.readOf s.heap u) d) = ds.countP fun z => PyData.eqv z d from by rw [← hmap, List.countP_map]; rfl]
      exact ⟨.int _, H, I.tok _, ⟨_, rfl⟩, q⟩
def aCnt (o a : AE) : AE := fun env st q er => o env st (fun x s1 => (∃ l, vw s1 x = .lst l) ∧ a env s1 (fun y s2 => ∃ l, vw s2 x = .lst l ∧ (D.lst l).shp ∧ (vw s2 y).shp ∧ q (.int ((l.countP fun z => D.eqv z (vw s2 y) : Nat) : Int)) s2) er) er
section
variable {X : Cx} {W : WX} {k : Nat} {o e : Expr} {ae ao : AE} {pos apos : Pos}
theorem refE_cnt {K : PySem.W.Frag} {to te : TE} (ho : RefE K W to ao) (he : RefE K W te ae) : RefE K W (tBM K "list" (rCountD K) to (tCons te tNil)) (aCnt ao ae) := fun G env st σ H Q q er s l h tE tX => by
  refine ho G env st σ H _ _ er s l h (fun v d st1 G1 H1 p1 s1 r1 h1 => ?_) tX
  obtain ⟨⟨l0, hl0⟩, h1⟩ := h1
  have rv := r1.vw s1
  rw [hl0] at rv
  cases rv with
  | lst hp rs =>
    rename_i pp vs
    refine ⟨Or.inl ⟨rfl, _, Or.inl (Or.inl hp)⟩, he G1 env st1 σ H1 _ _ er s1 (l.mono p1.le) h1 (fun w d2 st2 G2 H2 p2 s2 r2 h2 => ?_) (tX.on p1)⟩
    obtain ⟨l2, hl2, hsl, hsy, h2⟩ := h2
    have rv2 := (r1.mono p2.le).vw s2
    have ry := r2.vw s2
    rw [hl2] at rv2
    have dl := rv2.dp s2.ex hsl.1
    have dy := ry.dp s2.ex hsy.1
    rw [D.py] at dl
    have pl : ∀ x ∈ l2, x.plain = true := plains_mem (by have := hsl.1; rw [D.plain] at this; exact this)
    have sl := D.shaped hsl
    rw [D.py] at sl
    have e : ((D.pys l2).countP fun z => PyData.eqv z (vw st2 d2).py) = l2.countP fun z => D.eqv z (vw st2 d2) := by
      rw [pys_map, List.countP_map]
      exact List.countP_congr fun z hz => by
        show PyData.eqv z.py (vw st2 d2).py = true ↔ _
        rw [D.py_eqv (pl z hz) hsy.1]
    refine ⟨pp, w, _, _, rfl, rfl, dl, dy, sl, D.shaped hsy, ?_⟩
    rw [e]
    exact tE _ _ st2 G2 H2 (p1.trans p2) s2 (.int _) h2
theorem ax_cnt (C : CxE X W k) (ho : AX X W o ao) (he : AX X W e ae) (hbase : attributeBase o "count" X.env (eval o X.env) = eval o X.env := by rfl)
    (hfew : ((backTo pos (starEach [e] X.env)).all (fun x => !x.1) && (backToKw pos (keywordEach [] X.env)).all (fun x => x.1.isSome) && decide (([e] : List Expr).length + ([] : List Keyword).length + (if ([] : List Keyword).isEmpty then 0 else 1) < 30)) = true := by rfl)
    (hline : (apos.endLine == pos.line) = true := by rfl) (hs : starEach [e] X.env = (false, eval e X.env) :: starEach [] X.env := by rfl) : AX X W (.Call (.Attribute o "count" apos) [e] [] pos) (aCnt ao ae) := by
  obtain ⟨to, po, ro⟩ := ho
  obtain ⟨te, pe, re⟩ := he
  exact ⟨_, pe_bm PySem.F.plainAttrs_list PySem.F.slot_list_count PySem.F.type_list_count (mt_countD (by have := u64 C.room; omega)) po (pa_cons pe pa_nil hs) hbase hfew hline hs rfl, refE_cnt ro re⟩
end
end AM
set_option Elab.async false
set_option linter.all false
set_option maxRecDepth 100000
set_option maxHeartbeats 4000000
namespace AM
open PySem PySem.Spec PyProof.Rows L2 Evl
/-! ### len(x) of an own class -/
def tLenO (C : Addr) (sp : Sp) (E : L2.St → XK) (ta : TA) : TE := fun σ H Q => ta σ H fun vs H1 => ∃ p dx fs, vs = [.ref p] ∧ H1 p = some (.ins C dx fs) ∧ sp [.ref p] H1 (fun v H3 => ∃ n : Nat, v = .int (n : Int) ∧ n < 2 ^ 62 ∧ Q (.int (n : Int)) H3) (E σ)
theorem boot_len : bootBuiltins "len" = some (.builtin "len") := by rfl
section
variable {X : Cx} {CX : CXT} {k : Nat} {f C : Addr} {fd : FuncData} {ps : List Str} {sp : Sp} {E : L2.St → XK} {e : Expr} {ta : TA} {p pos : Pos}
theorem pe_lenO (F : FnOk X.prog X.w X.K X.mg X.base CX k f fd ps sp) (hr : Room (k + 1) X.A) (hs : PySem.W.findIn X.K (.ref C) "__len__" = some (some (.ref f))) (hfn : PySem.W.isFn X.K (.ref f) = true) (hb : Binds X.K fd ps []) (hx : ∀ σ, PassesAt CX X σ (E σ)) (hg : Gl X "len") (hm : X.mg "len" = none) (ha : PA X [e] ta)
    (he : starEach [e] X.env = (false, eval e X.env) :: starEach [] X.env := by rfl) (hpl : (backTo pos (starEach [] X.env)).any (·.1) = false := by rfl) : PE X (.Call (.Name "len" p) [e] [] pos) (tLenO C sp E ta) := by
  refine ⟨fun pins s σ H Q I h => ?_⟩
  refine wpAny_Call_Name_kw (ld_blt I hg hm boot_len ?_ (by decide) (by decide))
  refine PyProof.Rows.callWith_builtin1 (thn (ha.run pos pins s σ H _ I h) fun us s1 ⟨vs, H1, I1, r1, q1⟩ => ?_) he hpl
  obtain ⟨a, dx, fs, rfl, hp, q⟩ := q1
  obtain ⟨u, rfl, ru⟩ := vals1 r1
  obtain rfl : u = Value.ref a := ru
  obtain ⟨mA, J, _⟩ := ins_get I1.hok hp
  obtain ⟨od, J, _⟩ := J.look
  obtain ⟨m, hF⟩ := I1.fr
  refine Calls.call_function_entry PySem.kind_len PySem.plain_len PySem.entry_len (PySem.args_len1 _) ?_
  unfold Builtin.«len»
  refine wpAny_bind (m := oneArg "len" _) (wpAny_pure ?_)
  have run := run_fnAt F hr.in1 rfl hb (hx σ) I1 (vs := [V.ref a]) (us := [Value.ref a]) (.cons (show RelV (.ref a) (.ref a) from rfl) .nil) q
  refine wpAny_bind (m := callSpecial? (.ref a) (PySem.Str.ofString "__len__")) (PySem.W.special_fn (I1.ok.mod.kin.keeps hF.keep) J hs (beq_iff_eq.mp hfn) (wpAny_mono run (fun w s2 z => ?_) fun _ _ z => z))
  obtain ⟨v, H3, I3, r3, n, rfl, hn, q3⟩ := z
  obtain ⟨t, rfl⟩ := r3
  refine wpAny_bind (wpAny_holding (wpAny_pure ?_))
  refine wpAny_bind (wpAny_letGo ?_)
  show wpAny _ _ (if ((n : Nat) : Int) < 0 then _ else _) _ _ _
  rw [if_neg (by omega)]
  show wpAny _ _ (if ((n : Nat) : Int) ≥ 2 ^ 63 then _ else _) _ _ _
  rw [if_neg (by omega)]
  exact wpAny_bind (wpAny_mkInt (wpAny_pure ⟨_, rfl, .int n, H3, I3.tok _, ⟨_, rfl⟩, q3⟩))
end
def aOwnLen (c : Str) (mf : AF) (a : AE) : AE := fun env st q er => a env st (fun x s1 => isCls c (vw s1 x) ∧ mf [x] s1 (fun r s3 => ∃ n : Nat, r = .d (.int (n : Int)) ∧ n < 2 ^ 62 ∧ q (.int (n : Int)) s3) er) er
section
variable {K : PySem.W.Frag} {W : WX} {c : Str} {mf : AF} {te : TE} {aa : AE}
theorem refE_ownLen (ha : RefE K W te aa) : RefE K W (tLenO (He.ga K c) (SpA K mf) (fun σ c d H => W c d σ H) (tCons te tNil)) (aOwnLen c mf aa) := fun G env st σ H Q q er s l h tE tX => by
  refine ha G env st σ H _ _ er s l h (fun v d st1 G1 H1 p1 s1 r1 h1 => ?_) tX
  obtain ⟨h2, h4⟩ := h1
  obtain ⟨a, dx, fs, rfl, hp⟩ := isCls_at (r1.vw s1) h2
  refine ⟨a, dx, fs, rfl, hp, G1, st1, _, _, er, s1, .cons r1 .nil, h4, fun v r st3 G3 H3 p3 s3 r3 h5 => ?_, fun e c dx st3 G3 H3 p3 s3 ea h3 => tX e c dx st3 G3 H3 (p1.trans p3) s3 ea h3⟩
  obtain ⟨n, rfl, hn, h5⟩ := h5
  cases r3
  exact ⟨n, rfl, hn, tE _ _ st3 G3 H3 (p1.trans p3) s3 (.int _) h5⟩
end
section
variable {X : Cx} {W : WX} {k j : Nat} {f : Addr} {fd : FuncData} {ps : List Str} {mf : AF} {c : Str} {e : Expr} {ae : AE} {p pos : Pos}
theorem ax_ownLen (C : CxE X W k) (F : FnOk X.prog X.w X.K X.mg X.base (L2N.CX X.prog X.w) j f fd ps (SpA X.K mf)) (hb : BindsD X.K fd ps []) (hs : PySem.W.findIn X.K (.ref (He.ga X.K c)) "__len__" = some (some (.ref f))) (hfn : PySem.W.isFn X.K (.ref f) = true) (hm : X.mg "len" = none) (ha : AX X W e ae) (hj : j + 1 ≤ k) (hg : Gl X "len" := by rfl)
    (he : starEach [e] X.env = (false, eval e X.env) :: starEach [] X.env := by rfl) (hpl : (backTo pos (starEach [] X.env)).any (·.1) = false := by rfl) : AX X W (.Call (.Name "len" p) [e] [] pos) (aOwnLen c mf ae) := by
  obtain ⟨te, pe, re⟩ := ha
  obtain ⟨ds, hv, hb⟩ := hb
  cases hv
  exact ⟨_, pe_lenO (E := fun σ c d H => W c d σ H) F (C.room.mono hj) hs hfn hb (fun σ => L2N.passAt C.takes σ) hg hm (pa_cons pe pa_nil he) he hpl, refE_ownLen re⟩
end
end AM
set_option Elab.async false
set_option linter.all false
set_option maxRecDepth 100000
set_option maxHeartbeats 2000000
namespace AM
open PySem PySem.Spec PySem.Calls PyProof.Rows L2 Evl
/-! ### list(range(a, b)) -/
def fLRng2 (a b : AE) : AFr := fun env st q er => a env st (fun x s1 => b env s1 (fun y s2 => ∃ m n : Int, x = .int m ∧ y = .int n ∧ 0 ≤ m ∧ m ≤ 100000 ∧ 0 ≤ n ∧ n ≤ 100000 ∧ q ((List.range (n - m).toNat).map fun (i : Nat) => D.int (m + (i : Int))) s2) er) er
theorem reps_rg2 {K : PySem.W.Frag} {G : Gh} {m n : Int} : Reps K G ((List.range (n - m).toNat).map fun (i : Nat) => D.int (m + (i : Int))) (rgV m n) := by
  have e1 : ((List.range (n - m).toNat).map fun (i : Nat) => D.int (m + (i : Int))) = ((List.range (n - m).toNat).map fun (i : Nat) => m + (i : Int)).map D.int := by rw [List.map_map]; rfl
  have e2 : rgV m n = ((List.range (n - m).toNat).map fun (i : Nat) => m + (i : Int)).map V.int := by
    unfold rgV
    rw [List.map_map]
    rfl
  rw [e1, e2]
  exact Reps.ints _
section
variable {X : Cx} {W : WX} {k : Nat} {a b : Expr} {ae be : AE} {p p2 pos pos2 : Pos}
theorem axf_lrng2 (C : CxE X W k) (hm : X.mg "list" = none) (hmr : X.mg "range" = none) (h : AX X W a ae) (h' : AX X W b be) (hg : Gl X "list" := by rfl) (hgr : Gl X "range" := by rfl) (na : starEach [a, b] X.env = (false, eval a X.env) :: starEach [b] X.env := by rfl) (nb : starEach [b] X.env = (false, eval b X.env) :: starEach [] X.env := by rfl)
    (hp : (backTo pos2 (starEach [b] X.env)).any (·.1) = false := by rfl)
    (na2 : starEach [.Call (.Name "range" p2) [a, b] [] pos2] X.env = (false, eval (.Call (.Name "range" p2) [a, b] [] pos2) X.env) :: starEach [] X.env := by rfl) : AXF X W (.Call (.Name "list" p) [.Call (.Name "range" p2) [a, b] [] pos2] [] pos) (fLRng2 ae be) := by
  obtain ⟨t, pe, r⟩ := h
  obtain ⟨t', pe', r'⟩ := h'
  refine ⟨_, pe_listRg C.calm hg hm (prg_2 hgr hmr pe pe' na nb hp) na2, fun G env st σ H Q q er s l h tE tX => r G env st σ H _ _ er s l h (fun v d st1 G1 H1 p1 s1 r1 h1 => ?_) tX⟩
  refine r' G1 env st1 σ H1 _ _ er s1 (l.mono p1.le) h1 (fun w d2 st2 G2 H2 p2 s2 r2 h2 => ?_) (tX.on p1)
  obtain ⟨m, n, rfl, rfl, h0, h1, h2, h3, h4⟩ := h2
  cases r1
  cases r2
  refine ⟨m, n, rfl, rfl, RgOk.of_le (by omega) (by omega) (by omega) (by omega), fun a hp => ?_⟩
  obtain ⟨s3, p3, np, gp⟩ := s2.room (o := .lst (rgV m n)) hp
  exact tE _ _ st2 _ _ ((p1.trans p2).trans p3) s3 (ResOk.on (p1.trans p2) ⟨a, _, rfl, upd_same, gp, np, hp, reps_rg2⟩) h4
end
/-! ### x, *y = a list -/
def gStar (K : PySem.W.Frag) (i j : Nat) : TG := fun v σ H Q => ∃ a x xs, v = .ref a ∧ SqL K H a (x :: xs) ∧ ∀ p, H p = none → Q ((σ.set i (some x)).set j (some (.ref p))) (upd H p (.lst xs))
theorem pg_star {X : Cx} {k : Nat} {pos : Pos} {es es' : List Expr} {t : TGs} (hc : X.calm = true) (h : PGs X es' t)
    (hm : (assignEach es X.env).map (·.2) = (assignEach es' X.env).map (·.2) := by rfl) (hn : (assignEach es X.env).length = 2 := by rfl) (hst : (assignEach es X.env).findIdx? (·.1) = some 1 := by rfl) :
    PG X (.Tuple es k pos) (fun v σ H Q => ∃ a x xs, v = .ref a ∧ SqL X.K H a (x :: xs) ∧ ∀ p, H p = none → t [x, .ref p] σ (upd H p (.lst xs)) Q) := by
  refine ⟨fun pins s σ H v u Q I r hw => ?_⟩
  obtain ⟨a, x, xs, e1, hq, hw⟩ := hw
  subst e1
  cases r
  obtain ⟨its, rv, pl, hz⟩ := I.list hq
  cases rv with
  | @cons _ vx _ itr rx rr =>
    have hl : s.heap.IsList a (vx :: itr).toArray := pl.isList
    have hh : X.A.handled = none := I.ok.hd hc
    have hzz : itr.length + 1 ≤ sizeLine := by have := rr.length; rw [List.length_cons] at hz; omega
    rw [assign_Tuple]
    refine wpAny_bind (wpAny_standAt ?_)
    unfold unpack
    rw [hn, hst]
    refine wpAny_bind (wpAny_holding ?_)
    have hlt : a ≠ s.heap.objs.size := by obtain ⟨o, ho, _⟩ := hl; exact Nat.ne_of_lt (Heap.lt_size ho)
    unfold unpackItems
    refine wpAny_bind ?_
    unfold notIterableAtAll
    refine wpAny_bind (wpAny_specialOf hl.typeIs slot_list_iter.lookup ?_)
    refine wpAny_pure ?_
    simp only [Bool.false_eq_true, if_false]
    refine wpAny_bind (wpAny_holding (wpAny_pyIter_list hl ?_))
    refine wpAny_bind (wpAny_holding (PySem.W.kun_draw hlt 1 0 _ _ ⟨_, Heap.get?_push_size _ rfl, rfl, rfl⟩ (hl.push _) (by simp) fun h₁ hit₁ hs₁ => ?_))
    have hl₁ : h₁.IsList a (vx :: itr).toArray := (hl.push _).extBut hs₁.extBut hlt
    rw [Nat.zero_add] at hit₁
    have hit₁' := hit₁
    obtain ⟨oi, hoi, _⟩ := hit₁'
    have hl₁' := hl₁
    obtain ⟨ol, hol, _⟩ := hl₁'
    simp only [List.drop_zero, List.take_succ_cons, List.take_zero, List.length_cons, List.length_nil]
    rw [if_neg (by omega)]
    refine wpAny_bind (wpAny_holding (PySem.W.kun_collect (s := { s with heap := h₁ }) (T := "list_iterator") (.inr (.inr (.inl rfl))) (Walks.list (A := X.A.in1) hh s.heap.objs.size a hlt (vx :: itr).toArray) (fun j u st => st.1.typeIs) (k := 1) (by simp) ⟨hit₁, hl₁⟩ (Heap.lt_size hoi) (Heap.lt_size hol) (fun h₂ tk hk => ?_) (by simp; omega)))
    simp only [List.drop_succ_cons, List.drop_zero]
    rw [if_neg (by omega)]
    have he : ∀ b o, s.heap.get? b = some o → h₂.get? b = some o := fun b o e => by
      have hb := Nat.ne_of_lt (Heap.lt_size e)
      exact hk b o hb (hs₁.extBut b o hb (Heap.get?_push_of_some _ e))
    have I1 : Inv X pins σ H { s with heap := h₂, toks := tk } := I.kept he
    refine wpAny_bind (wpAny_newList ?_ (by simp; omega))
    refine wpAny_pure ?_
    have hf : H h₂.objs.size = none := I1.hok.fresh (Nat.le_refl _)
    have I2 : Inv X pins σ (upd H h₂.objs.size (.lst xs)) { s with heap := h₂.push { cls := .type "list", data := .seq itr.toArray }, toks := tk } :=
      I1.laid (t' := tk) (fun c o e => Heap.get?_push_of_some _ e) (Nat.le_refl _) (show ObjOk X.prog X.w _ _ _ (.lst xs) from ⟨by rw [rr.length]; omega, itr, 0, rr, Heap.get?_push_size _ rfl⟩)
    rw [hm]
    have := h.run pins _ σ _ [x, .ref h₂.objs.size] [vx, .ref h₂.objs.size] Q I2 (.cons rx (.cons rfl .nil)) (hw _ hf)
    simpa using this
def sUnp1 (i j : Nat) (a : AE) : AS := fun env st k => a env st (fun d s1 => ∃ x t, vw s1 d = .lst (x :: t) ∧ k.nx ((env.set i (.d x)).set j (.d (.lst t))) s1) (fun e s1 => k.er e env s1)
section
variable {X : Cx} {W : WX} {k : Nat}
theorem axs_unp1 {i j kk : Nat} {x y : Str} {e : Expr} {ae : AE} {p1 p2 p3 p4 pos : Pos} (C : CxE X W k) (h : AX X W e ae) (hi : X.N[i]? = some x := by rfl) (hj : X.N[j]? = some y := by rfl)
    (hx : Loc X.env.scope x := by first | exact Or.inl rfl | exact Or.inr rfl) (hy : Loc X.env.scope y := by first | exact Or.inl rfl | exact Or.inr rfl)
    (hfx : X.fn x = true ∨ X.env.scope.names.lookup x = some .local := by first | exact .inl rfl | exact .inr rfl) (hfy : X.fn y = true ∨ X.env.scope.names.lookup y = some .local := by first | exact .inl rfl | exact .inr rfl)
    (hm : (assignEach [.Name x p1, .Starred (.Name y p2) p3] X.env).map (·.2) = (assignEach [.Name x p1, .Name y p2] X.env).map (·.2) := by rfl)
    (hn : (assignEach [.Name x p1, .Starred (.Name y p2) p3] X.env).length = 2 := by rfl) (hst : (assignEach [.Name x p1, .Starred (.Name y p2) p3] X.env).findIdx? (·.1) = some 1 := by rfl)
    (hs : swapsWithSole [.Tuple [.Name x p1, .Starred (.Name y p2) p3] kk p4] e pos.line X.env = pure false := by rfl) (hw : swappedStores [.Tuple [.Name x p1, .Starred (.Name y p2) p3] kk p4] e X.env = pure none := by rfl) :
    AXS X W (.Assign [.Tuple [.Name x p1, .Starred (.Name y p2) p3] kk p4] e pos) (sUnp1 i j ae) := by
  obtain ⟨t, pe, r⟩ := h
  refine ⟨_, ps_asg pe (pg_star C.calm (pgs_cons (pg_name C.nd hi hx hfx) (pgs_cons (pg_name C.nd hj hy hfy) pgs_nil)) hm hn hst) hs hw, fun G env st σ H D k s l h t => ?_⟩
  refine r G env st σ H _ _ _ s l h (fun v d st1 G1 H1 p1 s1 r1 h1 => ?_) (t.x l)
  obtain ⟨a, b, hv, h1⟩ := h1
  have rv := r1.vw s1
  rw [hv] at rv
  cases rv with
  | lst hp rs =>
    cases rs with
    | cons ra rb =>
      rename_i pp va vb
      refine ⟨pp, va, vb, rfl, SqL.of hp, fun p hp' => ?_⟩
      obtain ⟨s2, p2⟩ := s1.new (o := .lst vb) hp'
      exact ⟨_, _, rfl, _, _, rfl, rfl, t.nx _ _ _ _ _ (p1.trans p2) s2 (((l.mono (p1.trans p2).le).set i (ra.mono p2.le)).set j (.lst upd_same (rb.mono p2.le))) h1⟩
end
end AM
set_option Elab.async false
set_option linter.all false
set_option maxRecDepth 100000
set_option maxHeartbeats 4000000
namespace AM
open PySem PySem.Spec PyProof.Rows L2 Evl
/-! ### min of a list or of a tuple -/
section
variable {prog : Program} {w : World} {A : Around} {E : Value → Shared → Prop} {s : Shared} {l : Addr} {xs : Array (Int × Tok)}
theorem min_intTup {Q : Value → Shared → Prop} (hh : A.handled = none) (hl : s.heap.IsTuple l (intItems xs)) (hne : 0 < xs.size)
    (h : ∀ v h' tk, (intItems xs)[argBest (fun i j => decide (numAt xs i < numAt xs j)) (xs.size - 1)]? = some v → (∀ b o, s.heap.get? b = some o → h'.get? b = some o) → Q v { s with heap := h', toks := tk }) :
    wpAny (model prog w) A (call (.builtin "min") [.ref l]) Q E s := by
  have hl0 : l < s.heap.objs.size := by obtain ⟨o, ho, _⟩ := id hl; exact Heap.lt_size ho
  refine call_min_walk (wpAny_pyIter_tuple hl ?_)
  refine ⟨s.heap.objs.size, [_, l], [_], _, _, _, _, rfl, Walks.tuple (A := A.in1) hh _ l (Nat.ne_of_lt hl0) (intItems xs),
    ⟨⟨_, Heap.get?_push_size _ rfl, rfl, rfl⟩, hl.push _⟩, fun c hc => ?_, by simpa [intItems] using hne, CmpOf.ints_lt (numAt xs) (fun _ _ => intItems_at), fun v h' tk hP hk => ?_⟩
  · show c < (s.heap.push _).objs.size
    rw [Heap.size_push]
    rcases List.mem_cons.mp hc with rfl | hc
    · exact Nat.lt_succ_self _
    · rcases List.mem_cons.mp hc with rfl | hc
      · exact Nat.lt_succ_of_lt hl0
      · cases hc
  · refine h v h' tk (by simpa [intItems] using hP) fun b o e => ?_
    refine hk b o (fun hm => ?_) (Heap.get?_push_of_some _ e)
    rcases List.mem_cons.mp hm with e1 | hm
    · exact absurd (e1 ▸ Heap.lt_size e) (Nat.lt_irrefl _)
    · cases hm
theorem minT_raw {its : List Value} {ns : List Int} {Q : Value → Shared → Prop} (hh : A.handled = none) (hl : s.heap.IsTuple l its.toArray) (hi : IntsAre its ns) (hne : 0 < ns.length)
    (h : ∀ h' tk M t', (∀ b o, s.heap.get? b = some o → h'.get? b = some o) → M ∈ ns → (∀ a, a ∈ ns → M ≤ a) → Q (.int M t') { s with heap := h', toks := tk }) : wpAny (model prog w) A (call (.builtin "min") [.ref l]) Q E s := by
  obtain ⟨xs, e⟩ := hi.allInts.items
  have hn : numsOf (intItems xs).toList = ns := by rw [← e]; exact hi.numsOf
  rw [nums_intItems] at hn
  subst hn
  rw [e] at hl
  have hsz : 0 < xs.size := by simpa using hne
  refine min_intTup hh hl hsz fun v h' tk hv hk => ?_
  obtain ⟨t, rfl⟩ := intItems_at hv
  obtain ⟨h1, h2⟩ := argBest_lt (numAt xs) (xs.size - 1)
  refine h h' tk _ t hk ?_ fun a ha => ?_
  · rw [numAt_eq]; exact PySem.getD_mem (by rw [List.length_map, Array.length_toList]; omega)
  · obtain ⟨j, hj, rfl⟩ := mem_getD ha
    rw [List.length_map, Array.length_toList] at hj
    rw [← numAt_eq]; exact h2 j (by omega)
end
section
variable {X : Cx} {W : WX} {k : Nat}
def rMinT (K : PySem.W.Frag) : List V → Hp → VK → Prop := fun vs H Q => rMin K vs H Q ∨ ∃ (a : Addr) (ns : List Int), vs = [V.ref a] ∧ SqT K H a (ns.map V.int) ∧ 0 < ns.length ∧ ∀ m, m ∈ ns → (∀ y, y ∈ ns → m ≤ y) → Q (.int m) H
theorem cr_minT (hc : X.calm = true) : CallR X (.builtin "min") (rMinT X.K) := by
  intro pins s σ H vs us Q I r h
  rcases h with h | ⟨a, ns, rfl, hs, hne, q⟩
  · exact cr_min hc pins s σ H vs us Q I r h
  · obtain ⟨its, rv, hl, _⟩ := I.tuple hs
    have hl' : s.heap.IsTuple a its.toArray := hl
    have hi : IntsAre its ns := rv.ints
    rw [Vals.ref1 r]
    exact minT_raw (I.ok.hd hc) hl' hi hne fun h' tk m t' hk h1 h2 => ⟨.int _, H, I.kept hk, ⟨_, rfl⟩, q m h1 h2⟩
def bMinA : ON := fun xs q => match xs with
  | [.tup l] => ∃ ns : List Int, l = ns.map D.int ∧ 0 < ns.length ∧ ∀ m, m ∈ ns → (∀ y, y ∈ ns → m ≤ y) → q (.int m)
  | _ => bMin1 xs q
theorem cb_minA (C : CxE X W k) : CB X (.builtin "min") bMinA := ⟨_, cr_minT C.calm, fun G st H xs ds Q q s r h t => by
  unfold bMinA at h
  split at h
  · obtain ⟨bs, eb, hp, h⟩ := h
    subst eb
    cases r with
    | cons r1 r2 =>
      cases r2
      cases r1 with
      | tup h1 r1 _ =>
        have := ints_ok r1
        subst this
        exact .inr ⟨_, bs, rfl, SqT.of h1, hp, fun m hm hy => t.here s (.int _) (h m hm hy)⟩
  · obtain ⟨bs, eb, hp, h⟩ := h
    subst eb
    cases r with
    | cons r1 r2 =>
      cases r2
      cases r1 with
      | lst h1 r1 =>
        have := ints_ok r1
        subst this
        exact .inl ⟨_, bs, rfl, SqL.of h1, hp, fun m hm hy => t.here s (.int _) (h m hm hy)⟩⟩
@[simp ↓] theorem ev_bMinA_l {l : List D} {q : D → Prop} : bMinA [.lst l] q = bMin1 [.lst l] q := propext Iff.rfl
@[simp ↓] theorem ev_bMinA_t {l : List D} {q : D → Prop} : bMinA [.tup l] q = ∃ ns : List Int, l = ns.map D.int ∧ 0 < ns.length ∧ ∀ m, m ∈ ns → (∀ y, y ∈ ns → m ≤ y) → q (.int m) := propext Iff.rfl
end
/-! ### a, b = a list or a tuple -/
section
variable {X : Cx} {pos : Pos}
def gSeqT (K : PySem.W.Frag) (n : Nat) (t : TGs) : TG := fun v σ H Q => ∃ a xs, v = .ref a ∧ (SqT K H a xs ∨ SqL K H a xs) ∧ xs.length = n ∧ t xs σ H Q
theorem pg_seq {es : List Expr} {k : Nat} {t : TGs} {n : Nat} (hc : X.calm = true) (h : PGs X es t)
    (hn : (assignEach es X.env).length = n := by rfl) (hst : (assignEach es X.env).findIdx? (·.1) = none := by rfl) : PG X (.Tuple es k pos) (gSeqT X.K n t) := by
  refine ⟨fun pins s σ H v u Q I r hw => ?_⟩
  obtain ⟨a, xs, e1, hq, hl, hw⟩ := hw
  rcases hq with hq | hq
  · exact (pg_tup (pos := pos) (k := k) hc h hn hst).run pins s σ H v u Q I r ⟨a, xs, e1, hq, hl, hw⟩
  subst e1
  cases r
  obtain ⟨its, rv, pl, hz⟩ := I.list hq
  have hls : s.heap.IsList a its.toArray := pl.isList
  have hh : X.A.handled = none := I.ok.hd hc
  have hsz : (assignEach es X.env).length = its.toArray.size := by simp [hn, ← hl, rv.length]
  rw [assign_Tuple]
  refine wpAny_bind (wpAny_standAt ?_)
  unfold unpack
  rw [hsz, hst]
  refine wpAny_bind (wpAny_holding (PySem.W.kun_itemsOf hh hls fun h' hx => ?_))
  have I1 : Inv X pins σ H { s with heap := h' } := I.kept (t' := s.toks) fun b o e => hx b o (Nat.ne_of_lt (Heap.lt_size e)) e
  exact h.run pins _ σ H xs _ Q I1 (by simpa using rv) hw
def agSeq (n : Nat) (g : AGs) : AG := fun d env st q => match d with
  | .tup ds => ds.length = n ∧ g ds env st q
  | .lst ds => ds.length = n ∧ g ds env st q
  | _ => False
theorem refG_seq {K : PySem.W.Frag} {gs : TGs} {ags : AGs} {n : Nat} (h : RefGs K gs ags) : RefG K (gSeqT K n gs) (agSeq n ags) := fun G env st σ H d v Q q s l r h1 t => by
  cases r with
  | tup hs rs => exact ⟨_, _, rfl, .inl (SqT.of (s.ex.tup hs)), by rw [← rs.length]; exact h1.1, h G env st σ H _ _ Q q s l rs h1.2 t⟩
  | lst hs rs => exact ⟨_, _, rfl, .inr (SqL.of (s.ex.lst hs)), by rw [← rs.length]; exact h1.1, h G env st σ H _ _ Q q s l rs h1.2 t⟩
  | _ => exact h1.elim
theorem axg_seq {es : List Expr} {ags : AGs} {k n : Nat} (hc : X.calm = true) (h : AXGs X es ags) (hn : (assignEach es X.env).length = n := by rfl) (hst : (assignEach es X.env).findIdx? (·.1) = none := by rfl) : AXG X (.Tuple es k pos) (agSeq n ags) := by
  obtain ⟨g, p, r⟩ := h
  exact ⟨_, pg_seq hc p hn hst, refG_seq r⟩
@[simp ↓] theorem ev_agSeq_t {n : Nat} {g : AGs} {ds : List D} {env : List A} {st : S} {z : List A → Prop} : agSeq n g (.tup ds) env st z = (ds.length = n ∧ g ds env st z) := propext Iff.rfl
@[simp ↓] theorem ev_agSeq_l {n : Nat} {g : AGs} {ds : List D} {env : List A} {st : S} {z : List A → Prop} : agSeq n g (.lst ds) env st z = (ds.length = n ∧ g ds env st z) := propext Iff.rfl
end
end AM
set_option Elab.async false
set_option linter.all false
set_option maxRecDepth 100000
set_option maxHeartbeats 4000000
namespace AM
open PySem PySem.Spec PyProof.Rows L2 Evl
/-! ### a type called whose __new__ runs an own method -/
section
variable {prog : Program} {w : World} {A : Around} {E : Value → Shared → Prop} {s : Shared}
theorem ct_new {T newId : String} {Bn : Builtin} {xs : List Value} {Q : Value → Shared → Prop} (ft : TypeCalled T newId "object.__init__") (hne : (some newId != some "object.__new__") = true)
    (c1 : checkTypeCall T ⟨xs, []⟩ = pure ()) (c2 : checkBuiltinCall newId ⟨.type T :: xs, []⟩ = pure ()) (c3 : ∀ obj, argsOk "object.__init__" ⟨obj :: xs, []⟩) (en : entryFor table newId = some Bn)
    (h : wpAny (model prog w) A.in1.in1 (Bn ⟨.type T :: xs, []⟩) (fun fin s' => ∃ obj, fin = .done (.ret obj) ∧ s'.TypeIs obj T ∧ Q obj s') E s) : wpAny (model prog w) A (call (.type T) xs) Q E s := by
  have hg : wpAny (model prog w) A.in1.in1 (Bn ⟨.type T :: xs, []⟩) (fun fin s' => match fin with
    | .done f => wants (fun obj s1 => s1.TypeIs obj T ∧ Q obj s1) E (.ok f) s'
    | .again c' => c'.quiet = true ∧ codeAny (model prog w) A.in1 c' (wants (fun obj s1 => s1.TypeIs obj T ∧ Q obj s1) E) s') (fun e s' => wants (fun obj s1 => s1.TypeIs obj T ∧ Q obj s1) E (.error e) s') s :=
    wpAny_mono h (fun fin s' ⟨obj, e, q⟩ => by subst e; exact q) fun _ _ z => z
  have gi := fun obj => object_init_meets (self := obj) (rest := xs) ft.init.lookup ft.made hne
  obtain ⟨k0, tl, hmro⟩ := ft.mro
  have e1 := ft.made; have e2 := ft.sub
  refine wpAny_call (codeAny_of_tree (show wpAny _ _ (callAny (.type T) _) _ _ _ from ?_))
  refine wpAny_pure ⟨Code.quiet_builtin _ (by decide +kernel), codeAny_builtin F.entry_type_call ?_⟩
  rw [Around.under_plain (weight_type_call_type T xs []) (units_type_call_type T xs [])]
  have e3 := ft.notType; have e4 := ft.canCreate
  repeat (any_goals (first | assumption | wp_step))
  refine codeAny_mono (codeAny_call_builtin ft.plain en (wpAny_of_eq c2 hg)) fun r s1 hr => ?_
  rcases r with e | fl
  · exact hr
  · cases fl with
    | ret obj =>
      obtain ⟨hT, hq⟩ := hr
      have e5 := ft.init.lookup; have e6 := ft.init.bind obj
      repeat (any_goals (first | assumption | wp_step))
      refine codeAny_mono (codeAny_call_builtin ft.init.plain F.entry_object_init (ft.init.check _ _ _ _ _ _ _ _ hT (c3 obj) (gi obj prog w A.in1 (wants (fun r s2 => r = .none ∧ Q obj s2) E) s1 ⟨hT, rfl, hq⟩))) fun r2 s2 hr2 => ?_
      rcases r2 with e | fl2
      · exact hr2
      · cases fl2 with
        | ret r =>
          obtain ⟨rfl, hq2⟩ := hr2
          repeat (any_goals (first | assumption | wp_step))
        | _ => exact hr2.elim
    | _ => exact hr.elim
theorem enum_own {v : Value} {Q : Value → Shared → Prop}
    (hi : wpAny (model prog w) A.in1.in1 (pyIter v) (fun u s1 => Q (.ref s1.heap.objs.size) { s1 with heap := s1.heap.push { cls := .type "enumerate", data := .fields #[.none, .bool false, u, rawInt 0, .none, .none] } }) E s) :
    wpAny (model prog w) A (call (.type "enumerate") [v]) Q E s := by
  refine ct_new F.called_enumerate (by decide) (F.typeCall_enumerate_1 _) (F.newCall_enumerate_1 _) (fun obj => F.args_object_init_2 obj _) F.entry_enumerate_new ?_
  have hsub := sub_enumerate
  have q1 : ∀ {Q' : Value → Shared → Prop}, (∀ u s1, Q (.ref s1.heap.objs.size) { s1 with heap := s1.heap.push { cls := .type "enumerate", data := .fields #[.none, .bool false, u, rawInt 0, .none, .none] } } → Q' u s1) → wpAny (model prog w) A.in1.in1 (pyIter v) Q' E s :=
    fun hq => wpAny_mono hi hq fun _ _ z => z
  wp_walk using q1
  refine wpAny_stack_any fun st => wpAny_pure ?_
  split
  · rename_i c _ _ _ _ _
    cases (c == Value.type "enumerate")
    · wp_walk using q1
      intro u s1 hq
      wp_walk
      exact ⟨_, rfl, ⟨_, Heap.get?_push_size _ rfl, rfl⟩, hq⟩
    · wp_walk using q1
      intro u s1 hq
      wp_walk
      exact ⟨_, rfl, ⟨_, Heap.get?_push_size _ rfl, rfl⟩, hq⟩
  · wp_walk using q1
    intro u s1 hq
    wp_walk
    exact ⟨_, rfl, ⟨_, Heap.get?_push_size _ rfl, rfl⟩, hq⟩
abbrev gwT (h : Heap) (u : Value) (o : Obj) : Heap := (h.push o).push { cls := .type "tuple", data := .seq #[u, .ref h.objs.size] }
abbrev gwO (h : Heap) (u : Value) (o : Obj) : Heap := (gwT h u o).push { cls := .type "tuple", data := .seq #[.none, .none] }
abbrev gwZ (h : Heap) (u : Value) (o : Obj) : Heap := (gwO h u o).push { cls := .type "zip", data := .fields #[.none, .bool false, .bool false, .ref (h.push o).objs.size, .ref (gwT h u o).objs.size] }
theorem zip_own {v v2 : Value} {o : Obj} {Q : Value → Shared → Prop}
    (hi : wpAny (model prog w) A.in1.in1 (pyIter v) (fun u s1 => (∃ H2, Begins v2 o H2 ∧ H2 s1.heap) ∧ Q (.ref (gwO s1.heap u o).objs.size) { s1 with heap := gwZ s1.heap u o }) E s) :
    wpAny (model prog w) A (call (.type "zip") [v, v2]) Q E s := by
  refine ct_new F.called_zip (by decide) (F.typeCall_zip_2 _ _) (F.newCall_zip_2 _ _) (fun obj => F.args_object_init_3 obj _ _) F.entry_zip_new ?_
  have hsub := sub_zip
  have q1 : ∀ {Q' : Value → Shared → Prop}, (∀ u s1, ((∃ H2, Begins v2 o H2 ∧ H2 s1.heap) ∧ Q (.ref (gwO s1.heap u o).objs.size) { s1 with heap := gwZ s1.heap u o }) → Q' u s1) → wpAny (model prog w) A.in1.in1 (pyIter v) Q' E s :=
    fun hq => wpAny_mono hi hq fun _ _ z => z
  wp_walk using q1
  intro u s1 hq
  obtain ⟨⟨H2, B2, h2⟩, hq⟩ := hq
  have q2 : ∀ {A' : Around} {E' : Value → Shared → Prop} {Q' : Value → Shared → Prop}, Q' (.ref s1.heap.objs.size) { s1 with heap := s1.heap.push o } → wpAny (model prog w) A' (pyIter v2) Q' E' s1 :=
    fun q => B2.iter prog w _ _ s1 _ h2 q
  wp_walk using q2
  exact ⟨_, rfl, ⟨_, Heap.get?_push_size _ rfl, rfl⟩, hq⟩
end
/-! ### enumerate(x), x of an own class -/
def iEnumO (K : PySem.W.Frag) (C : Addr) (fld : Str) (ta : TA) : TI := fun σ H R => ta σ H fun vs H1 => ∃ a dx fs l zs, vs = [.ref a] ∧ H1 a = some (.ins C dx fs) ∧ Cls K C ∧ NoAttr K C fld ∧ fs.lookup fld = some (.ref l) ∧ SqL K H1 l zs ∧ R (Ite2 K false l) H1
section
variable {X : Cx} {k : Nat} {f C : Addr} {fd : FuncData} {ps : List Str} {fld : Str} {e e2 : Expr} {ta : TA} {p pos tpos : Pos} {elts : List Expr} {kk : Nat}
theorem pi_enumO (F : ∀ base, FnOk X.prog X.w X.K X.mg base (L2N.CX X.prog X.w) k f fd ps (spIt X.K base.objs.size C fld)) (hr : Room (k + 2) X.A) (hb : Binds X.K fd ps [])
    (hs : PySem.W.findIn X.K (.ref C) "__iter__" = some (some (.ref f))) (hfn : PySem.W.isFn X.K (.ref f) = true) (hg : Gl X "enumerate") (hm : X.mg "enumerate" = none) (ha : PA X [e] ta) (hst : starEach [e] X.env = [(false, eval e X.env)] := by rfl) :
    PI X (.Tuple elts kk tpos) (.Call (.Name "enumerate" p) [e] [] pos) (iEnumO X.K C fld ta) := by
  refine ⟨fun pins s σ H R I h => ?_⟩
  refine Call_ (ld_blt I hg hm boot_enumerate (PyProof.Rows.callWith_type1 (thn (ha.run pos pins s σ H _ I h) fun us s1 ⟨vs, H1, I1, r1, q1⟩ => ?_) hst rfl))
  obtain ⟨a, dx, fs, l, zs, rfl, hp, hc, hn, hl, hq, q⟩ := q1
  obtain ⟨u, rfl, ru⟩ := vals1 r1
  obtain rfl : u = Value.ref a := ru
  have hll : l < s1.heap.objs.size := by
    obtain ⟨its, rv, pl, _⟩ := I1.list hq
    exact pl.lt
  refine enum_own (run_iter F hr.in1.in1 rfl hb hs hfn I1 hp hc hn hl hq fun it s' hi hge I2 => ?_)
  have eo := itO_get I2 (upd_same (H := H1) (a := it) (o := ItO l it 0))
  have I3 := ItX.inv_drop (φ := fun h => h.get? it = some (GNX.itObj l 0)) I2 (by rw [upd_same]; rfl)
  have I4 := ItX.inv_fp I2 (upd_same (H := H1) (a := it) (o := ItO l it 0)) (Nat.le_trans I1.sz hge)
  rw [ItX.dropH_upd hi] at I3 I4
  have hlt : it < s'.heap.objs.size := Heap.lt_size eo
  have he : IsEnum (s'.heap.push { cls := .type "enumerate", data := .fields #[.none, .bool false, .ref it, rawInt 0, .none, .none] }) s'.heap.objs.size it 0 .none := Heap.get?_push_size _ rfl
  have I5 : Inv X pins σ H1 { s' with heap := s'.heap.push { cls := .type "enumerate", data := .fields #[.none, .bool false, .ref it, rawInt 0, .none, .none] } } := I3.kept (t' := s'.toks) fun b o z => Heap.get?_push_of_some _ z
  refine wpAny_pyIter_enum he ⟨s'.heap.objs.size, [s'.heap.objs.size, it], _, _, H1, rfl, I5, turn_enum2 (t := false) l s'.heap.objs.size it (Nat.ne_of_lt (Nat.lt_of_lt_of_le hll hge)) (Nat.ne_of_gt (Nat.lt_of_lt_of_le hll (Nat.le_trans hge (Nat.le_of_lt hlt)))), ⟨⟨.none, he⟩, ⟨_, Heap.get?_push_of_some _ eo, rfl, rfl⟩, Nat.ne_of_gt hlt⟩, fun b hb => ?_, q⟩
  have e' : b = s'.heap.objs.size ∨ b = it := by simpa using hb
  rcases e' with z | z
  · rw [z]; exact I3.fpOk (Nat.le_refl _) (I3.hok.fresh (Nat.le_refl _))
  · rw [z]; exact I4
/-! ### zip(x, xs), x of an own class -/
def iZipO (K : PySem.W.Frag) (C : Addr) (fld : Str) (ta : TA) : TI := fun σ H R => ta σ H fun vs H1 => ∃ a dx fs l zs b u ys, vs = [.ref a, .ref b] ∧ H1 a = some (.ins C dx fs) ∧ Cls K C ∧ NoAttr K C fld ∧ fs.lookup fld = some (.ref l) ∧ SqL K H1 l zs ∧ SqA K u H1 b ys ∧ R (Itz2 K false u l b) H1
theorem pi_zipO (F : ∀ base, FnOk X.prog X.w X.K X.mg base (L2N.CX X.prog X.w) k f fd ps (spIt X.K base.objs.size C fld)) (hr : Room (k + 2) X.A) (hb : Binds X.K fd ps [])
    (hs : PySem.W.findIn X.K (.ref C) "__iter__" = some (some (.ref f))) (hfn : PySem.W.isFn X.K (.ref f) = true) (hg : Gl X "zip") (hm : X.mg "zip" = none) (ha : PA X [e, e2] ta)
    (hst : starEach [e, e2] X.env = (false, eval e X.env) :: starEach [e2] X.env := by rfl) (hpl : (backTo pos (starEach [e2] X.env)).any (·.1) = false := by rfl) :
    PI X (.Tuple elts kk tpos) (.Call (.Name "zip" p) [e, e2] [] pos) (iZipO X.K C fld ta) := by
  refine ⟨fun pins s σ H R I h => ?_⟩
  refine Call_ (ld_blt I hg hm PyProof.Rows.boot_zip (PyProof.Rows.callWith_type1 (thn (ha.run pos pins s σ H _ I h) fun us s1 ⟨vs, H1, I1, r1, q1⟩ => ?_) hst hpl))
  obtain ⟨a, dx, fs, l, zs, b, t, ys, rfl, hp, hc, hn, hl, hq, hqy, q⟩ := q1
  cases r1 with
  | cons r rr =>
    cases rr with
    | cons r' rr =>
      cases rr
      cases r
      cases r'
      have hll : l < s1.heap.objs.size := by
        obtain ⟨its, rv, pl, _⟩ := I1.list hq
        exact pl.lt
      obtain ⟨_, _, _, _, lb⟩ := inv_sq I1 hqy
      refine zip_own (o := itObj t b) (run_iter F hr.in1.in1 rfl hb hs hfn I1 hp hc hn hl hq fun it s' hi hge I2 => ?_)
      have eo := itO_get I2 (upd_same (H := H1) (a := it) (o := ItO l it 0))
      have I3 := ItX.inv_drop (φ := fun h => h.get? it = some (GNX.itObj l 0)) I2 (by rw [upd_same]; rfl)
      have I4 := ItX.inv_fp I2 (upd_same (H := H1) (a := it) (o := ItO l it 0)) (Nat.le_trans I1.sz hge)
      rw [ItX.dropH_upd hi] at I3 I4
      have hlt : it < s'.heap.objs.size := Heap.lt_size eo
      obtain ⟨its3, rv3, p3, _, _⟩ := inv_sq I3 hqy
      have B := begins_sq (t := t) b its3.toArray
      refine ⟨⟨_, B, p3⟩, ?_⟩
      generalize hN : s'.heap.objs.size = N at hlt
      have z1 : (s'.heap.push (itObj t b)).objs.size = N + 1 := by rw [Heap.size_push, hN]
      have z2 : (gwT s'.heap (.ref it) (itObj t b)).objs.size = N + 2 := by rw [Heap.size_push, z1]
      have z3 : (gwO s'.heap (.ref it) (itObj t b)).objs.size = N + 3 := by rw [Heap.size_push, z2]
      have gZ : (gwZ s'.heap (.ref it) (itObj t b)).get? (gwO s'.heap (.ref it) (itObj t b)).objs.size = some { cls := .type "zip", data := .fields #[.none, .bool false, .bool false, .ref (s'.heap.push (itObj t b)).objs.size, .ref (gwT s'.heap (.ref it) (itObj t b)).objs.size] } := Heap.get?_push_size _ rfl
      have gO : (gwZ s'.heap (.ref it) (itObj t b)).get? (gwT s'.heap (.ref it) (itObj t b)).objs.size = some { cls := .type "tuple", data := .seq #[.none, .none] } := Heap.get?_push_of_some _ (Heap.get?_push_size _ rfl)
      have gT : (gwZ s'.heap (.ref it) (itObj t b)).get? (s'.heap.push (itObj t b)).objs.size = some { cls := .type "tuple", data := .seq #[.ref it, .ref s'.heap.objs.size] } := Heap.get?_push_of_some _ (Heap.get?_push_of_some _ (Heap.get?_push_size _ rfl))
      have g2 : (gwZ s'.heap (.ref it) (itObj t b)).get? s'.heap.objs.size = some (itObj t b) := Heap.get?_push_of_some _ (Heap.get?_push_of_some _ (Heap.get?_push_of_some _ (Heap.get?_push_size _ B.free)))
      have kp : ∀ c o, s'.heap.get? c = some o → (gwZ s'.heap (.ref it) (itObj t b)).get? c = some o := fun c o z => Heap.get?_push_of_some _ (Heap.get?_push_of_some _ (Heap.get?_push_of_some _ (Heap.get?_push_of_some _ z)))
      rw [z3, z2, z1] at gZ
      rw [z2] at gO
      rw [z1, hN] at gT
      rw [hN] at g2
      rw [z3]
      have I5 : Inv X pins σ H1 { s' with heap := gwZ s'.heap (.ref it) (itObj t b) } := I3.kept (t' := s'.toks) kp
      have lN : l < N := Nat.lt_of_lt_of_le hll (Nat.le_trans hge (Nat.le_of_lt hlt))
      have li : l < it := Nat.lt_of_lt_of_le hll hge
      have bi : b < it := Nat.lt_of_lt_of_le lb hge
      have bN : b < N := Nat.lt_of_lt_of_le lb (Nat.le_trans hge (Nat.le_of_lt hlt))
      have D : ZipSep2 (N + 3) (N + 1) (N + 2) it N [it, l] [N, b] :=
        { TIz := by show (N + 1 : Nat) ≠ N + 3; omega
          TOz := by show (N + 2 : Nat) ≠ N + 3; omega
          TITO := by show (N + 1 : Nat) ≠ N + 2; omega
          TIi1 := by show (N + 1 : Nat) ≠ (it : Nat); exact Nat.ne_of_gt (Nat.lt_succ_of_lt hlt)
          mem1 := List.mem_cons_self ..
          zf1 := by
            intro z
            have z' : N + 3 = it ∨ N + 3 = l := by simpa using z
            rcases z' with z' | z' <;> exact absurd (show (N : Nat) + 3 < N from by first | exact z' ▸ hlt | exact z' ▸ lN) (by omega)
          Tf1 := by
            intro z
            have z' : N + 2 = it ∨ N + 2 = l := by simpa using z
            rcases z' with z' | z' <;> exact absurd (show (N : Nat) + 2 < N from by first | exact z' ▸ hlt | exact z' ▸ lN) (by omega)
          TIi2 := by show (N + 1 : Nat) ≠ N; omega
          mem2 := List.mem_cons_self ..
          zf2 := by
            intro z
            have z' : N + 3 = N ∨ N + 3 = b := by simpa using z
            rcases z' with z' | z'
            · exact absurd z' (by omega)
            · exact absurd (show (N : Nat) + 3 < N from z' ▸ bN) (by omega)
          Tf2 := by
            intro z
            have z' : N + 2 = N ∨ N + 2 = b := by simpa using z
            rcases z' with z' | z'
            · exact absurd z' (by omega)
            · exact absurd (show (N : Nat) + 2 < N from z' ▸ bN) (by omega)
          sep1_2 := by
            intro z
            have z' : it = N ∨ it = b := by simpa using z
            rcases z' with z' | z'
            · exact Nat.ne_of_lt hlt z'
            · exact Nat.ne_of_gt bi z'
          sep2_1 := by
            intro z
            have z' : N = it ∨ N = l := by simpa using z
            rcases z' with z' | z'
            · exact Nat.ne_of_gt hlt z'
            · exact Nat.ne_of_gt lN z' }
      refine wpAny_pyIter_zip gZ ⟨N + 3, [N + 3, N + 1, N + 2, it, N], _, _, H1, rfl, I5, turn_zip2 (t := false) (u := t) D (Nat.ne_of_lt li) (Nat.ne_of_lt bN), ⟨gZ, gT, ⟨_, _, gO⟩, ⟨_, kp _ _ eo, rfl, rfl⟩, itAt_new g2⟩, fun c hcm => ?_, q⟩
      have e' : c = N + 3 ∨ c = N + 1 ∨ c = N + 2 ∨ c = it ∨ c = N := by simpa using hcm
      have fr : ∀ c, s'.heap.objs.size ≤ c → FpOk X pins H1 c := fun c hle => I3.fpOk hle (I3.hok.fresh hle)
      rw [hN] at fr
      rcases e' with z | z | z | z | z
      · rw [z]; exact fr _ (Nat.le_add_right _ _)
      · rw [z]; exact fr _ (Nat.le_add_right _ _)
      · rw [z]; exact fr _ (Nat.le_add_right _ _)
      · rw [z]; exact I4
      · rw [z]; exact fr _ (Nat.le_refl _)
end
/-! ### read by data -/
def aEnumO (c f : Str) (a : AE) : AI := fun env st q er => a env st (fun d s1 => ∃ l, itemsO c f d = some l ∧ q (enumD l) [] s1) er
def aZipO (c f : Str) (a b : AE) : AI := fun env st q er => a env st (fun x s1 => b env s1 (fun y s2 => ∃ l m, itemsO c f x = some l ∧ itemsD (vw s2 y) = some m ∧ q (zipD l m) (gdOf s2 y) s2) er) er
section
variable {X : Cx} {W : WX} {k j : Nat} {fa : Addr} {fd : FuncData} {ps : List Str} {c fld : Str} {e e2 : Expr} {ae ab : AE} {p pos tpos : Pos} {elts : List Expr} {kk : Nat}
theorem axi_enumO (C : CxE X W k) (F : ∀ base, FnOk X.prog X.w X.K X.mg base (L2N.CX X.prog X.w) j fa fd ps (spIt X.K base.objs.size (He.ga X.K c) fld)) (hb : BindsD X.K fd ps []) (hcl : Cls X.K (He.ga X.K c)) (hna : NoAttr X.K (He.ga X.K c) fld)
    (hs : PySem.W.findIn X.K (.ref (He.ga X.K c)) "__iter__" = some (some (.ref fa))) (hfn : PySem.W.isFn X.K (.ref fa) = true) (hm : X.mg "enumerate" = none) (he : AX X W e ae) (hj : j + 2 ≤ k) (hg : Gl X "enumerate" := by rfl) (hst : starEach [e] X.env = [(false, eval e X.env)] := by rfl) :
    AXI X W (.Tuple elts kk tpos) (.Call (.Name "enumerate" p) [e] [] pos) (aEnumO c fld ae) := by
  obtain ⟨t, pe, r⟩ := he
  obtain ⟨ds0, v0, hb⟩ := hb
  cases v0
  refine ⟨_, pi_enumO F (C.room.mono hj) hb hs hfn hg hm (pa_cons pe pa_nil (by rw [hst]; rfl)) hst, fun G env st σ H R q er s sl a t tX => r G env st σ H _ _ er s sl a (fun v d st2 G2 H2 p2 s2 r2 ⟨l, el, h2⟩ => ?_) tX⟩
  obtain ⟨p, dx, fs, a, vs, rfl, hp, hl, ha, rs⟩ := rep_items r2 el
  exact ⟨p, dx, fs, a, vs, rfl, s2.ex.ins hp, hcl, hna, hl, SqL.of (s2.ex.lst ha), t _ _ _ st2 G2 H2 p2 s2 (walks_enum (t := false) fun G3 st3 H3 le s3 _ => ⟨vs, rs.mono le, SqL.of (s3.ex.lst (le.g _ _ ha))⟩) h2⟩
theorem axi_zipO (C : CxE X W k) (F : ∀ base, FnOk X.prog X.w X.K X.mg base (L2N.CX X.prog X.w) j fa fd ps (spIt X.K base.objs.size (He.ga X.K c) fld)) (hb : BindsD X.K fd ps []) (hcl : Cls X.K (He.ga X.K c)) (hna : NoAttr X.K (He.ga X.K c) fld)
    (hs : PySem.W.findIn X.K (.ref (He.ga X.K c)) "__iter__" = some (some (.ref fa))) (hfn : PySem.W.isFn X.K (.ref fa) = true) (hm : X.mg "zip" = none) (he : AX X W e ae) (he2 : AX X W e2 ab) (hj : j + 2 ≤ k) (hg : Gl X "zip" := by rfl)
    (hst : starEach [e, e2] X.env = (false, eval e X.env) :: starEach [e2] X.env := by rfl) (hst2 : starEach [e2] X.env = [(false, eval e2 X.env)] := by rfl) (hpl : (backTo pos (starEach [e2] X.env)).any (·.1) = false := by rfl) :
    AXI X W (.Tuple elts kk tpos) (.Call (.Name "zip" p) [e, e2] [] pos) (aZipO c fld ae ab) := by
  obtain ⟨t, pe, r⟩ := he
  obtain ⟨t', pe', r'⟩ := he2
  obtain ⟨ds0, v0, hb⟩ := hb
  cases v0
  refine ⟨_, pi_zipO F (C.room.mono hj) hb hs hfn hg hm (pa_cons pe (pa_cons pe' pa_nil (by rw [hst2]; rfl)) (by rw [hst])) hst hpl, fun G env st σ H R q er s sl a t tX => r G env st σ H _ _ er s sl a (fun v d st2 G2 H2 p2 s2 r2 h2 => r' G2 env st2 σ H2 _ _ er s2 (sl.mono p2.le) h2 (fun v' d' st3 G3 H3 p3 s3 r3 h3 => ?_) (tX.on p2)) tX⟩
  obtain ⟨l, m, el, hm, h3⟩ := h3
  obtain ⟨p, dx, fs, a, vs, rfl, hp, hl, ha, rs⟩ := rep_items (r2.mono p3.le) el
  obtain ⟨b, vs', tup', rfl, rs', gk', hh'⟩ := rep_seq s3 r3 hm
  obtain ⟨us', _, q2⟩ := hh' G3 st3 H3 (Gh.le.refl _) s3 gk'
  exact ⟨p, dx, fs, a, vs, b, tup', us', rfl, s3.ex.ins hp, hcl, hna, hl, SqL.of (s3.ex.lst ha), q2, t _ _ _ st3 G3 H3 (p2.trans p3) s3 (walks_zip (t := false) (g := []) (fun G4 st4 H4 le s4 _ => ⟨vs, rs.mono le, SqL.of (s4.ex.lst (le.g _ _ ha))⟩) hh') h3⟩
end
/-! ### a statement that is not reached -/
def sNo : AS := fun _ _ _ => False
theorem axs_no {X : Cx} {W : WX} {st : Stmt} : AXS X W st sNo :=
  ⟨fun _ _ _ => False, ⟨fun _ _ _ _ _ _ h => h.elim⟩, fun _ _ _ _ _ _ _ _ _ h => h.elim⟩
end AM
set_option Elab.async false
set_option linter.all false
set_option maxRecDepth 100000
set_option maxHeartbeats 4000000
namespace AM
open PySem PySem.Spec PyProof.Rows L2 Evl
/-! ### in / not in: a dict with tuples as keys -/
def oInD : O2 := fun x y q => ∃ l, y = .dic l ∧ isKeyT x ∧ ∃ r, DGetD l x r ∧ q (.bl r.isSome)
def oNotInD : O2 := fun x y q => ∃ l, y = .dic l ∧ isKeyT x ∧ ∃ r, DGetD l x r ∧ q (.bl (!r.isSome))
def rInDic (f : Bool → Bool) : R2 := fun x y H Q => ∃ a o, y = .ref a ∧ DGet H a x o ∧ Q (.bl (f o.isSome)) H
theorem RepT.getS {K : PySem.W.Frag} {G : Gh} {l : List (D × D)} {kvs : List (List Key × V)} {k : List Key} {o : Option D} (r : RepT K G l kvs) (h : DGetD l (.tup (k.map kD)) o) : (valV kvs k).isSome = o.isSome := by
  generalize hk : D.tup (k.map kD) = kk at h
  cases h with
  | hit hl =>
    subst hk
    obtain ⟨w, e, rw'⟩ := r.look hl
    rw [e]; rfl
  | miss hm =>
    subst hk
    rw [r.none hm]; rfl
section
variable {X : Cx} {W : WX} {k : Nat}
theorem op_inDic (hu : X.A.units + 1 < cLine) : OpR X (compareOp .In) (rInDic id) := by
  intro pins s σ H x y v u Q I rx ry h
  obtain ⟨a, o, rfl, g, q⟩ := h
  obtain rfl : u = Value.ref a := ry
  exact d_in hu I g rx fun s' I' => ⟨.bl _, H, I', rfl, q⟩
theorem op_notInDic (hu : X.A.units + 1 < cLine) : OpR X (compareOp .NotIn) (rInDic Bool.not) := by
  intro pins s σ H x y v u Q I rx ry h
  obtain ⟨a, o, rfl, g, q⟩ := h
  obtain rfl : u = Value.ref a := ry
  exact d_notIn hu I g rx fun s' I' => ⟨.bl _, H, I', rfl, q⟩
theorem in_at {K : PySem.W.Frag} {G : Gh} {H : Hp} {l : List (D × D)} {dx : D} {x y : V} {r : Option D} (rx : Rv K G H dx x) (ry : Rv K G H (.dic l) y) (hk : isKeyT dx) (h : DGetD l dx r) : ∃ a o, y = .ref a ∧ DGet H a x o ∧ o.isSome = r.isSome := by
  obtain ⟨kk, rfl⟩ := hk
  cases ry with
  | dicT hp rk =>
    cases rx with
    | tup hy rs _ =>
      have := reps_kD rs
      subst this
      exact ⟨_, _, rfl, dget_tR hp hy, rk.getS h⟩
theorem op_InD (C : CxE X W k) : OpR X (compareOp .In) (rInDic id) ∧ RefO X.K (rInDic id) oInD := ⟨op_inDic (by have := u64 C.room; omega), fun G st H x y dx dy Q q s rx ry h t => by
  obtain ⟨l, rfl, hk, r, hr, h⟩ := h
  obtain ⟨a, o, e, g, z⟩ := in_at rx ry hk hr
  exact ⟨a, o, e, g, by rw [z]; exact t.here s (.bl _) h⟩⟩
theorem op_NotInD (C : CxE X W k) : OpR X (compareOp .NotIn) (rInDic Bool.not) ∧ RefO X.K (rInDic Bool.not) oNotInD := ⟨op_notInDic (by have := u64 C.room; omega), fun G st H x y dx dy Q q s rx ry h t => by
  obtain ⟨l, rfl, hk, r, hr, h⟩ := h
  obtain ⟨a, o, e, g, z⟩ := in_at rx ry hk hr
  exact ⟨a, o, e, g, by rw [z]; exact t.here s (.bl _) h⟩⟩
end
end AM
set_option Elab.async false
set_option linter.all false
set_option maxRecDepth 100000
set_option maxHeartbeats 4000000
namespace AM
open PySem PySem.Spec PyProof.Rows L2 Evl
/-! ### for k in d, for k, v in d.items(): tuples as keys -/
section
variable {X : Cx} {pins : List (Addr × Obj)} {σ : L2.St} {H : Hp} {s : Shared} {d : Addr} {o : Obj}
theorem frzT2 {kvs : List (List L2.Key × V)} (I : Inv X pins σ H s) (h : H d = some (.frz o (.dT kvs))) :
    (d == sysModules) = false ∧ s.heap.get? d = some o ∧ o.ExactDict ∧ ∃ (es : Array DictEntry) (ep : Nat), o.data = .dict es ep ∧ es.size = kvs.length ∧
      ∀ (i : Nat) (k : List L2.Key) (v : V), kvs[i]? = some (k, v) → ∃ (en : DictEntry) (q : Addr), es[i]? = some en ∧ en.key = .ref q ∧ H q = some (.tup (k.map kV)) ∧ RelV v en.val := by
  obtain ⟨hd, z, hs, xs, pr, o', es, ep, ho, hx, hdt, he, _⟩ := I.hok d _ h
  rw [hd] at ho
  cases ho
  refine ⟨hs, hd, hx, es, ep, hdt, ?_, fun i k v e => ?_⟩
  · have l1 : es.size = xs.length := size_of_entries he
    have l2 : kvs.length = xs.length := Paired.length pr
    omega
  · obtain ⟨b, hb, e1, e2, e3⟩ := paired_get pr e
    have q := entry_at he i
    rw [hb] at q
    exact ⟨_, b.2.1, q, rfl, e2, e3⟩
end
/-- the pairs, each a new tuple -/
def ItiT (d : Addr) (o : Obj) (kvs : List (List L2.Key × V)) : It :=
  ⟨fun i H => H d = some (.frz o (.dT kvs)) ∧ i < kvs.length, fun i H x H' => ∃ (T : Addr) (k : List L2.Key) (v : V) (q : Addr), kvs[i]? = some (k, v) ∧ x = .ref T ∧ H T = none ∧ H q = some (.tup (k.map kV)) ∧ H' = upd H T (.tup [.ref q, v]), fun i H => H d = some (.frz o (.dT kvs)) ∧ kvs.length ≤ i⟩
section
variable {P : Program} {w : World} {K : PySem.W.Frag} {d : Addr} {o : Obj} {es : Array DictEntry} {ep : Nat}
theorem turn_itemsT {kvs : List (List L2.Key × V)} {elts : List Expr} {kk : Nat} {tpos : Pos} (it : Addr) (hod : o.data = .dict es ep) :
    Turn P w K (.Tuple elts kk tpos) (ItiT d o kvs) [it] it (fun i h => ∃ ok ov, IsItemIter h it d i kvs.length ep ok ov) where
  mem := by simp
  obj := fun i h st b hb => by
    have e : b = it := by simpa using hb
    subst e
    obtain ⟨ok, ov, e⟩ := st
    exact ⟨_, e, fun v z => nomatch z⟩
  keep := fun i h h' st k => let ⟨ok, ov, e⟩ := st; ⟨ok, ov, k it (by simp) _ e⟩
  item := by
    intro X hP hw hK hc i pins s σ H E I hf st hg
    subst hP hw hK
    obtain ⟨hd, hi⟩ := hg
    obtain ⟨hs, hgd, hx, es', ep', hdt, hsz, ent⟩ := frzT2 I hd
    obtain ⟨rfl, rfl⟩ := dict_ep hod hdt
    obtain ⟨⟨k, v⟩, hkv⟩ : ∃ p, kvs[i]? = some p := ⟨kvs[i], List.getElem?_eq_getElem hi⟩
    obtain ⟨en, q, hen, hkey, hq, rv⟩ := ent i k v hkv
    obtain ⟨ok, ov, he⟩ := st
    rw [← hsz] at he
    have hie : i < es'.size := by omega
    have hen' : es'[i] = en := by rw [Array.getElem?_eq_getElem hie] at hen; exact Option.some.inj hen
    have hlt : it < s.heap.objs.size := Heap.lt_size he
    refine wpAny_pyNext_items_item_raw he ⟨o, hgd, hx, hdt⟩ hie fun h' ho hT hz hk => ?_
    refine ⟨_, rfl, wpAny_letOwnedTupleGo_items (s := { s with heap := h' }) ho fun h'' he' sb => ?_⟩
    rw [hen'] at hT he'
    have hT2 : h''.get? s.heap.objs.size = some { cls := .type "tuple", data := .seq #[en.key, en.val] } := (sb.2 _ (Nat.ne_of_gt hlt)).trans hT
    have new : ObjOk X.prog X.w (upd H s.heap.objs.size (.tup [.ref q, v])) h'' s.heap.objs.size (.tup [.ref q, v]) :=
      ⟨by show 2 ≤ sizeLine; decide, [en.key, en.val], .cons hkey (.cons rv .nil), ⟨_, hT2, rfl, _, rfl⟩⟩
    have I1 : Inv X pins σ (upd H s.heap.objs.size (.tup [.ref q, v])) { s with heap := h'' } :=
      I.turnedNew (t' := s.toks) (ch := [it]) (fun b ob hb e => (sb.2 b (by simpa using hb)).trans (hk b ob (by simpa using hb) e)) hf (Nat.le_refl _) new
    refine ⟨.ref s.heap.objs.size, _, I1, rfl, ⟨_, k, v, q, hkv, rfl, I.hok.fresh (Nat.le_refl _), hq, rfl⟩, ⟨en.key, en.val, ?_⟩, fun b hb => ?_⟩
    · rw [← hsz]; exact he'
    · have e : b = it := by simpa using hb
      rw [e, upd_ne (Nat.ne_of_lt hlt)]
      exact (hf it (by simp)).1
  done := by
    intro X hP hw hK hc i pins s σ H E I hf st hg
    subst hP hw hK
    obtain ⟨hd, hi⟩ := hg
    obtain ⟨f0, f1, f2, f3, f4, f5⟩ := hf it (by simp)
    obtain ⟨hs, hgd, hx, es', ep', hdt, hsz, ent⟩ := frzT2 I hd
    obtain ⟨rfl, rfl⟩ := dict_ep hod hdt
    obtain ⟨ok, ov, he⟩ := st
    rw [← hsz] at he
    exact wpAny_pyNext_items_end_raw (I.ok.hd hc) he ⟨o, hgd, hx, hdt⟩ (by omega) fun h' eb => ⟨rfl, I.turned (t' := s.toks) (fun b ob hb e => eb b ob hb e) f0 f1 f3 f4 f5⟩
  self := fun A i s Q E st h => let ⟨_, _, e⟩ := st; PySem.W.kcp_self e h
end
/-- the dict is locked, or it is locked here -/
def lkOr (R : Addr → Obj → List (List L2.Key × V) → Hp → Prop) (x : V) (H1 : Hp) : Prop := ∃ d kvs, x = .ref d ∧ ((∃ o, H1 d = some (.frz o (.dT kvs)) ∧ R d o kvs H1) ∨ (H1 d = some (.dT kvs) ∧ ∀ o, R d o kvs (upd H1 d (.frz o (.dT kvs)))))
def iKeysT (td : TE) : TI := fun σ H R => td σ H (lkOr fun d o kvs H1 => R (Itkt d o kvs) H1)
def iItemsT (td : TE) : TI := fun σ H R => td σ H (lkOr fun d o kvs H1 => R (ItiT d o kvs) H1)
section
variable {X : Cx} {tg e : Expr} {td : TE} {apos cpos : Pos}
theorem lkOr_ok {R : Addr → Obj → List (List L2.Key × V) → Hp → Prop} {pins : List (Addr × Obj)} {σ : L2.St} {H1 : Hp} {s : Shared} {x : V} (I : Inv X pins σ H1 s) (h : lkOr R x H1) : ∃ d o kvs H2, x = .ref d ∧ Inv X pins σ H2 s ∧ H2 d = some (.frz o (.dT kvs)) ∧ R d o kvs H2 := by
  obtain ⟨d, kvs, rfl, ⟨o, hd, q⟩ | ⟨hd, q⟩⟩ := h
  · exact ⟨d, o, kvs, H1, rfl, I, hd, q⟩
  · obtain ⟨od, I2⟩ := I.lock hd True.intro
    exact ⟨d, od, kvs, _, rfl, I2, upd_same, q od⟩
theorem pi_keysT (he : PE X e td) : PI X tg e (iKeysT td) := by
  refine ⟨fun pins s σ H R I h => ?_⟩
  refine thn (he.run pins s σ H _ I h) fun u s1 ⟨x, H1, I1, rx, q⟩ => ?_
  obtain ⟨d, o, kvs, H2, rfl, I2, hd, q⟩ := lkOr_ok I1 q
  obtain rfl : u = Value.ref d := rx
  obtain ⟨hs, hgd, hx, es, ep, hdt, hsz, ent⟩ := I2.frzT hd
  refine iter_keys hs hgd hx hdt (pi_one (tk := s1.toks) I2 _ (turn_keysT _ hdt) ⟨_, Heap.get?_push_size _ rfl, rfl, ?_⟩ q)
  rw [hsz] <;> rfl
theorem pi_itemsT {elts : List Expr} {kk : Nat} {tpos : Pos} (he : PE X e td) (hbase : attributeBase e "items" X.env (eval e X.env) = eval e X.env := by rfl) (hline : (apos.endLine == cpos.line) = true := by rfl) :
    PI X (.Tuple elts kk tpos) (.Call (.Attribute e "items" apos) [] [] cpos) (iItemsT td) := by
  refine ⟨fun pins s σ H R I h => ?_⟩
  refine wpAny_Call_method (T := "dict") (id := "dict.items") hbase rfl hline F.plainAttrs_dict F.slot_dict_items F.type_dict_items (thn (he.run pins s σ H _ I h) fun u s1 ⟨x, H1, I1, rx, q⟩ => ?_)
  obtain ⟨d, o, kvs, H2, rfl, I2, hd, q⟩ := lkOr_ok I1 q
  obtain rfl : u = Value.ref d := rx
  obtain ⟨hs, hgd, hx, es, ep, hdt, hsz, ent⟩ := frzT2 I2 hd
  have raw : s1.heap.DictRaw d es ep := ⟨o, hgd, hx, hdt⟩
  refine ⟨⟨o, hgd, hx.1⟩, fun b e => ?_, ?_⟩
  · cases e
    exact ⟨o, hgd, hx.2.1⟩
  have I3 : Inv X pins σ H2 { s1 with heap := s1.heap.push { cls := .type "dict_items", data := .fields #[.ref d] } } := I2.kept (t' := s1.toks) fun b ob q => Heap.get?_push_of_some _ q
  have fin : wpAny (model X.prog X.w) X.A (pyIter (.ref s1.heap.objs.size)) (PIE X pins σ (.Tuple elts kk tpos) R) X.xe { s1 with heap := s1.heap.push { cls := .type "dict_items", data := .fields #[.ref d] } } := by
    refine wpAny_pyIter_items_raw (d := d) ⟨_, Heap.get?_push_size _ rfl, rfl, rfl⟩ (raw.push _) (pi_one (tk := s1.toks) I3 _ (turn_itemsT _ hdt) ⟨.none, .none, ?_⟩ q)
    rw [← hsz]
    exact Heap.get?_push_size _ rfl
  show wpAny _ _ (callWith cpos (.builtin "dict.items") [.ref d] [] []) _ X.xe s1
  exact method_meetsIn F.slot_dict_items F.entry_dict_items rfl (PySem.evalArgs_none ⟨rfl, ⟨o, hgd, hx.1⟩, F.args_dict_items_1 _, _, meets_dict_items_raw d hs, ⟨⟨es, ep, raw⟩, fin⟩⟩)
end
/-! ### the same by data -/
section
variable {K : PySem.W.Frag} {G : Gh} {H : Hp} {st : S}
/-- a tuple that stands somewhere is frozen -/
theorem SS.freezeT (s : SS K G st H) {q : Addr} {xs : List V} (hq : H q = some (.tup xs)) (gq : G.g q = none) : SS K ⟨upd G.g q (.tup xs), G.as⟩ st H ∧ Post G H ⟨upd G.g q (.tup xs), G.as⟩ H := by
  have le : G.le ⟨upd G.g q (.tup xs), G.as⟩ := le_new gq
  refine ⟨⟨fun a u e => ?_, s.len, s.nd, fun n c p e1 e2 => (s.cell n c p e1 e2).mono le (fun u e => e) (fun hc e => ?_)⟩, le, fun x u e _ => .inl e, fun x e k _ => ?_, fun x z => .inl z, (fun x k => k), fun _ _ _ _ e => e⟩
  · have e : (upd G.g q (.tup xs)) a = some u := e
    by_cases h : a = q
    · subst h; rw [upd_same] at e; exact .inl (by rw [hq]; exact e)
    · rw [upd_ne h] at e; exact s.ex a u e
  · show (upd G.g q (.tup xs)) p = none
    rw [upd_ne]
    · exact e
    · intro z
      subst z
      have h := s.cell n c p e1 e2
      cases c with
      | lst l => obtain ⟨vs, _, h1, _⟩ := h; rw [hq] at h1; cases h1
      | dic l => obtain ⟨_, kvs, h1, _⟩ := h; rw [hq] at h1; cases h1
      | dicL t l => obtain ⟨_, h1, _⟩ := h; rw [hq] at h1; cases h1
      | obj c fs => obtain ⟨dx, vs, _, h1, _⟩ := h; rw [hq] at h1; cases h1
      | pool n ns => obtain ⟨_, a, l, q, h1, _⟩ := h; rw [hq] at h1; cases h1
      | dead => exact hc rfl
  · show (upd G.g q (.tup xs)) x = none
    rw [upd_ne (fun z => by subst z; exact k.2 _ hq)]
    exact e
/-- a frozen dict is locked -/
theorem SS.lockF (s : SS K G st H) {p : Addr} {o : Obj} {kvs : List (List L2.Key × V)} (gp : G.g p = some (.dT kvs)) (hp : H p = some (.dT kvs)) : SS K G st (upd H p (.frz o (.dT kvs))) ∧ Post G H G (upd H p (.frz o (.dT kvs))) := by
  refine ⟨⟨fun a u e => ?_, s.len, s.nd, fun n c q e1 e2 => ?_⟩, Gh.le.refl G, fun x u e _ => ?_, fun x e _ _ => e, fun x z => .inl z, fun x k => ?_, fun x o u k e => ?_⟩
  · by_cases h : a = p
    · subst h
      rw [gp] at e
      cases e
      exact .inr ⟨o, kvs, rfl, upd_same⟩
    · exact (s.ex a u e).put h
  · have h := s.cell n c q e1 e2
    by_cases hq : q = p
    · subst hq
      cases c with
      | lst l => obtain ⟨vs, g, _⟩ := h; rw [gp] at g; cases g
      | dic l => have g : G.g q = none := h.1; rw [gp] at g; cases g
      | dicL t l => have g : G.g q = none := h.1; rw [gp] at g; cases g
      | obj c fs => obtain ⟨dx, vs, g, _⟩ := h; rw [gp] at g; cases g
      | pool n ns => have g : G.g q = none := h.1; rw [gp] at g; cases g
      | dead => show upd H q _ q ≠ none; rw [upd_same]; exact fun z => nomatch z
    · exact h.mono (Gh.le.refl G) (fun u e => by rw [upd_ne hq]; exact e) fun _ e => e
  · by_cases h : x = p
    · subst h
      rw [hp] at e
      cases e
      exact .inr ⟨(by rw [gp]; exact fun z => nomatch z), o, kvs, rfl, upd_same⟩
    · exact .inl (by rw [upd_ne h]; exact e)
  · by_cases h : x = p
    · subst h; rw [upd_same]; exact fun z => nomatch z
    · rw [upd_ne h]; exact k
  · rw [upd_ne]
    · exact e
    · intro z
      subst z
      rw [hp] at e
      cases e
theorem reps_keys : ∀ k : List L2.Key, Reps K G (k.map kD) (k.map kV)
  | [] => .nil
  | .inl i :: k => .cons (.int i) (reps_keys k)
  | .inr x :: k => .cons (.str x) (reps_keys k)
/-- a key that is told -/
theorem SS.keyT (s : SS K G st H) {q : Addr} {k : List L2.Key} (hq : H q = some (.tup (k.map kV))) : ∃ G', Post G H G' H ∧ SS K G' st H ∧ Rep K G' (.tup (k.map kD)) (.ref q) := by
  cases e : G.g q with
  | none =>
    obtain ⟨s2, p2⟩ := s.freezeT hq e
    exact ⟨_, p2, s2, .tup upd_same (reps_keys k)⟩
  | some u =>
    refine ⟨G, Post.refl, s, ?_⟩
    rcases s.ex q u e with h | ⟨ob, kvs, rfl, h⟩
    · rw [hq] at h
      cases h
      exact .tup e (reps_keys k)
    · rw [hq] at h; cases h
theorem RepT.get {l : List (D × D)} {kvs : List (List L2.Key × V)} (r : RepT K G l kvs) : ∀ {i : Nat} {a b : D}, l[i]? = some (a, b) → ∃ k v, kvs[i]? = some (k, v) ∧ a = .tup (k.map kD) ∧ Rep K G b v := by
  induction l generalizing kvs with
  | nil => intro i a b e; simp at e
  | cons p l ih =>
    cases r with
    | cons h r =>
      intro i a b e
      cases i with
      | zero =>
        simp at e
        obtain ⟨rfl, rfl⟩ := e
        exact ⟨_, _, rfl, rfl, h⟩
      | succ i =>
        obtain ⟨k, v, e1, e2, e3⟩ := ih r (i := i) (a := a) (b := b) (by simpa using e)
        exact ⟨k, v, by simpa using e1, e2, e3⟩
theorem walks_keysT {d : Addr} {o : Obj} {kvs : List (List L2.Key × V)} {l : List (D × D)} {gd : Gd} (r : RepT K G l kvs) (h : ∀ G2 st2 H2, Wk G H G2 H2 → SS K G2 st2 H2 → gdOk gd st2 → H2 d = some (.frz o (.dT kvs))) : Walks K G H (Itkt d o kvs) (l.map Prod.fst) gd where
  stop := fun i G2 st H2 w s gk hi => ⟨h G2 st H2 w s gk, by rw [← hi, List.length_map, r.length]; exact Nat.le_refl _⟩
  go := fun i G2 st H2 w s gk hi => ⟨h G2 st H2 w s gk, by rw [List.length_map, r.length] at hi; exact hi⟩
  yld := fun i G2 st H2 x y H' w s gk hd z => by
    obtain ⟨rfl, k, v, q, e1, rfl, e3⟩ := z
    rw [List.getElem?_map] at hd
    cases e : l[i]? with
    | none => rw [e] at hd; cases hd
    | some ab =>
      obtain ⟨a, b⟩ := ab
      rw [e] at hd
      obtain ⟨k2, v2, f1, f2, f3⟩ := r.get e
      rw [e1] at f1
      cases f1
      have hd : a = x := Option.some.inj hd
      subst hd
      subst f2
      exact s.keyT e3
def itemsT (l : List (D × D)) : List D := l.map fun p => D.tup [p.1, p.2]
theorem walks_itemsT {d : Addr} {o : Obj} {kvs : List (List L2.Key × V)} {l : List (D × D)} {gd : Gd} (r : RepT K G l kvs) (h : ∀ G2 st2 H2, Wk G H G2 H2 → SS K G2 st2 H2 → gdOk gd st2 → H2 d = some (.frz o (.dT kvs))) : Walks K G H (ItiT d o kvs) (itemsT l) gd where
  stop := fun i G2 st H2 w s gk hi => ⟨h G2 st H2 w s gk, by unfold itemsT at hi; rw [← hi, List.length_map, r.length]; exact Nat.le_refl _⟩
  go := fun i G2 st H2 w s gk hi => ⟨h G2 st H2 w s gk, by unfold itemsT at hi; rw [List.length_map, r.length] at hi; exact hi⟩
  yld := fun i G2 st H2 x y H' w s gk hd z => by
    obtain ⟨T, k, v, q, e1, rfl, e2, e3, rfl⟩ := z
    unfold itemsT at hd
    rw [List.getElem?_map] at hd
    cases e : l[i]? with
    | none => rw [e] at hd; cases hd
    | some ab =>
      obtain ⟨a, b⟩ := ab
      rw [e] at hd
      obtain ⟨k2, v2, f1, f2, f3⟩ := r.get e
      rw [e1] at f1
      cases f1
      have hd : D.tup [a, b] = x := Option.some.inj hd
      subst hd
      subst f2
      obtain ⟨G3, p3, s3, r3⟩ := s.keyT e3
      obtain ⟨s4, p4⟩ := s3.new (o := .tup [.ref q, v]) e2
      exact ⟨_, p3.trans p4, s4, .tup upd_same (Reps.mono p4.le (.cons r3 (.cons (f3.mono (w.le.trans p3.le)) .nil)))⟩
end
/-- a dict that may be walked: a frozen one, a locked cell -/
def lkD (s : S) : D → Option (List (D × D) × Gd)
  | .dic l => some (l, [])
  | .ref n => match s[n]? with
    | some (.dicL t l) => some (l, [(n, .dicL t l)])
    | _ => none
  | _ => none
def aKeys (a : AE) : AI := fun env st q er => a env st (fun d s1 => ∃ l g, lkD s1 d = some (l, g) ∧ q (l.map Prod.fst) g s1) er
def aItems (a : AE) : AI := fun env st q er => a env st (fun d s1 => ∃ l g, lkD s1 d = some (l, g) ∧ q (itemsT l) g s1) er
theorem lkD_ok {K : PySem.W.Frag} {G : Gh} {H : Hp} {st : S} {d : D} {v : V} {l : List (D × D)} {g : Gd} {Q : Addr → Obj → List (List L2.Key × V) → Hp → Prop} (s : SS K G st H) (r : Rep K G d v) (h : lkD st d = some (l, g))
    (f : ∀ p o kvs H2, Post G H G H2 → SS K G st H2 → RepT K G l kvs → (∀ G3 st3 H3, Wk G H2 G3 H3 → SS K G3 st3 H3 → gdOk g st3 → H3 p = some (.frz o (.dT kvs))) → Q p o kvs H2) : lkOr Q v H := by
  unfold lkD at h
  split at h
  · cases h
    cases r with
    | dicT gp rs =>
      rename_i p kvs
      have fin : ∀ o H2, H2 p = some (.frz o (.dT kvs)) → ∀ G3 st3 H3, Wk G H2 G3 H3 → SS K G3 st3 H3 → gdOk [] st3 → H3 p = some (.frz o (.dT kvs)) := fun o H2 hh G3 st3 H3 w _ _ => w.z p o _ (by rw [gp]; exact fun z => nomatch z) hh
      rcases s.ex p _ gp with e | ⟨ob, kvs2, z, e⟩
      · refine ⟨p, kvs, rfl, .inr ⟨e, fun o => ?_⟩⟩
        obtain ⟨s2, p2⟩ := s.lockF (o := o) gp e
        exact f p o kvs _ p2 s2 rs (fin o _ upd_same)
      · cases z
        exact ⟨p, kvs, rfl, .inl ⟨ob, e, f p ob kvs H Post.refl s rs (fin ob H e)⟩⟩
  · rename_i n
    split at h
    · rename_i t l' hn
      cases h
      cases r with
      | ref ep =>
        rename_i p
        obtain ⟨gp, hp, rs⟩ := s.cell n _ p hn ep
        refine ⟨p, t.kvs, rfl, .inl ⟨t.o, hp, f p t.o t.kvs H Post.refl s rs fun G3 st3 H3 w s3 gk => ?_⟩⟩
        exact (s3.cell n _ p (gk (n, .dicL t l) (by simp)) (pre_get w.le.a ep)).2.1
    · cases h
  · cases h
section
variable {X : Cx} {W : WX} {tg e : Expr} {ae : AE} {apos cpos : Pos}
theorem axi_keys (h : AX X W e ae) : AXI X W tg e (aKeys ae) := by
  obtain ⟨t, p, r⟩ := h
  refine ⟨_, pi_keysT p, fun G env st σ H R q er s sl a t tX => r G env st σ H _ _ er s sl a (fun v d st2 G2 H2 p2 s2 r2 ⟨l, g, el, h2⟩ => ?_) tX⟩
  exact lkD_ok s2 r2 el fun p o kvs H3 p3 s3 rs hh => t _ _ _ st2 G2 H3 (p2.trans p3) s3 (walks_keysT rs hh) h2
theorem axi_items {elts : List Expr} {kk : Nat} {tpos : Pos} (h : AX X W e ae) (hbase : attributeBase e "items" X.env (eval e X.env) = eval e X.env := by rfl) (hline : (apos.endLine == cpos.line) = true := by rfl) :
    AXI X W (.Tuple elts kk tpos) (.Call (.Attribute e "items" apos) [] [] cpos) (aItems ae) := by
  obtain ⟨t, p, r⟩ := h
  refine ⟨_, pi_itemsT p hbase hline, fun G env st σ H R q er s sl a t tX => r G env st σ H _ _ er s sl a (fun v d st2 G2 H2 p2 s2 r2 ⟨l, g, el, h2⟩ => ?_) tX⟩
  exact lkD_ok s2 r2 el fun p o kvs H3 p3 s3 rs hh => t _ _ _ st2 G2 H3 (p2.trans p3) s3 (walks_itemsT rs hh) h2
end
/-! ### a statement runs while a dict's cell is locked -/
def pathD (s : S) : D → List Nat → Option D
  | d, [] => some d
  | d, j :: js => match vw s d with
    | .tup l => match l[j]? with
      | some x => pathD s x js
      | none => none
    | .lst l => match l[j]? with
      | some x => pathD s x js
      | none => none
    | _ => none
def unlK (n : Nat) (t : LkT) (l : List (D × D)) (k : AK) : AK :=
  ⟨fun env s => s[n]? = some (.dicL t l) ∧ k.nx env (s.set n (.dic l)), fun r s => s[n]? = some (.dicL t l) ∧ k.rt r (s.set n (.dic l)), fun env s => s[n]? = some (.dicL t l) ∧ k.bk env (s.set n (.dic l)), fun env s => s[n]? = some (.dicL t l) ∧ k.ct env (s.set n (.dic l)), k.er⟩
def lkS (n : Nat) (a : AS) : AS := fun env st k => match st[n]? with
  | some (.dicL _ _) => a env st k
  | some (.dic l) => ∀ t, a env (st.set n (.dicL t l)) (unlK n t l k)
  | _ => False
def lkB (d : D) (a : AS) : AS := fun env st k => match d with
  | .dic _ => a env st k
  | .non => a env st k
  | .ref n => lkS n a env st k
  | _ => False
def sLk (i : Nat) (js : List Nat) (a : AS) : AS := fun env st k => ∃ x d, env[i]? = some (.d x) ∧ pathD st x js = some d ∧ lkB d a env st k
theorem path_ok {K : PySem.W.Frag} {G : Gh} {H : Hp} {st : S} (s : SS K G st H) : ∀ {js : List Nat} {x d : D} {v : V}, Rep K G x v → pathD st x js = some d → ∃ u, Rep K G d u
  | [], x, d, v, r, h => by cases h; exact ⟨v, r⟩
  | j :: js, x, d, v, r, h => by
    have rv := r.vw s
    unfold pathD at h
    split at h
    · rename_i l e
      rw [e] at rv
      split at h
      · rename_i y hy
        cases rv with
        | tup _ rs _ => obtain ⟨u, _, ru⟩ := rs.get hy; exact path_ok s ru h
      · cases h
    · rename_i l e
      rw [e] at rv
      split at h
      · rename_i y hy
        cases rv with
        | lst _ rs => obtain ⟨u, _, ru⟩ := rs.get hy; exact path_ok s ru h
      · cases h
    · cases h
theorem ResOk.put {K : PySem.W.Frag} {G2 : Gh} {H H2 : Hp} {p : Addr} {o : HO} {r : Rs} {v : V} (hp : p ∈ G2.as) (h : ResOk K H G2 H2 r v) : ResOk K H G2 (upd H2 p o) r v := by
  cases r with
  | d x => exact h
  | own l =>
    obtain ⟨a, vs, e1, e2, e3, e4, e5, e6⟩ := h
    exact ⟨a, vs, e1, by rw [upd_ne (fun z : a = p => e4 (by rw [z]; exact hp))]; exact e2, e3, e4, e5, e6⟩
  | ownD l =>
    obtain ⟨a, e1, ⟨kvs, e2, e6⟩, e3, e4, e5⟩ := h
    exact ⟨a, e1, ⟨kvs, by rw [upd_ne (fun z : a = p => e4 (by rw [z]; exact hp))]; exact e2, e6⟩, e3, e4, e5⟩
def tLk3 (t : TS) : TS := fun D σ H => t D σ H ∨ tLock t D σ H
theorem ps_lk3 {X : Cx} {st : Stmt} {t : TS} (h : PS X st t) : PS X st (tLk3 t) := ⟨fun pins s σ H D I hw => by
  rcases hw with hw | hw
  · exact h.run pins s σ H D I hw
  · exact (ps_lock h).run pins s σ H D I hw⟩
theorem refS_lk {K : PySem.W.Frag} {W : WX} {ts : TS} {as : AS} (i : Nat) (js : List Nat) (h : RefS K W ts as) : RefS K W (tLk3 ts) (sLk i js as) := fun G env st σ H D k s l a t => by
  obtain ⟨x, d, ex, ed, a⟩ := a
  obtain ⟨u, eu, ru⟩ := l.slot i _ ex
  obtain ⟨w, rw'⟩ := path_ok s ru ed
  unfold lkB at a
  split at a
  · exact .inl (h G env st σ H D k s l a t)
  · exact .inl (h G env st σ H D k s l a t)
  · rename_i n
    unfold lkS at a
    split at a
    · exact .inl (h G env st σ H D k s l a t)
    · rename_i l0 hn
      cases rw' with
      | ref ep =>
        rename_i p
        obtain ⟨gp, kvs, hp, rs⟩ := s.cell n _ p hn ep
        refine .inr ⟨p, .dT kvs, hp, True.intro, fun od => ?_⟩
        obtain ⟨s1, p1⟩ := s.setCell (n := n) (c' := .dicL ⟨od, kvs⟩ l0) (o := .frz od (.dT kvs)) ep gp ⟨gp, upd_same, rs⟩
        have back : ∀ {G2 : Gh} {st2 : S} {H2 : Hp}, Post G (upd H p (.frz od (.dT kvs))) G2 H2 → SS K G2 st2 H2 → st2[n]? = some (.dicL ⟨od, kvs⟩ l0) → H2 p = some (.frz od (.dT kvs)) ∧ p ∈ G2.as ∧ SS K G2 (st2.set n (.dic l0)) (upd H2 p (.dT kvs)) ∧ Post G2 H2 G2 (upd H2 p (.dT kvs)) := fun {G2 st2 H2} p2 s2 e => by
          have ep2 := pre_get p2.le.a ep
          obtain ⟨gp2, hp2, rs2⟩ := s2.cell n _ p e ep2
          obtain ⟨s3, p3⟩ := s2.setCell (n := n) (c' := .dic l0) (o := .dT kvs) ep2 gp2 ⟨gp2, _, upd_same, rs2⟩
          exact ⟨hp2, List.mem_of_getElem? ep2, s3, p3⟩
        refine h G env _ σ _ _ _ s1 l (a ⟨od, kvs⟩) ⟨fun env' σ' st2 G2 H2 p2 s2 l2 hk => ?_, fun v r st2 G2 H2 p2 s2 r2 hk => ?_, fun env' σ' st2 G2 H2 p2 s2 l2 hk => ?_, fun env' σ' st2 G2 H2 p2 s2 l2 hk => ?_, fun e c dx env' σ' st2 G2 H2 p2 s2 l2 ea hk => t.er e c dx env' σ' st2 G2 H2 (p1.trans p2) s2 l2 ea hk⟩
        · obtain ⟨e1, e2, s3, p3⟩ := back p2 s2 hk.1
          exact ⟨e1, t.nx env' σ' _ G2 _ ((p1.trans p2).trans p3) s3 l2 hk.2⟩
        · obtain ⟨e1, e2, s3, p3⟩ := back p2 s2 hk.1
          exact ⟨e1, t.rt v r _ G2 _ ((p1.trans p2).trans p3) s3 ((r2.on p1).put e2) hk.2⟩
        · obtain ⟨e1, e2, s3, p3⟩ := back p2 s2 hk.1
          exact ⟨e1, t.bk env' σ' _ G2 _ ((p1.trans p2).trans p3) s3 l2 hk.2⟩
        · obtain ⟨e1, e2, s3, p3⟩ := back p2 s2 hk.1
          exact ⟨e1, t.ct env' σ' _ G2 _ ((p1.trans p2).trans p3) s3 l2 hk.2⟩
    · exact a.elim
  · exact a.elim
theorem axs_lk {X : Cx} {W : WX} {st : Stmt} {a : AS} (i : Nat) (js : List Nat) (h : AXS X W st a) : AXS X W st (sLk i js a) := by
  obtain ⟨t, p, r⟩ := h
  exact ⟨_, ps_lk3 p, refS_lk i js r⟩
end AM
set_option Elab.async false
set_option linter.all false
set_option maxRecDepth 100000
set_option maxHeartbeats 4000000
namespace AM
open PySem PySem.Spec PyProof.Rows L2 Evl
/-! ### an expression by its result: a value, a fresh list, a fresh dict -/
abbrev AR := List A → S → (Rs → S → Prop) → QX → Prop
def RefR (K : PySem.W.Frag) (W : WX) (te : TE) (ar : AR) : Prop := ∀ G env st σ H (Q : VK) (q : Rs → S → Prop) (er : QX), SS K G st H → Sl K G env σ → ar env st q er →
  (∀ v r st2 G2 H2, Post G H G2 H2 → SS K G2 st2 H2 → ResOk K H G2 H2 r v → q r st2 → Q v H2) → ThenX K W G H σ er → te σ H Q
def AXR (X : Cx) (W : WX) (e : Expr) (ar : AR) : Prop := ∃ te, PE X e te ∧ RefR X.K W te ar
def rV (a : AE) : AR := fun env st q er => a env st (fun d s => q (.d d) s) er
def rF (f : AFr) : AR := fun env st q er => f env st (fun l s => q (.own l) s) er
def rD (f : AFd) : AR := fun env st q er => f env st (fun l s => q (.ownD l) s) er
def rIf (t : AT) (a b : AR) : AR := fun env st q er => t env st (fun c s1 => if c = true then a env s1 q er else b env s1 q er) er
def rCall (m : AF) (aa : AEs) (dd : List D) : AR := fun env st q er => aa env st (fun ds s1 => m (ds ++ dd) s1 q er) er
/-- a value; a fresh list or dict becomes a cell -/
def cellQ (q : D → S → Prop) (r : Rs) (s : S) : Prop := match r with
  | .d d => q d s
  | .own l => q (.ref s.length) (s ++ [.lst l])
  | .ownD l => q (.ref s.length) (s ++ [.dic l])
def aCellR (r : AR) : AE := fun env st q er => r env st (cellQ q) er
def sRetR (r : AR) : AS := fun env st k => r env st (fun x s1 => k.rt x s1) (fun e s1 => k.er e env s1)
section
variable {K : PySem.W.Frag} {W : WX} {te ta tb : TE} {tt : TT} {at_ : AT} {ae : AE} {af : AFr} {ad : AFd} {ra rb : AR}
theorem RefE.r (h : RefE K W te ae) : RefR K W te (rV ae) := fun G env st σ H Q q er s l a tR tX => h G env st σ H Q _ er s l a (fun v d st2 G2 H2 p2 s2 r2 h2 => tR v (.d d) st2 G2 H2 p2 s2 r2 h2) tX
theorem RefF.r (h : RefF K W te af) : RefR K W te (rF af) := fun G env st σ H Q q er s l a tR tX => h G env st σ H Q _ er s l a (fun v d st2 G2 H2 p2 s2 r2 h2 => tR v (.own d) st2 G2 H2 p2 s2 r2 h2) tX
theorem RefD.r (h : RefD K W te ad) : RefR K W te (rD ad) := fun G env st σ H Q q er s l a tR tX => h G env st σ H Q _ er s l a (fun v d st2 G2 H2 p2 s2 r2 h2 => tR v (.ownD d) st2 G2 H2 p2 s2 r2 h2) tX
theorem refR_if (ht : RefT K W tt at_) (ha : RefR K W ta ra) (hb : RefR K W tb rb) : RefR K W (tIf tt ta tb) (rIf at_ ra rb) := fun G env st σ H Q q er s l h tR tX => by
  refine ht G env st σ H _ _ er s l h (fun b st1 G1 H1 p1 s1 h1 => ?_) tX
  cases b with
  | true => exact ha G1 env st1 σ H1 Q q er s1 (l.mono p1.le) h1 (fun v r st2 G2 H2 p2 s2 r2 h2 => tR v r st2 G2 H2 (p1.trans p2) s2 (r2.on p1) h2) (tX.on p1)
  | false => exact hb G1 env st1 σ H1 Q q er s1 (l.mono p1.le) h1 (fun v r st2 G2 H2 p2 s2 r2 h2 => tR v r st2 G2 H2 (p1.trans p2) s2 (r2.on p1) h2) (tX.on p1)
theorem refR_call {m : AF} {ta : TA} {args : AEs} {dd : List D} {dvs : List V} (ha : RefA K W ta args) (hd : ∀ G, Reps K G dd dvs) : RefR K W (tCallSD (SpA K m) dvs (fun σ c d H => W c d σ H) ta) (rCall m args dd) := fun G env st σ H Q q er s l h tR tX => by
  refine ha G env st σ H _ _ er s l h (fun vs ds st2 G2 H2 p2 s2 a2 h2 => ?_) tX
  exact ⟨G2, st2, _, _, er, s2, a2.append (hd G2), h2, fun v r st3 G3 H3 p3 s3 r3 h3 => tR v r st3 G3 H3 (p2.trans p3) s3 (r3.on p2) h3, fun e c dx st3 G3 H3 p3 s3 ea h3 => tX e c dx st3 G3 H3 (p2.trans p3) s3 ea h3⟩
theorem refE_cellR (h : RefR K W te ra) : RefE K W te (aCellR ra) := fun G env st σ H Q q er s l a tE tX =>
  h G env st σ H Q _ er s l a (fun v r st2 G2 H2 p2 s2 r2 h2 => by
    cases r with
    | d d => exact tE v d st2 G2 H2 p2 s2 r2 h2
    | own ls =>
      obtain ⟨G3, s3, p3, r3⟩ := own_cell s2 p2 r2
      exact tE v _ _ G3 H2 p3 s3 r3 h2
    | ownD ls =>
      obtain ⟨p, rfl, ⟨kvs, e, rs⟩, gp, np, hn⟩ := r2
      refine tE _ _ _ _ H2 (p2.cellOf hn) (s2.cellOf (c := .dic ls) np ⟨gp, kvs, e, rs.mono le_cell⟩) (.ref ?_) h2
      rw [← s2.len, List.getElem?_append_right (Nat.le_refl _), Nat.sub_self]
      rfl) tX
end
section
variable {X : Cx} {W : WX} {e c a b : Expr} {ae : AE} {af : AFr} {ad : AFd} {ra rb : AR} {at_ : AT} {pos p : Pos} {k j : Nat} {f : Addr} {fd : FuncData} {ps : List Str} {m : AF} {x : Str} {es : List Expr} {aa : AEs} {dd : List D} {dvs : List V}
theorem axr_v (h : AX X W e ae) : AXR X W e (rV ae) := by
  obtain ⟨t, p, r⟩ := h
  exact ⟨t, p, r.r⟩
theorem axr_f (h : AXF X W e af) : AXR X W e (rF af) := by
  obtain ⟨t, p, r⟩ := h
  exact ⟨t, p, r.r⟩
theorem axr_d (h : AXD X W e ad) : AXR X W e (rD ad) := by
  obtain ⟨t, p, r⟩ := h
  exact ⟨t, p, r.r⟩
theorem axr_if (hc : AXT X W c at_) (ha : AXR X W a ra) (hb : AXR X W b rb) : AXR X W (.IfExp c a b pos) (rIf at_ ra rb) := by
  obtain ⟨tc, pc, rc⟩ := hc
  obtain ⟨ta, pa, ra⟩ := ha
  obtain ⟨tb, pb, rb⟩ := hb
  exact ⟨_, pe_ifExp pc pa pb, refR_if rc ra rb⟩
theorem axr_call (C : CxE X W k) (F : FnOk X.prog X.w X.K X.mg X.base (L2N.CX X.prog X.w) j f fd ps (SpA X.K m)) (hm : X.mg x = some (.ref f)) (hk : PySem.W.keepIn X.K (.ref f) = true) (hb : BindsD X.K fd ps dvs) (hdd : ∀ G, Reps X.K G dd dvs) (ha : AXA X W (e :: es) aa) (hj : j ≤ k)
    (hg : Gl X x := by rfl) (hdb : (x == ("__debug__" : Str)) = false := by decide) (he : starEach (e :: es) X.env = (false, eval e X.env) :: starEach es X.env := by rfl) (hpl : (backTo pos (starEach es X.env)).any (·.1) = false := by rfl) : AXR X W (.Call (.Name x p) (e :: es) [] pos) (rCall m aa dd) := by
  obtain ⟨t, p, r⟩ := ha
  obtain ⟨ds, hv, hb⟩ := hb
  exact ⟨_, pe_callSD F (C.room.mono hj) hg hm hk hb hv (fun σ => L2N.passAt C.takes σ) p hdb he hpl, refR_call r hdd⟩
theorem axr_callSt (C : CxE X W k) (F : FnOk X.prog X.w X.K X.mg X.base (L2N.CX X.prog X.w) j f fd ps (SpA X.K m)) (hm : X.mg x = some (.ref f)) (hk : PySem.W.keepIn X.K (.ref f) = true) (hb : BindsD X.K fd ps dvs) (hdd : ∀ G, Reps X.K G dd dvs) (ha : AXA X W (e :: es) aa) (hj : j ≤ k)
    (hg : Gl X x := by rfl) (hdb : (x == ("__debug__" : Str)) = false := by decide) (he : starEach (e :: es) X.env = (false, eval e X.env) :: starEach es X.env := by rfl) (hst : (backTo pos (starEach es X.env)).any (·.1) = true := by rfl) : AXR X W (.Call (.Name x p) (e :: es) [] pos) (rCall m aa dd) := by
  obtain ⟨t, p, r⟩ := ha
  obtain ⟨ds, hv, hb⟩ := hb
  exact ⟨_, pe_callSt F (C.room.mono hj) hg hm hk hb hv (fun σ => L2N.passAt C.takes σ) p hdb he hst, refR_call r hdd⟩
theorem ax_cellR (h : AXR X W e ra) : AX X W e (aCellR ra) := by
  obtain ⟨t, p, r⟩ := h
  exact ⟨t, p, refE_cellR r⟩
theorem axs_retR (h : AXR X W e ra) : AXS X W (.Return (some e) pos) (sRetR ra) := by
  obtain ⟨t, p, r⟩ := h
  refine ⟨_, ps_ret p, fun G env st σ H D k s l a t => ?_⟩
  exact r G env st σ H _ _ _ s l a (fun v x st2 G2 H2 p2 s2 r2 h2 => t.rt v x st2 G2 H2 p2 s2 r2 h2) (t.x l)
end
/-! ### how a def is left: own cells left away; a list or a dict of its own may be handed on -/
def exX (k : Nat) (q : Rs → S → Prop) (r : Rs) (s : S) : Prop := ltS k (s.take k) ∧ ((r.lt k ∧ q r (s.take k)) ∨ (∃ n l, r = .d (.ref n) ∧ k ≤ n ∧ s[n]? = some (.lst l) ∧ ltL k l ∧ q (.own l) (s.take k)) ∨ ∃ n l, r = .d (.ref n) ∧ k ≤ n ∧ s[n]? = some (.dic l) ∧ ltP k l ∧ q (.ownD l) (s.take k))
def fnX (np ns : Nat) (b : AS) : AF := fun args st q er => args.length = np ∧ (ltL st.length args → ltS st.length st → b (args.map .d ++ List.replicate (ns - np) .no) st ⟨fun _ s => exX st.length q (.d .non) s, exX st.length q, fun _ _ => False, fun _ _ => False, fun e _ s => e.lt st.length ∧ ltS st.length (s.take st.length) ∧ er e (s.take st.length)⟩)
theorem leadsX {np ns : Nat} {b : AS} : Leads np ns b (fnX np ns b) := ⟨fun _ _ _ _ h => h.1, fun {K G st H args q er Q E vs} s r m hq he => by
  have ka : G.as.length = st.length := s.len
  have la : ltL st.length args := by rw [← ka]; exact r.lt
  have rt : ∀ (v : V) (r : Rs) (st2 : S) (G2 : Gh) (H2 : Hp), Post G H G2 H2 → SS K G2 st2 H2 → ResOk K H G2 H2 r v → exX st.length q r st2 → Q v H2 := fun v r st2 G2 H2 p2 s2 r2 h => by
    obtain ⟨h1, h⟩ := h
    rw [← ka] at h1 h
    have s3 := s2.cut p2.le.a h1
    have p3 := p2.cut
    have npp : ∀ {n : Nat} {p : Addr}, G.as.length ≤ n → G2.as[n]? = some p → p ∉ G.as := fun {n p} hn ep z => by
      obtain ⟨i, ei⟩ := List.mem_iff_getElem?.mp z
      have hi := (List.getElem?_eq_some_iff.mp ei).1
      have := (List.getElem?_inj (List.getElem?_eq_some_iff.mp ep).1 s2.nd).mp (ep.trans (pre_get p2.le.a ei).symm)
      omega
    have new : ∀ {n : Nat} {p : Addr}, G.as.length ≤ n → G2.as[n]? = some p → H p = none := fun {n p} hn ep => by
      rcases p2.o p (List.mem_of_getElem? ep) with z | z
      · exact absurd z (npp hn ep)
      · exact z
    rcases h with ⟨h2, h⟩ | ⟨n, l, rfl, hn, e, hl, h⟩ | ⟨n, l, rfl, hn, e, hl, h⟩
    · refine hq v r _ _ H2 p3 s3 ?_ h
      cases r with
      | d x => exact Rep.cut p2.le.a r2 h2
      | own l =>
        obtain ⟨p, vs, e1, e2, e3, e4, e5, e6⟩ := r2
        exact ⟨p, vs, e1, e2, e3, fun z => e4 (p2.le.a.subset z), e5, e6.cut p2.le.a h2⟩
      | ownD l =>
        obtain ⟨p, e1, e2, e3, e4, e5⟩ := r2
        exact ⟨p, e1, e2.cut p2.le.a h2, e3, fun z => e4 (p2.le.a.subset z), e5⟩
    · refine hq v (.own l) _ _ H2 p3 s3 ?_ h
      cases r2 with
      | ref ep =>
        rename_i p
        obtain ⟨vs, gp, hp, rs⟩ := s2.cell n _ p e ep
        exact ⟨p, vs, rfl, hp, gp, npp hn ep, new hn ep, rs.cut p2.le.a hl⟩
    · refine hq v (.ownD l) _ _ H2 p3 s3 ?_ h
      cases r2 with
      | ref ep =>
        rename_i p
        obtain ⟨gp, hp⟩ := s2.cell n _ p e ep
        exact ⟨p, rfl, DctAt.cut p2.le.a hp hl, gp, npp hn ep, new hn ep⟩
  refine ⟨_, m.2 la s.wf, fun env' σ' st2 G2 H2 p2 s2 l2 h => rt .non (.d .non) st2 G2 H2 p2 s2 Rep.non h, rt, fun _ _ _ _ _ _ _ _ z => z.elim, fun _ _ _ _ _ _ _ _ z => z.elim, fun e c dx env' σ' st2 G2 H2 p2 s2 l2 ea h => ?_⟩
  obtain ⟨h1, h2, h⟩ := h
  rw [← ka] at h1 h2 h
  exact he e c dx _ _ H2 p2.cut (s2.cut p2.le.a h2) (ea.cut p2.le.a h1) h⟩
/-! ### a comparison, one way or another -/
def oAlt (f g : O2) : O2 := fun x y q => f x y q ∨ g x y q
theorem op_alt {X : Cx} {o : Value → Value → Sem Value} {r1 r2 : R2} {f g : O2} (h1 : OpR X o r1 ∧ RefO X.K r1 f) (h2 : OpR X o r2 ∧ RefO X.K r2 g) : OpR X o (fun x y H Q => r1 x y H Q ∨ r2 x y H Q) ∧ RefO X.K (fun x y H Q => r1 x y H Q ∨ r2 x y H Q) (oAlt f g) :=
  ⟨fun pins s σ H x y v u Q I rx ry h => by
    rcases h with h | h
    · exact h1.1 pins s σ H x y v u Q I rx ry h
    · exact h2.1 pins s σ H x y v u Q I rx ry h, fun G st H x y dx dy Q q s rx ry h t => by
    rcases h with h | h
    · exact .inl (h1.2 G st H x y dx dy Q q s rx ry h t)
    · exact .inr (h2.2 G st H x y dx dy Q q s rx ry h t)⟩
end AM
set_option Elab.async false
set_option linter.all false
set_option maxRecDepth 100000
set_option maxHeartbeats 4000000
/-! sorted({.. for ..}) of ints (the comprehension follows HandS.SetBool's, turned to ints), sorted(list), == in deep view -/
namespace AM
open PySem PySem.Spec PyProof.Rows L2 Evl PpSet
section
variable {X : Cx}
theorem addI_ok {pins : List (Addr × Obj)} {σ : L2.St} {H : Hp} {s : Shared} {E : Value → Shared → Prop} {D : Addr} {S : Int → Bool} {n : Nat} {y : Int} {t : Nat} {Q : Value → Shared → Prop} (I : Inv X pins σ H s) (hD : H D = some (SetO X.w D S n)) (room : n + 1 < scanBound)
    (h : ∀ s', Inv X pins σ (upd H D (SetO X.w D (fun j => S j || decide (j = y)) (if S y = true then n else n + 1))) s' → Q .none s') : wpAny (model X.prog X.w) X.A (call (.builtin "set.add") [.ref D, .int y t]) Q E s := by
  have R := setO_get I hD
  refine setR_add R room fun h' sb new => ?_
  have he : ∃ u, h'.get? D = some u := by
    have ⟨o, _, _, _, ho, _⟩ := new
    exact ⟨o, ho⟩
  exact h _ (I.write (e := D) (t' := s.toks + 1) (by rw [hD]; trivial) (.inl rfl) (fun b u hb hu => (sb.2 b hb).trans hu) he (setO_new new))
/-- {elt for target in iter if ..}, elt an int: D the new set -/
def tScI (w : World) (wi : TI) (g : TG) (tt : TT) (te : TE) (vs : List Nat) : TE := fun σ H Q => wi σ H fun J H1 => ∀ D, H1 D = none → ∃ W : Nat → Nat → Hp → Prop, (∃ m, W 0 m (upd H1 D (SetO w D (fun _ => false) 0))) ∧ ∀ i m H, W i m H →
  (J.stop i H ∧ Q (.ref D) H) ∨ (J.go i H ∧ ∃ Nx : Hp → Prop, (∀ H', Nx H' → ∃ m', m' < m ∧ W (i + 1) m' H') ∧ ∀ x H', J.yld i H x H' → g x (wipe σ vs) H' fun σ2 H2 => wipe σ2 vs = wipe σ vs ∧ tt σ2 H2 fun b H3 =>
    if b = true then te σ2 H3 fun y H4 => ∃ (c : Int) (S : Int → Bool) (n : Nat), y = .int c ∧ H4 D = some (SetO w D S n) ∧ n + 1 < scanBound ∧ Nx (upd H4 D (SetO w D (fun j => S j || decide (j = c)) (if S c = true then n else n + 1))) else Nx H3)
theorem sc_coreI {pins : List (Addr × Obj)} {s : Shared} {σ : L2.St} {H : Hp} {Q : VK} {elt tg iter : Expr} {ifs : List Expr} {scope : Scope} {own : List (PySem.Str × Nat)} {pos pos' : Pos} {wi : TI} {g : TG} {tt : TT} {te : TE} {use : Option (Value → Sem Unit)} {Qf : Value → Shared → Prop}
    (hc : X.calm = true) (hN : X.N.Nodup) (I : Inv X pins σ H s) (hi : PI X tg iter wi) (ok : BlkOk X.N X.env.scope scope own)
    (hg : ∀ (s : Shared) (H : Hp) (C : Addr) (cl : List (PySem.Str × Addr)) (fp : List Addr), PG (X.blk s H scope (compEnvC scope cl C X.env) fp) tg g) (ht : ∀ (s : Shared) (H : Hp) (C : Addr) (cl : List (PySem.Str × Addr)) (fp : List Addr), PTs (X.blk s H scope (compEnvC scope cl C X.env) fp) ifs tt)
    (he : ∀ (s : Shared) (H : Hp) (C : Addr) (cl : List (PySem.Str × Addr)) (fp : List Addr), PE (X.blk s H scope (compEnvC scope cl C X.env) fp) elt te) (hs : ∀ x, foldedSetIterable iter X.env x = pure x)
    (h : tScI X.w wi g tt te (own.map (·.2)) σ H Q)
    (hRR : ∀ D C s' m H', Inv X pins σ H' s' → Q (.ref D) H' → s'.heap.Ns C m → FpOk X pins H' C → compPost (model X.prog X.w) X.A X.xe use Qf (.ref D) C (.ok .next) s') :
    wpAny (model X.prog X.w) X.A (comprehension (.SetComp elt [⟨tg, iter, ifs, 0⟩] scope pos) scope X.env pos' (newSet (.type "set")) false (eval iter X.env) use) Qf X.xe s := by
  have hfree : ∀ y ∈ scope.names, y.2 = .free → ∃ c, X.env.cells.lookup y.1 = some c := fun y hy e => by
    rcases ok.free y hy e with k | k
    · exact I.ok.has _ (.inl k)
    · exact I.ok.has _ (.inr k)
  refine wpAny_comprehension_free (use := use) rfl hs (closure_ok hfree) ok.kind (fun y hy e => by rw [ok.uniq y hy, e])
    (thn (hi.run pins s σ H _ I h) fun xv s1 hx => thn hx fun itv s2 h2 => ?_)
  obtain ⟨it, fp, tn, J, H2, e, I2, T, st2, f2, q⟩ := h2
  subst e
  refine newSet_ok (newEnv_comp ?_)
  generalize hD : s2.heap.objs.size = D
  have hDn : H2 D = none := I2.hok.fresh (Nat.le_of_eq hD)
  obtain ⟨W, ⟨m0, w0⟩, turn⟩ := q D hDn
  -- the new list
  generalize hs3 : ({ s2 with heap := s2.heap.push { cls := .type "set", dict := none, data := .set #[] 0 (.fresh 0 0 (!X.w.params.followText "set-order")) } } : Shared) = s3
  have I3 : Inv X pins σ (upd H2 D (SetO X.w D (fun _ => false) 0)) s3 := by
    rw [← hs3]
    refine I2.laid (t' := s2.toks) (fun b o e => Heap.get?_push_of_some _ e) (Nat.le_of_eq hD) ?_
    rw [← hD]
    exact setO_new (setR_fresh X.w)
  have h3 : s3.heap = s2.heap.push { cls := .type "set", dict := none, data := .set #[] 0 (.fresh 0 0 (!X.w.params.followText "set-order")) } := by rw [← hs3]
  have sz : ∀ b ∈ fp, b < s2.heap.objs.size := fun b hb => by
    obtain ⟨o, e, _⟩ := T.obj _ _ st2 b hb
    exact Heap.lt_size e
  have f3 : ∀ b ∈ fp, FpOk X pins (upd H2 D (SetO X.w D (fun _ => false) 0)) b ∧ b < s3.heap.objs.size := fun b hb => by
    have hlt := sz b hb
    refine ⟨⟨?_, (f2 b hb).2⟩, by rw [h3, Heap.size_push]; exact Nat.lt_succ_of_lt hlt⟩
    rw [upd_ne (by rw [← hD]; exact Nat.ne_of_lt hlt)]
    exact (f2 b hb).1
  have st3 : tn 0 s3.heap := T.keep _ _ _ st2 fun b _ o e => by rw [h3]; exact Heap.get?_push_of_some _ e
  have I4 := block_start I3 ok hN f3
  have pg := hg s3 (upd H2 D (SetO X.w D (fun _ => false) 0)) s3.heap.objs.size (cellsFrom (s3.heap.objs.size + 1) scope.names (cloFrom X.env.cells scope.names [])) fp
  have pt := ht s3 (upd H2 D (SetO X.w D (fun _ => false) 0)) s3.heap.objs.size (cellsFrom (s3.heap.objs.size + 1) scope.names (cloFrom X.env.cells scope.names [])) fp
  have pe := he s3 (upd H2 D (SetO X.w D (fun _ => false) 0)) s3.heap.objs.size (cellsFrom (s3.heap.objs.size + 1) scope.names (cloFrom X.env.cells scope.names [])) fp
  show codeAny _ _ (.compStart (.SetComp elt [⟨tg, iter, ifs, 0⟩] scope pos) 0 (.ref it) (.ref D) (compEnvC scope (cellsFrom (s3.heap.objs.size + 1) scope.names (cloFrom X.env.cells scope.names [])) s3.heap.objs.size X.env)) (compPost (model X.prog X.w) X.A X.xe use Qf (.ref D) s3.heap.objs.size) { s3 with heap := pushCells (s3.heap.push { cls := .type "dict", data := .dict #[] }) scope.names }
  have nfp : ∀ b ∈ fp, (upd H2 D (SetO X.w D (fun _ => false) 0)) b = none := fun b hb => (f3 b hb).1.1
  generalize hce : compEnvC scope (cellsFrom (s3.heap.objs.size + 1) scope.names (cloFrom X.env.cells scope.names [])) s3.heap.objs.size X.env = ce at I4 pg pt pe ⊢
  have cL : ce.locals = s3.heap.objs.size := by subst hce; rfl
  generalize hH3 : upd H2 D (SetO X.w D (fun _ => false) 0) = H3 at I3 I4 pg pt pe w0 nfp f3
  generalize hs4 : ({ s3 with heap := pushCells (s3.heap.push { cls := .type "dict", data := .dict #[] }) scope.names } : Shared) = s4 at I4 ⊢
  have st4 : tn 0 s4.heap := T.keep _ _ _ st3 fun b _ o e => by rw [← hs4]; exact pushCells_keeps _ _ _ _ (Heap.get?_push_of_some _ e)
  have stat : ∀ {σ' : L2.St} {H' : Hp} {s' : Shared}, Inv (X.blk s3 H3 scope ce fp) [] σ' H' s' → (∀ b ∈ fp, H' b = none) → ∀ b ∈ fp, FpOk (X.blk s3 H3 scope ce fp) [] H' b := fun {σ' H' s'} I' hn b hb =>
    ⟨hn b hb, (I'.ok.exf b hb).1, I'.ok.exfs b hb, .inl hb, fun x c e => (I'.ok.exf b hb).2 x c e, fun p hp => absurd (show p ∈ ([] : List (Addr × Obj)) ++ [] from hp) (by simp)⟩
  have loop : codeAny (model X.prog X.w) X.A (.compLoop (.SetComp elt [⟨tg, iter, ifs, 0⟩] scope pos) 0 (.ref it) (.ref D) ce) (compPost (model X.prog X.w) X.A X.xe use Qf (.ref D) s3.heap.objs.size) s4 := by
    refine compLoopS_any (fun n s' => ∃ i H', Inv (X.blk s3 H3 scope ce fp) [] (wipe σ (own.map (·.2))) H' s' ∧ tn i s'.heap ∧ (∀ b ∈ fp, H' b = none) ∧ W i n H') ?_ m0 ⟨0, H3, I4, st4, nfp, w0⟩
    rintro n s5 ⟨i, H5, I5, st5, n5, w5⟩
    rcases turn i n H5 w5 with ⟨stop, qq⟩ | ⟨go, Nx, hNx, step⟩
    · have td := T.done (X.blk s3 H3 scope ce fp) rfl rfl rfl hc i [] s5 _ H5 (fun _ _ => False) I5 (stat I5 n5) st5 stop
      refine thnF td fun r s6 ⟨hr, I6⟩ => ?_
      subst hr
      -- back in the def's context
      have I7 : Inv X pins σ H5 s6 := I3.call' (ch := fp) I6.os I6.base I6.hok I6.bare fun b hb => ⟨(f3 b hb).1.2.2.2.1, (f3 b hb).1.2.1, (f3 b hb).1.2.2.2.2.1, (f3 b hb).1.2.2.2.2.2⟩
      have nC : H5 s3.heap.objs.size = none := by
        have z : H5 ce.locals = none := I6.free
        rw [cL] at z
        exact z
      obtain ⟨m, hn, _⟩ := I6.loc
      have hn : s6.heap.Ns ce.locals m := hn
      rw [cL] at hn
      exact hRR D s3.heap.objs.size s6 m H5 I7 qq hn (I3.fpOk (Nat.le_refl _) nC)
    · have ti := T.item (X.blk s3 H3 scope ce fp) rfl rfl rfl hc i [] s5 _ H5 (fun _ _ => False) I5 (stat I5 n5) st5 go
      refine thnF ti fun r s6 ⟨u, hr, h6⟩ => ?_
      subst hr
      refine thnF h6 fun _ s7 ⟨x, H7, I7, r7, y7, st7, n7⟩ => ?_
      have I7' := I7.pinned (stat I7 n7) (T.obj _ _ st7)
      refine thnF (pg.run _ s7 _ H7 x u _ I7' r7 (step x H7 y7)) fun _ s8 ⟨σ8, H8, I8, hw8, q8⟩ => ?_
      refine thnF (pt.run _ s8 σ8 H8 _ I8 q8) fun b s9 ⟨H9, I9, q9⟩ => ?_
      -- the turn's end
      have fin : ∀ {s' : Shared} {H' : Hp}, Inv (X.blk s3 H3 scope ce fp) ([] ++ pinsAt fp s7.heap) σ8 H' s' → Nx H' → ∃ m, m < n ∧ ∃ i H', Inv (X.blk s3 H3 scope ce fp) [] (wipe σ (own.map (·.2))) H' s' ∧ tn i s'.heap ∧ (∀ b ∈ fp, H' b = none) ∧ W i m H' := fun {s' H'} I' nx => by
        obtain ⟨m', hm, w'⟩ := hNx H' nx
        have pin' : ∀ b ∈ fp, ∀ o, s7.heap.get? b = some o → s'.heap.get? b = some o ∧ H' b = none := fun b hb o e =>
          let z := I'.pin (b, o) (List.mem_append_right _ (List.mem_append_right _ (mem_pinsAt hb e)))
          ⟨z.1, z.2.1⟩
        have hl : (wipe σ (own.map (·.2))).length = σ8.length := by rw [← hw8, wipe_length]
        refine ⟨m', hm, i + 1, H', (I'.unpinned (pins := [])).weak hl (fun j v e => ?_), T.keep _ _ _ st7 fun b hb o e => (pin' b hb o e).1, fun b hb => ?_, w'⟩
        · rw [← hw8] at e
          exact (wipe_some e).1
        · obtain ⟨o, e, _⟩ := T.obj _ _ st7 b hb
          exact (pin' b hb o e).2
      cases b with
      | false =>
        simp only [Bool.false_eq_true, if_false] at q9 ⊢
        exact fin I9 q9
      | true =>
        simp only [if_true] at q9 ⊢
        refine thnF (pe.run _ s9 σ8 H9 _ I9 q9) fun z s10 ⟨yv, H10, I10, r10, cb, S0, n0, ey, hD10, hz10, nx⟩ => ?_
        subst ey
        obtain ⟨tk0, rfl⟩ : ∃ tk0, z = Value.int cb tk0 := r10
        exact addI_ok (X := X.blk s3 H3 scope ce fp) I10 hD10 hz10 fun s11 I11 => fin I11 nx
  exact codeAny_compStart_set loop (T.self X.A 0 _ _ _ st4 loop)
theorem pe_scI {elt tg iter : Expr} {ifs : List Expr} {scope : Scope} {own : List (PySem.Str × Nat)} {spos : Pos} {wi : TI} {g : TG} {tt : TT} {te : TE} (hc : X.calm = true) (hN : X.N.Nodup) (hi : PI X tg iter wi) (ok : BlkOk X.N X.env.scope scope own)
    (hg : ∀ (s : Shared) (H : Hp) (C : Addr) (cl : List (PySem.Str × Addr)) (fp : List Addr), PG (X.blk s H scope (compEnvC scope cl C X.env) fp) tg g) (ht : ∀ (s : Shared) (H : Hp) (C : Addr) (cl : List (PySem.Str × Addr)) (fp : List Addr), PTs (X.blk s H scope (compEnvC scope cl C X.env) fp) ifs tt)
    (he : ∀ (s : Shared) (H : Hp) (C : Addr) (cl : List (PySem.Str × Addr)) (fp : List Addr), PE (X.blk s H scope (compEnvC scope cl C X.env) fp) elt te) (hs : ∀ x, foldedSetIterable iter X.env x = pure x := by intro _; rfl) :
    PE X (.SetComp elt [⟨tg, iter, ifs, 0⟩] scope spos) (tScI X.w wi g tt te (own.map (·.2))) := by
  refine ⟨fun pins s σ H Q I h => ?_⟩
  rw [eval_SetComp]
  refine sc_coreI hc hN I hi ok hg ht he hs h fun D C s' m H' I' q hn f => ⟨m, hn, fun h'' sb => ?_⟩
  obtain ⟨f0, f1, f2, f3, f4, f5⟩ := f
  exact ⟨.ref D, H', I'.turned (t' := s'.toks) (fun b o hb e => (sb.2 b hb).trans e) f0 f1 f3 f4 f5, rfl, q⟩
end
/-! ### a new set of ints grows at P -/
structure Bt (K : PySem.W.Frag) (w : World) (P : Addr) (G : Gh) (H : Hp) (acc : List Int) (G2 : Gh) (st2 : S) (H2 : Hp) : Prop where
  ss : SS K G2 st2 H2
  po : Post G H G2 H2
  new : H P = none
  na : P ∉ G2.as
  ng : G2.g P = none
  at_ : ∃ S n, H2 P = some (SetO w P S n) ∧ n ≤ acc.length ∧ ∀ k, S k = true ↔ k ∈ acc
section
variable {K : PySem.W.Frag} {w : World} {P : Addr} {G G2 G3 : Gh} {H H2 H3 : Hp} {st st2 st3 : S} {acc : List Int}
theorem Bt.start (s : SS K G st H) (hP : H P = none) : Bt K w P G H [] G st (upd H P (SetO w P (fun _ => false) 0)) := by
  obtain ⟨s2, p2, na, ng⟩ := s.room (o := SetO w P (fun _ => false) 0) hP
  exact ⟨s2, p2, hP, na, ng, _, 0, upd_same, Nat.le_refl _, fun k => by simp⟩
theorem Bt.on (b : Bt K w P G H acc G2 st2 H2) (p : Post G2 H2 G3 H3) (s3 : SS K G3 st3 H3) : Bt K w P G H acc G3 st3 H3 := by
  obtain ⟨S, n, e, r⟩ := b.at_
  refine ⟨s3, b.po.trans p, b.new, fun z => ?_, p.n P b.ng ⟨ne_some e, fun xs t => by rw [e] at t; cases t⟩ b.na, S, n, p.h0 e b.na b.ng, r⟩
  rcases p.o P z with z | z
  · exact b.na z
  · rw [e] at z; cases z
theorem Bt.add (b : Bt K w P G H acc G2 st2 H2) (c : Int) (hl : acc.length < 60) : ∃ S n, H2 P = some (SetO w P S n) ∧ n + 1 < scanBound ∧ Bt K w P G H (acc ++ [c]) G2 st2 (upd H2 P (SetO w P (fun j => S j || decide (j = c)) (if S c = true then n else n + 1))) := by
  obtain ⟨S, n, e, hn, hS⟩ := b.at_
  refine ⟨S, n, e, Nat.lt_of_lt_of_le (show n + 1 < 64 by omega) (by decide), ⟨fun a o q => ?_, b.ss.len, b.ss.nd, fun n c p e1 e2 => (b.ss.cell n c p e1 e2).mono (Gh.le.refl _) (fun o q => ?_) (fun _ q => q)⟩, ⟨b.po.le, fun x o q k => ?_, b.po.n, b.po.o, fun x k => ?_, fun x o u k q => by rw [upd_ne (live_ne b.new (ne_some q))]; exact b.po.z x o u k q⟩, b.new, b.na, b.ng, _, _, upd_same, ?_, fun k => ?_⟩
  · exact (b.ss.ex a o q).put (fun z => by rw [z, b.ng] at q; cases q)
  · rw [upd_ne (mem_ne b.na (List.mem_of_getElem? e2))]; exact q
  · rcases b.po.h x o q k with e9 | ⟨y9, ob9, kvs9, z9, e9⟩
    · exact .inl (by rw [upd_ne (live_ne b.new (ne_some q))]; exact e9)
    · exact .inr ⟨y9, ob9, kvs9, z9, by rw [upd_ne (live_ne b.new (ne_some q))]; exact e9⟩
  · by_cases h : x = P
    · subst h; rw [upd_same]; exact fun z => nomatch z
    · rw [upd_ne h]; exact b.po.m x k
  · rw [List.length_append]
    show _ ≤ acc.length + 1
    split <;> omega
  · rw [Bool.or_eq_true, hS k, List.mem_append, decide_eq_true_eq]
    simp
end
/-- the ints that are met -/
def aScL (gd : Gd) (g : AG) (t : AT) (e : AE) (env : List A) (q : List Int → S → Prop) : List D → List Int → S → Prop
  | [], acc, st => gdOk gd st ∧ q acc st
  | x :: xs, acc, st => gdOk gd st ∧ g x env st fun e1 => t e1 st (fun b s2 => if b = true then e e1 s2 (fun y s3 => ∃ c : Int, y = .int c ∧ acc.length < 60 ∧ aScL gd g t e env q xs (acc ++ [c]) s3) (fun _ _ => False) else aScL gd g t e env q xs acc s2) (fun _ _ => False)
/-- sorted({e for ..}): the same ints, each once, ascending -/
def fSs (it : AI) (g : AG) (t : AT) (e : AE) (vs : List Nat) : AFr := fun env st q er => it env st (fun ds gd s1 => aScL gd g t e (wA vs env) (fun acc s2 => ∀ ns : List Int, ns.Pairwise (· < ·) → (∀ k, k ∈ ns ↔ k ∈ acc) → q (ns.map .int) s2) ds [] s1) er
theorem refF_ss {X : Cx} {W : WX} {wi : TI} {ai : AI} {g : TG} {ag : AG} {tt : TT} {xt : AT} {te : TE} {ae : AE} {vs : List Nat} (hi : RefI X.K W wi ai) (hg : RefG X.K g ag) (hs : Stays vs g) (ht : RefT X.K W0 tt xt) (he : RefE X.K W0 te ae) :
    RefF X.K W (fun σ H Q => (tScI X.w wi g tt te vs) σ H fun v H1 => rSortedSet X.w [v] H1 Q) (fSs ai ag xt ae vs) := fun G env st σ H Q q er s l h tE tX => by
  refine hi G env st σ H _ _ er s l h (fun J ds gd st2 G2 H2 p2 s2 wk h2 => ?_) tX
  intro P hP
  have b0 : Bt X.K X.w P G2 H2 [] G2 st2 _ := Bt.start s2 hP
  have l0 := (l.mono p2.le).wipe vs
  generalize hqq : (fun (acc : List Int) (s2 : S) => ∀ ns : List Int, ns.Pairwise (· < ·) → (∀ k, k ∈ ns ↔ k ∈ acc) → q (ns.map .int) s2) = qq at h2
  have gk : ∀ {ds acc st}, aScL gd ag xt ae (wA vs env) qq ds acc st → gdOk gd st := fun {ds acc st} h => by cases ds <;> exact h.1
  let Inv : Nat → Hp → Prop := fun i H' => i ≤ ds.length ∧ ∃ acc G3 st3, acc.length ≤ 60 ∧ Bt X.K X.w P G2 H2 acc G3 st3 H' ∧ Wk G2 H2 G3 H' ∧ aScL gd ag xt ae (wA vs env) qq (ds.drop i) acc st3
  refine ⟨fun i m H' => m = ds.length - i ∧ Inv i H', ⟨ds.length, by omega, Nat.zero_le _, [], G2, st2, by simp, b0, b0.po.wk, h2⟩, ?_⟩
  rintro i m H' ⟨rfl, hle, acc, G3, st3, hal, b3, le3, f3⟩
  have s3 := b3.ss
  have k3 := gk f3
  by_cases hlt : i < ds.length
  · refine .inr ⟨wk.go i G3 st3 H' le3 s3 k3 hlt, Inv (i + 1), fun H4 h4 => ⟨ds.length - (i + 1), by omega, rfl, h4⟩, fun x H5 y => ?_⟩
    rw [List.drop_eq_getElem_cons hlt] at f3
    have hd : ds[i]? = some ds[i] := by simp [hlt]
    have turn : ∀ G6, Post G3 H' G6 H5 → SS X.K G6 st3 H5 → Rep X.K G6 ds[i] x → g x (wipe σ vs) H5 fun σ2 H2 => wipe σ2 vs = wipe σ vs ∧ tt σ2 H2 fun b H3 =>
        if b = true then te σ2 H3 fun y H4 => ∃ (c : Int) (S : Int → Bool) (n : Nat), y = .int c ∧ H4 P = some (SetO X.w P S n) ∧ n + 1 < scanBound ∧ Inv (i + 1) (upd H4 P (SetO X.w P (fun j => S j || decide (j = c)) (if S c = true then n else n + 1))) else Inv (i + 1) H3 := fun G6 p6 s6 rr => by
      have b6 := b3.on p6 s6
      have le6 := le3.on p6
      refine stay_g hg hs s6 (l0.mono le6.le) rr f3.2 fun env7 σ7 hw l7 h7 => ?_
      refine ht G6 env7 st3 σ7 H5 _ _ _ s6 l7 h7 (fun bb st8 G8 H8 p8 s8 h8 => ?_) ThenX.none
      cases bb with
      | false => exact ⟨hlt, acc, G8, st8, hal, b6.on p8 s8, le6.on p8, h8⟩
      | true =>
        refine he G8 env7 st8 σ7 H8 _ _ _ s8 (l7.mono p8.le) h8 (fun w9 d st9 G9 H9 p9 s9 r9 h9 => ?_) ThenX.none
        obtain ⟨c, rfl, hl, h9⟩ := h9
        obtain ⟨S, n, e1, e2, e3⟩ := (b6.on (p8.trans p9) s9).add c hl
        cases r9
        exact ⟨c, S, n, rfl, e1, e2, hlt, acc ++ [c], G9, st9, by simp; omega, e3, (le6.on (p8.trans p9)).put e1 (fun _ _ z => nomatch z), h9⟩
    obtain ⟨G6, p6, s6, rr⟩ := wk.yld i G3 st3 H' _ x H5 le3 s3 k3 hd y
    exact turn G6 p6 s6 rr
  · have e : i = ds.length := by omega
    subst e
    rw [List.drop_length] at f3
    subst hqq
    obtain ⟨S, n, e1, e2, e3⟩ := b3.at_
    refine .inl ⟨wk.stop _ G3 st3 H' le3 s3 k3 rfl, P, S, n, rfl, e1, by omega, fun ns p hp hm _ hn => ?_⟩
    obtain ⟨s4, p4, n4, g4⟩ := s3.room (o := .lst (ns.map V.int)) hn
    exact tE _ (ns.map .int) st3 G3 _ (p2.trans (b3.po.trans p4)) s4 (ResOk.on (p2.trans b3.po) ⟨p, _, rfl, upd_same, g4, n4, hn, Reps.ints ns⟩) (f3.2 ns hp fun k => (hm k).trans (e3 k))
section
variable {X : Cx} {W : WX} {k : Nat} {pos spos p : Pos} {elt tg iter : Expr} {ifs : List Expr} {scope : Scope} {own : List (Str × Nat)} {ai : AI} {ag : AG} {xt : AT} {ae : AE}
theorem axf_ss (own : List (Str × Nat)) (C : CxE X W k) (hm : X.mg "sorted" = none) (ok : BlkOk X.N X.env.scope scope own) (hi : AXI X W tg iter ai)
    (hg : ∀ (s : Shared) (H : Hp) (C : Addr) (cl : List (Str × Addr)) (fp : List Addr), AXGc (X.blk s H scope (compEnvC scope cl C X.env) fp) (own.map (·.2)) tg ag) (ht : ∀ (s : Shared) (H : Hp) (C : Addr) (cl : List (Str × Addr)) (fp : List Addr), AXTs (X.blk s H scope (compEnvC scope cl C X.env) fp) W0 ifs xt)
    (he : ∀ (s : Shared) (H : Hp) (C : Addr) (cl : List (Str × Addr)) (fp : List Addr), AX (X.blk s H scope (compEnvC scope cl C X.env) fp) W0 elt ae) (hgl : Gl X "sorted" := by rfl) (hs : ∀ x, foldedSetIterable iter X.env x = pure x := by intro _; rfl)
    (hst : starEach [Expr.SetComp elt [⟨tg, iter, ifs, 0⟩] scope spos] X.env = (false, eval (.SetComp elt [⟨tg, iter, ifs, 0⟩] scope spos) X.env) :: starEach [] X.env := by rfl) (hpl : (backTo pos (starEach [] X.env)).any (·.1) = false := by rfl) :
    AXF X W (.Call (.Name "sorted" p) [.SetComp elt [⟨tg, iter, ifs, 0⟩] scope spos] [] pos) (fSs ai ag xt ae (own.map (·.2))) := by
  obtain ⟨t, pi, r⟩ := hi
  exact ⟨_, pe_callB (cr_sortedSet C.calm) hgl hm (by rfl) (pa_cons (pe_scI (te := rdE X.K W0 ae) C.calm C.nd pi ok (fun s H C cl fp => (hg s H C cl fp).pg) (fun s H C cl fp => (ht s H C cl fp).pts) (fun s H C cl fp => (he s H C cl fp).pe) hs) pa_nil hst) (by decide) (by decide) hst hpl, refF_ss r rdG_ref rdG_stays rdT_ref rdE_ref⟩
end
end AM
set_option Elab.async false
set_option linter.all false
set_option maxRecDepth 100000
set_option maxHeartbeats 4000000
namespace AM
open PySem PySem.Spec PyProof.Rows L2 Evl
/-! ### sorted(list) -/
/-- of ints -/
def fSortI (a : AE) : AFr := fun env st q er => a env st (fun x s1 => ∃ ns : List Int, vw s1 x = .lst (ns.map .int) ∧ ∀ ns' : List Int, ns'.Perm ns → ns'.Pairwise (· ≤ ·) → q (ns'.map .int) s1) er
/-- of tuples of d ints from 0 to B - 1 -/
def tupD (ns : List Int) : D := .tup (ns.map .int)
def fSortT (a : AE) : AFr := fun env st q er => a env st (fun x s1 => ∃ (d : Nat) (B : Int) (l : List (List Int)), vw s1 x = .lst (l.map tupD) ∧ 1 ≤ d ∧ l.length < 64 ∧ (∀ ns ∈ l, ns.length = d ∧ TS.Bd B ns) ∧
  ∀ l' : List (List Int), l'.Perm l → l'.Pairwise (fun x y => TS.code B x ≤ TS.code B y) → q (l'.map tupD) s1) er
def rSortAny (K : PySem.W.Frag) : List V → Hp → VK → Prop := fun vs H Q => ∃ (d : Nat) (B : Int), 1 ≤ d ∧ rSortU K d B vs H Q
theorem cr_sortAny {X : Cx} : CallR X (.builtin "sorted") (rSortAny X.K) := fun pins s σ H vs us Q I r ⟨_, _, hd, h⟩ => cr_sortT hd pins s σ H vs us Q I r h
theorem reps_ints {K : PySem.W.Frag} {G : Gh} : ∀ {ns : List Int} {vs : List V}, Reps K G (ns.map .int) vs → vs = ns.map V.int
  | [], _, .nil => rfl
  | n :: ns, _, .cons h r => by cases h; rw [reps_ints r]; rfl
theorem Reps.perm {K : PySem.W.Frag} {G : Gh} {vs us : List V} (h : vs.Perm us) : ∀ {ds : List D}, Reps K G ds vs → ∃ es : List D, es.Perm ds ∧ Reps K G es us := by
  induction h with
  | nil => intro ds r; exact ⟨ds, List.Perm.refl _, r⟩
  | cons x _ ih =>
    intro ds r
    cases r with
    | cons h r =>
      obtain ⟨es, e1, e2⟩ := ih r
      exact ⟨_ :: es, e1.cons _, .cons h e2⟩
  | swap x y l =>
    intro ds r
    cases r with
    | cons h r => cases r with
      | cons h2 r => exact ⟨_ :: _ :: _, .swap _ _ _, .cons h2 (.cons h r)⟩
  | trans _ _ h1 h2 =>
    intro ds r
    obtain ⟨es, e1, e2⟩ := h1 r
    obtain ⟨fs, f1, f2⟩ := h2 e2
    exact ⟨fs, f1.trans e1, f2⟩
theorem perm_unmap {α β : Type} {f : α → β} {l : List α} {es ds : List β} (h : es.Perm ds) : ds = l.map f → ∃ l' : List α, l'.Perm l ∧ es = l'.map f := by
  induction h generalizing l with
  | nil => intro e; exact ⟨[], by rw [List.map_eq_nil_iff.mp e.symm], rfl⟩
  | cons x _ ih =>
    intro e
    cases l with
    | nil => cases e
    | cons a l =>
      rw [List.map_cons, List.cons.injEq] at e
      obtain ⟨l', h1, h2⟩ := ih e.2
      exact ⟨a :: l', h1.cons _, by rw [h2, e.1]; rfl⟩
  | swap x y l2 =>
    intro e
    match l, e with
    | a :: b :: l, e =>
      simp only [List.map_cons, List.cons.injEq] at e
      exact ⟨b :: a :: l, .swap _ _ _, by rw [e.1, e.2.1, e.2.2]; rfl⟩
  | trans _ _ h1 h2 =>
    intro e
    obtain ⟨l2, a1, a2⟩ := h2 e
    obtain ⟨l3, b1, b2⟩ := h1 a2
    exact ⟨l3, b1.trans a1, b2⟩
theorem Reps.at {K : PySem.W.Frag} {G : Gh} {ds : List D} {vs : List V} (r : Reps K G ds vs) {i : Nat} (h1 : i < ds.length) (h2 : i < vs.length) : Rep K G ds[i] vs[i] := by
  obtain ⟨v, e, h⟩ := r.get (List.getElem?_eq_getElem h1)
  rw [List.getElem?_eq_getElem h2] at e
  cases e
  exact h
section
variable {X : Cx} {W : WX} {k : Nat} {pos p : Pos} {e : Expr} {ae : AE}
theorem rep_tupI {K : PySem.W.Frag} {G : Gh} {H : Hp} {st : S} (s : SS K G st H) {ns : List Int} {v : V} (r : Rep K G (tupD ns) v) : TupI K H v ns := by
  unfold tupD at r
  cases r with
  | tup h r => rw [reps_ints r] at h; exact ⟨_, rfl, SqT.of (s.ex.tup h)⟩
theorem axf_sortI (hm : X.mg "sorted" = none) (ha : AX X W e ae) (hg : Gl X "sorted" := by rfl) (he : starEach [e] X.env = (false, eval e X.env) :: starEach [] X.env := by rfl) (hpl : (backTo pos (starEach [] X.env)).any (·.1) = false := by rfl) :
    AXF X W (.Call (.Name "sorted" p) [e] [] pos) (fSortI ae) := by
  obtain ⟨ta, pa, ra⟩ := ha
  refine ⟨_, pe_callB cr_sortedI hg hm (by rfl) (pa_cons pa pa_nil he) (by decide) (by decide) he hpl, fun G env st σ H Q q er s sl h tF tX => ra G env st σ H _ _ er s sl h (fun v d st1 G1 H1 p1 s1 r1 h1 => ?_) tX⟩
  obtain ⟨ns, hv, h1⟩ := h1
  have rv := r1.vw s1
  rw [hv] at rv
  cases rv with
  | lst hl rs =>
    rw [reps_ints rs] at hl
    refine ⟨_, ns, rfl, SqL.of hl, fun ns' ad hp hpw hn => ?_⟩
    obtain ⟨s2, p2, n2, g2⟩ := s1.room (o := .lst (ns'.map V.int)) hn
    exact tF _ (ns'.map .int) st1 G1 _ (p1.trans p2) s2 (ResOk.on p1 ⟨ad, _, rfl, upd_same, g2, n2, hn, Reps.ints ns'⟩) (h1 ns' hp hpw)
theorem axf_sortT (hm : X.mg "sorted" = none) (ha : AX X W e ae) (hg : Gl X "sorted" := by rfl) (he : starEach [e] X.env = (false, eval e X.env) :: starEach [] X.env := by rfl) (hpl : (backTo pos (starEach [] X.env)).any (·.1) = false := by rfl) :
    AXF X W (.Call (.Name "sorted" p) [e] [] pos) (fSortT ae) := by
  obtain ⟨ta, pa, ra⟩ := ha
  refine ⟨_, pe_callB cr_sortAny hg hm (by rfl) (pa_cons pa pa_nil he) (by decide) (by decide) he hpl, fun G env st σ H Q q er s sl h tF tX => ra G env st σ H _ _ er s sl h (fun v d st1 G1 H1 p1 s1 r1 h1 => ?_) tX⟩
  obtain ⟨dd, B, l, hv, hd, h64, hl, h1⟩ := h1
  have rv := r1.vw s1
  rw [hv] at rv
  cases rv with
  | lst hl9 rs =>
    have hlen := rs.length
    rw [List.length_map] at hlen
    refine ⟨dd, B, hd, _, _, rfl, SqL.of hl9, by omega, fun x hx => ?_, fun ys ad hp hpw hn => ?_⟩
    · obtain ⟨i, hi, rfl⟩ := List.mem_iff_getElem.mp hx
      have hi2 : i < l.length := by omega
      have r9 := rs.at (i := i) (by simpa using hi2) hi
      rw [List.getElem_map] at r9
      have := hl _ (List.getElem_mem hi2)
      exact ⟨l[i], rep_tupI s1 r9, this.1, this.2⟩
    · obtain ⟨es, e1, e2⟩ := rs.perm hp.symm
      obtain ⟨l', f1, rfl⟩ := perm_unmap e1 rfl
      obtain ⟨s2, p2, n2, g2⟩ := s1.room (o := .lst ys) hn
      refine tF _ (l'.map tupD) st1 G1 _ (p1.trans p2) s2 (ResOk.on p1 ⟨ad, _, rfl, upd_same, g2, n2, hn, e2⟩) (h1 l' f1 ?_)
      rw [List.pairwise_iff_getElem] at hpw ⊢
      intro i j hi hj hij
      have hl2 := e2.length
      rw [List.length_map] at hl2
      have a1 := e2.at (i := i) (by simpa using hi) (by omega)
      have a2 := e2.at (i := j) (by simpa using hj) (by omega)
      rw [List.getElem_map] at a1 a2
      exact hpw i j (by omega) (by omega) hij _ _ (rep_tupI s1 a1) (rep_tupI s1 a2)
end
/-! ### == where cells stand within lists -/
def vwN (st : S) : Nat → D → D
  | 0, d => d
  | n + 1, .ref k => match st[k]? with
    | some (.lst l) => .lst (l.map (vwN st n))
    | _ => .ref k
  | n + 1, .lst l => .lst (l.map (vwN st n))
  | n + 1, .tup l => .tup (l.map (vwN st n))
  | _, d => d
theorem plains_memV : ∀ {l : List D}, D.plains l = true → ∀ x ∈ l, x.plain = true
  | [], _, _, h => by cases h
  | y :: l, h, x, hx => by
    obtain ⟨h1, h2⟩ := Bool.and_eq_true_iff.mp (show (y.plain && D.plains l) = true from h)
    rcases List.mem_cons.mp hx with rfl | hx
    · exact h1
    · exact plains_memV h2 x hx
theorem vwN_plain {st : S} : ∀ (n : Nat) {d : D}, d.plain = true → vwN st n d = d
  | 0, d, _ => by unfold vwN; rfl
  | n + 1, d, h => by
    have go : ∀ l : List D, D.plains l = true → l.map (vwN st n) = l := fun l hl => by
      conv => rhs; rw [← List.map_id l]
      exact List.map_congr_left fun x hx => vwN_plain n (plains_memV hl x hx)
    cases d with
    | lst l => show D.lst (l.map (vwN st n)) = _; rw [go l h]
    | tup l => show D.tup (l.map (vwN st n)) = _; rw [go l h]
    | ref k => cases h
    | _ => rfl
theorem vwN_dp {K : PySem.W.Frag} {G : Gh} {H : Hp} {st : S} (s : SS K G st H) : ∀ (n : Nat) {d : D} {v : V}, Rep K G d v → (vwN st n d).plain = true → Dp K H v (vwN st n d).py
  | 0, d, v, r, h => by
    have e : vwN st 0 d = d := by unfold vwN; rfl
    rw [e] at h ⊢
    exact r.dp s.ex h
  | n + 1, d, v, r, h => by
    have go : ∀ {ds : List D} {vs : List V}, Reps K G ds vs → D.plains (ds.map (vwN st n)) = true → DpAll K H vs (D.pys (ds.map (vwN st n))) := fun {ds} => by
      induction ds with
      | nil => intro vs r _; cases r; exact .nil
      | cons x xs ih =>
        intro vs r hp
        cases r with
        | cons h r =>
          obtain ⟨h1, h2⟩ := Bool.and_eq_true_iff.mp (show ((vwN st n x).plain && D.plains (xs.map (vwN st n))) = true from hp)
          exact .cons (vwN_dp s n h h1) (ih r h2)
    cases r with
    | lst e rs => exact .lst (SqL.of (s.ex.lst e)) (go rs h)
    | tup e rs => exact .tup (SqT.of (s.ex.tup e)) (go rs h)
    | @ref m p e =>
      unfold vwN at h ⊢
      revert h
      cases hm : st[m]? with
      | none => intro h; cases h
      | some c =>
        cases c with
        | lst l =>
          intro h
          obtain ⟨vs, _, h2, h3⟩ := s.cell m _ p hm e
          exact .lst (SqL.of h2) (go h3 h)
        | _ => intro h; cases h
    | non => exact .non
    | bl b => exact .bl b
    | int b => exact .int b
    | str b => exact .str b
    | _ => exact absurd h (by unfold vwN; intro z; cases z)
def aEqV (neg : Bool) (a b : AE) : AE := fun env st q er => a env st (fun x s1 => b env s1 (fun y s2 => (vwN s2 4 x).shp ∧ (vwN s2 4 y).shp ∧ q (.bl (neg != D.eqv (vwN s2 4 x) (vwN s2 4 y))) s2) er) er
section
variable {K : PySem.W.Frag} {W : WX} {ta tb : TE} {aa ab : AE}
theorem refE_eqV (ha : RefE K W ta aa) (hb : RefE K W tb ab) : RefE K W (tOp (rEqD K) ta tb) (aEqV false aa ab) := fun G env st σ H Q q er s l h tE tX => by
  refine ha G env st σ H _ _ er s l h (fun v d st1 G1 H1 p1 s1 r1 h1 => ?_) tX
  refine hb G1 env st1 σ H1 _ _ er s1 (l.mono p1.le) h1 (fun u d2 st2 G2 H2 p2 s2 r2 h2 => ?_) (tX.on p1)
  obtain ⟨a1, a2, h2⟩ := h2
  refine ⟨_, _, vwN_dp s2 4 (r1.mono p2.le) a1.1, vwN_dp s2 4 r2 a2.1, D.shaped a1, D.shaped a2, ?_⟩
  rw [D.py_eqv a1.1 a2.1]
  exact tE _ _ st2 G2 H2 (p1.trans p2) s2 (.bl _) (by simpa using h2)
theorem refE_neV (ha : RefE K W ta aa) (hb : RefE K W tb ab) : RefE K W (tOp (rNeD K) ta tb) (aEqV true aa ab) := fun G env st σ H Q q er s l h tE tX => by
  refine ha G env st σ H _ _ er s l h (fun v d st1 G1 H1 p1 s1 r1 h1 => ?_) tX
  refine hb G1 env st1 σ H1 _ _ er s1 (l.mono p1.le) h1 (fun u d2 st2 G2 H2 p2 s2 r2 h2 => ?_) (tX.on p1)
  obtain ⟨a1, a2, h2⟩ := h2
  refine ⟨_, _, vwN_dp s2 4 (r1.mono p2.le) a1.1, vwN_dp s2 4 r2 a2.1, D.shaped a1, D.shaped a2, ?_⟩
  rw [D.py_eqv a1.1 a2.1]
  exact tE _ _ st2 G2 H2 (p1.trans p2) s2 (.bl _) (by simpa using h2)
end
section
variable {X : Cx} {W : WX} {k : Nat} {a b : Expr} {aa ab : AE} {pos : Pos}
theorem ax_eqV (C : CxE X W k) (ha : AX X W a aa) (hb : AX X W b ab) (hm : behindInMarks .Eq b = false := by first | exact nobehind _ (by decide) (by decide) | rfl) : AX X W (.Compare a [.Eq] [b] pos) (aEqV false aa ab) := by
  obtain ⟨ta, pa, ra⟩ := ha
  obtain ⟨tb, pb, rb⟩ := hb
  exact ⟨_, pe_cmpR (op_eqD (by have := u64 C.room; omega)) pa pb hm, refE_eqV ra rb⟩
theorem ax_neV (C : CxE X W k) (ha : AX X W a aa) (hb : AX X W b ab) (hm : behindInMarks .NotEq b = false := by first | exact nobehind _ (by decide) (by decide) | rfl) : AX X W (.Compare a [.NotEq] [b] pos) (aEqV true aa ab) := by
  obtain ⟨ta, pa, ra⟩ := ha
  obtain ⟨tb, pb, rb⟩ := hb
  exact ⟨_, pe_cmpR (op_neD (by have := u64 C.room; omega)) pa pb hm, refE_neV ra rb⟩
theorem axt_eqV (C : CxE X W k) (ha : AX X W a aa) (hb : AX X W b ab) (hm : behindInMarks .Eq b = false := by first | exact nobehind _ (by decide) (by decide) | rfl) : AXT X W (.Compare a [.Eq] [b] pos) (aTest (aEqV false aa ab)) := by
  obtain ⟨ta, pa, ra⟩ := ha
  obtain ⟨tb, pb, rb⟩ := hb
  exact ⟨_, pt_cmpR (op_eqD (by have := u64 C.room; omega)) pa pb hm, refT_test (refE_eqV ra rb)⟩
theorem axt_neV (C : CxE X W k) (ha : AX X W a aa) (hb : AX X W b ab) (hm : behindInMarks .NotEq b = false := by first | exact nobehind _ (by decide) (by decide) | rfl) : AXT X W (.Compare a [.NotEq] [b] pos) (aTest (aEqV true aa ab)) := by
  obtain ⟨ta, pa, ra⟩ := ha
  obtain ⟨tb, pb, rb⟩ := hb
  exact ⟨_, pt_cmpR (op_neD (by have := u64 C.room; omega)) pa pb hm, refT_test (refE_neV ra rb)⟩
end
end AM
set_option Elab.async false
set_option linter.all false
set_option maxRecDepth 100000
set_option maxHeartbeats 4000000
namespace AM
open PySem PySem.Spec PyProof.Rows L2 Evl
/-! ### zip of three -/
def Itz3 (K : PySem.W.Frag) (t u w : Bool) (a b c : Addr) : It :=
  ⟨fun i H => ∃ (xs ys zs : List V) (x y z : V), SqA K t H a xs ∧ SqA K u H b ys ∧ SqA K w H c zs ∧ xs[i]? = some x ∧ ys[i]? = some y ∧ zs[i]? = some z,
    fun i H v H' => ∃ T x y z, v = .ref T ∧ H T = none ∧ H' = upd H T (.tup [x, y, z]) ∧ (∀ xs, SqA K t H a xs → xs[i]? = some x) ∧ (∀ ys, SqA K u H b ys → ys[i]? = some y) ∧ ∀ zs, SqA K w H c zs → zs[i]? = some z,
    fun i H => ∃ xs ys zs : List V, SqA K t H a xs ∧ SqA K u H b ys ∧ SqA K w H c zs ∧ i ≤ xs.length ∧ i ≤ ys.length ∧ i ≤ zs.length ∧ (i = xs.length ∨ i = ys.length ∨ i = zs.length)⟩
theorem turn_zip3 {P : Program} {W : World} {K : PySem.W.Frag} {t u w : Bool} {elts : List Expr} {kk : Nat} {tpos : Pos} {a b c z TI TO i1 i2 i3 : Addr} (D : ZipSep3 z TI TO i1 i2 i3 [i1, a] [i2, b] [i3, c]) (na : a ≠ i1) (nb : b ≠ i2) (nc : c ≠ i3) :
    Turn P W K (.Tuple elts kk tpos) (Itz3 K t u w a b c) [z, TI, TO, i1, i2, i3] z (fun i h => IsZip h z TI TO .none ∧ IsTupOf3 h TI (.ref i1) (.ref i2) (.ref i3) ∧ (∃ x y z, IsTupOf3 h TO x y z) ∧ ItAt t h i1 a i ∧ ItAt u h i2 b i ∧ ItAt w h i3 c i) where
  mem := by simp
  obj := fun i h st c' hc => by
    obtain ⟨hz, hTI, ⟨x, y, v, hTO⟩, h1, h2, h3⟩ := st
    have e' : c' = z ∨ c' = TI ∨ c' = TO ∨ c' = i1 ∨ c' = i2 ∨ c' = i3 := by simpa using hc
    rcases e' with q | q | q | q | q | q
    · rw [q]; exact ⟨_, hz, fun v q => nomatch q⟩
    · rw [q]; exact ⟨_, hTI, fun v q => nomatch q⟩
    · rw [q]; exact ⟨_, hTO, fun v q => nomatch q⟩
    · rw [q]; exact h1.obj
    · rw [q]; exact h2.obj
    · rw [q]; exact h3.obj
  keep := fun i h h' st k => by
    obtain ⟨hz, hTI, ⟨x, y, v, hTO⟩, h1, h2, h3⟩ := st
    exact ⟨k z (by simp) _ hz, k TI (by simp) _ hTI, ⟨x, y, v, k TO (by simp) _ hTO⟩, h1.at fun o q => k i1 (by simp) o q, h2.at fun o q => k i2 (by simp) o q, h3.at fun o q => k i3 (by simp) o q⟩
  item := by
    intro X hP hw hK hc i pins s σ H E I hf st hg
    subst hP hw hK
    obtain ⟨hz, hTI, ⟨x0, y0, z0, hTO⟩, h1, h2, h3⟩ := st
    obtain ⟨xs, ys, zs, x, y, v, hqx, hqy, hqz, hx, hy, hv⟩ := hg
    obtain ⟨its, rv, p, _, la⟩ := inv_sq I hqx
    obtain ⟨its2, rv2, p2, _, lb⟩ := inv_sq I hqy
    obtain ⟨its3, rv3, p3, _, lc⟩ := inv_sq I hqz
    obtain ⟨v1, hu, ru⟩ := rv.get hx
    obtain ⟨v2, hu2, ru2⟩ := rv2.get hy
    obtain ⟨v3, hu3, ru3⟩ := rv3.get hv
    have hzl : z < s.heap.objs.size := Heap.lt_size hz
    have hd : X.A.in1.handled = none := I.ok.hd hc
    have d1 := draws_sq (prog := X.prog) (w := X.w) (A := X.A.in1) (t := t) hd i1 a na its.toArray
    have d2 := draws_sq (prog := X.prog) (w := X.w) (A := X.A.in1) (t := u) hd i2 b nb its2.toArray
    have d3 := draws_sq (prog := X.prog) (w := X.w) (A := X.A.in1) (t := w) hd i3 c nc its3.toArray
    refine wpAny_pyNext_zipD3_item D d1 d2 d3 hz hTI hTO ⟨h1, p⟩ ⟨h2, p2⟩ ⟨h3, p3⟩ (by rw [List.size_toArray, ← rv.length]; exact (List.getElem?_eq_some_iff.mp hx).1) (by rw [List.size_toArray, ← rv2.length]; exact (List.getElem?_eq_some_iff.mp hy).1) (by rw [List.size_toArray, ← rv3.length]; exact (List.getElem?_eq_some_iff.mp hv).1) fun w1 w2 w3 h' tk e1 e2 e3 z' TO' h1' h2' h3' hT hsz hk => ?_
    have e1 : some v1 = some w1 := by rw [← hu, ← e1]; simp
    have e2 : some v2 = some w2 := by rw [← hu2, ← e2]; simp
    have e3 : some v3 = some w3 := by rw [← hu3, ← e3]; simp
    cases e1
    cases e2
    cases e3
    refine ⟨_, rfl, wpAny_letOwnedTupleGo_zip (s := { s with heap := h', toks := tk }) z' fun h'' z'' sb => ?_⟩
    have hT2 : h''.get? s.heap.objs.size = some { cls := .type "tuple", data := .seq #[v1, v2, v3] } := (sb.2 _ (Nat.ne_of_gt hzl)).trans hT
    have new : ObjOk X.prog X.w (upd H s.heap.objs.size (.tup [x, y, v])) h'' s.heap.objs.size (.tup [x, y, v]) :=
      ⟨by show 3 ≤ sizeLine; decide, [v1, v2, v3], .cons ru (.cons ru2 (.cons ru3 .nil)), ⟨_, hT2, rfl, _, rfl⟩⟩
    have I1 : Inv X pins σ (upd H s.heap.objs.size (.tup [x, y, v])) { s with heap := h'', toks := tk } :=
      I.turnedNew (t' := tk) (ch := [z, TI, TO, i1, i2, i3]) (fun c o hb q => (sb.2 c (fun q' => hb (by simp [q']))).trans (hk c o (fun q' => hb (by simp [q'])) (fun q' => hb (by simp [q'])) (fun q' => hb (by simp [q'])) (fun q' => hb (by simp [q'])) (fun q' => hb (by simp [q'])) q)) hf (Nat.le_refl _) new
    refine ⟨.ref s.heap.objs.size, _, I1, rfl, ⟨_, x, y, v, rfl, I.hok.fresh (Nat.le_refl _), rfl, fun l hl => by rw [sq_inj I hl hqx]; exact hx, fun l hl => by rw [sq_inj I hl hqy]; exact hy, fun l hl => by rw [sq_inj I hl hqz]; exact hv⟩, ⟨z'', ?_, ⟨v1, v2, v3, ?_⟩, ?_, ?_, ?_⟩, fun c hcm => ?_⟩
    · exact (sb.2 _ D.TIz).trans (hk _ _ D.TIz D.TITO D.TIi1 D.TIi2 D.TIi3 hTI)
    · exact (sb.2 _ D.TOz).trans TO'
    · exact h1'.1.at fun o q => (sb.2 _ (Ne.symm D.zi1)).trans q
    · exact h2'.1.at fun o q => (sb.2 _ (Ne.symm D.zi2)).trans q
    · exact h3'.1.at fun o q => (sb.2 _ (Ne.symm D.zi3)).trans q
    · have hlt : c < s.heap.objs.size := by
        have e' : c = z ∨ c = TI ∨ c = TO ∨ c = i1 ∨ c = i2 ∨ c = i3 := by simpa using hcm
        rcases e' with q | q | q | q | q | q
        · rw [q]; exact hzl
        · rw [q]; exact Heap.lt_size hTI
        · rw [q]; exact Heap.lt_size hTO
        · rw [q]; exact h1.lt
        · rw [q]; exact h2.lt
        · rw [q]; exact h3.lt
      rw [upd_ne (Nat.ne_of_lt hlt)]
      exact (hf c hcm).1
  done := by
    intro X hP hw hK hc i pins s σ H E I hf st hg
    subst hP hw hK
    obtain ⟨hz, hTI, ⟨x0, y0, z0, hTO⟩, h1, h2, h3⟩ := st
    obtain ⟨xs, ys, zs, hqx, hqy, hqz, hl1, hl2, hl3, hend⟩ := hg
    obtain ⟨its, rv, p, _, la⟩ := inv_sq I hqx
    obtain ⟨its2, rv2, p2, _, lb⟩ := inv_sq I hqy
    obtain ⟨its3, rv3, p3, _, lc⟩ := inv_sq I hqz
    have hd : X.A.in1.handled = none := I.ok.hd hc
    have d1 := draws_sq (prog := X.prog) (w := X.w) (A := X.A.in1) (t := t) hd i1 a na its.toArray
    have d2 := draws_sq (prog := X.prog) (w := X.w) (A := X.A.in1) (t := u) hd i2 b nb its2.toArray
    have d3 := draws_sq (prog := X.prog) (w := X.w) (A := X.A.in1) (t := w) hd i3 c nc its3.toArray
    rw [rv.length] at hl1 hend
    rw [rv2.length] at hl2 hend
    rw [rv3.length] at hl3 hend
    exact wpAny_pyNext_zipD3_end D d1 d2 d3 hz hTI hTO ⟨h1, p⟩ ⟨h2, p2⟩ ⟨h3, p3⟩ (by rw [List.size_toArray]; exact hl1) (by rw [List.size_toArray]; exact hl2) (by rw [List.size_toArray]; exact hl3) (by rw [List.size_toArray, List.size_toArray, List.size_toArray]; exact hend) fun h' tk hk => ⟨rfl, I.turnedL (t' := tk) (ch := [z, TI, TO, i1, i2, i3]) (fun c o hb q =>
      hk c o (fun q' => hb (by simp [q'])) (fun q' => hb (by simp [q'])) (fun q' => hb (by simp [q'])) (fun q' => hb (by simp [q'])) (fun q' => hb (by simp [q'])) q) hf⟩
  self := fun A i s Q E st h => wpAny_pyIter_zip st.1 h
def iZip3 (K : PySem.W.Frag) (ta : TA) : TI := fun σ H R => ta σ H fun vs H1 => ∃ a b c t u w xs ys zs, vs = [.ref a, .ref b, .ref c] ∧ SqA K t H1 a xs ∧ SqA K u H1 b ys ∧ SqA K w H1 c zs ∧ R (Itz3 K t u w a b c) H1
theorem pi_zip3 {X : Cx} {e e2 e3 : Expr} {ta : TA} {p pos tpos : Pos} {elts : List Expr} {kk : Nat} (hg : Gl X "zip") (hm : X.mg "zip" = none) (ha : PA X [e, e2, e3] ta)
    (hs : starEach [e, e2, e3] X.env = (false, eval e X.env) :: starEach [e2, e3] X.env := by rfl) (hpl : (backTo pos (starEach [e2, e3] X.env)).any (·.1) = false := by rfl) :
    PI X (.Tuple elts kk tpos) (.Call (.Name "zip" p) [e, e2, e3] [] pos) (iZip3 X.K ta) := by
  refine ⟨fun pins s σ H R I h => ?_⟩
  refine Call_ (ld_blt I hg hm PyProof.Rows.boot_zip (PyProof.Rows.callWith_type1 (thn (ha.run pos pins s σ H _ I h) fun us s1 ⟨vs, H1, I1, r1, q1⟩ => ?_) hs hpl))
  obtain ⟨a, b, c, t, u, w, xs, ys, zs, ex, hqx, hqy, hqz, q⟩ := q1
  subst ex
  cases r1 with
  | cons r rr =>
    cases rr with
    | cons r' rr =>
      cases rr with
      | cons r'' rr =>
        cases rr
        cases r
        cases r'
        cases r''
        obtain ⟨its, rv, p1, _, la⟩ := inv_sq I1 hqx
        obtain ⟨its2, rv2, p2, _, lb⟩ := inv_sq I1 hqy
        obtain ⟨its3, rv3, p3, _, lc⟩ := inv_sq I1 hqz
        refine zip_begins3 (begins_sq (t := t) a its.toArray) (begins_sq (t := u) b its2.toArray) (begins_sq (t := w) c its3.toArray) p1 p2 p3 fun h' hz hTI hTO h1 h2 h3 hsz hk => wpAny_pyIter_zip hz ?_
        have I2 : Inv X pins σ H1 { s1 with heap := h' } := I1.kept (t' := s1.toks) hk
        refine ⟨s1.heap.objs.size + 5, [s1.heap.objs.size + 5, s1.heap.objs.size + 3, s1.heap.objs.size + 4, s1.heap.objs.size, s1.heap.objs.size + 1, s1.heap.objs.size + 2], _, _, H1, rfl, I2, turn_zip3 (t := t) (u := u) (w := w) (zip_sep3 (fp1 := [a]) (fp2 := [b]) (fp3 := [c]) (by simpa using la) (by simpa using lb) (by simpa using lc)) (Nat.ne_of_lt la) (Nat.ne_of_lt (Nat.lt_succ_of_lt lb)) (Nat.ne_of_lt (Nat.lt_succ_of_lt (Nat.lt_succ_of_lt lc))),
          ⟨hz, hTI, ⟨_, _, _, hTO⟩, itAt_new h1, itAt_new h2, itAt_new h3⟩, fun c' hcm => ?_, q⟩
        have hle : s1.heap.objs.size ≤ c' := by
          have e' : c' = s1.heap.objs.size + 5 ∨ c' = s1.heap.objs.size + 3 ∨ c' = s1.heap.objs.size + 4 ∨ c' = s1.heap.objs.size ∨ c' = s1.heap.objs.size + 1 ∨ c' = s1.heap.objs.size + 2 := by simpa using hcm
          rcases e' with z | z | z | z | z | z
          · rw [z]; exact Nat.le_add_right _ _
          · rw [z]; exact Nat.le_add_right _ _
          · rw [z]; exact Nat.le_add_right _ _
          · rw [z]; exact Nat.le_refl _
          · rw [z]; exact Nat.le_add_right _ _
          · rw [z]; exact Nat.le_add_right _ _
        exact I1.fpOk hle (I1.hok.fresh hle)
def zipT (l m n : List D) : List D := List.zipWith (fun x (p : D × D) => .tup [x, p.1, p.2]) l (m.zip n)
theorem zipT_len {l m n : List D} : (zipT l m n).length = min l.length (min m.length n.length) := by unfold zipT; simp
theorem zipT_get {l m n : List D} {i : Nat} {d : D} (h : (zipT l m n)[i]? = some d) : ∃ x y z, l[i]? = some x ∧ m[i]? = some y ∧ n[i]? = some z ∧ d = .tup [x, y, z] := by
  unfold zipT at h
  rw [List.getElem?_zipWith] at h
  cases hl : l[i]? with
  | none => rw [hl] at h; cases h
  | some x =>
    cases hm : (m.zip n)[i]? with
    | none => rw [hl, hm] at h; cases h
    | some p =>
      rw [hl, hm] at h
      cases h
      rw [List.getElem?_zip_eq_some] at hm
      exact ⟨x, p.1, p.2, rfl, hm.1, hm.2, rfl⟩
theorem walks_zip3 {K : PySem.W.Frag} {G : Gh} {H0 : Hp} {g g' g'' : Gd} {a b c : Addr} {t u w : Bool} {l m n : List D} (h : ∀ G2 st2 H2, G.le G2 → SS K G2 st2 H2 → gdOk g st2 → ∃ us, Reps K G2 l us ∧ SqA K t H2 a us) (h' : ∀ G2 st2 H2, G.le G2 → SS K G2 st2 H2 → gdOk g' st2 → ∃ us, Reps K G2 m us ∧ SqA K u H2 b us)
    (h'' : ∀ G2 st2 H2, G.le G2 → SS K G2 st2 H2 → gdOk g'' st2 → ∃ us, Reps K G2 n us ∧ SqA K w H2 c us) : Walks K G H0 (Itz3 K t u w a b c) (zipT l m n) (g ++ (g' ++ g'')) where
  stop := fun i G2 st H le s gk hi => by
    obtain ⟨g1, g23⟩ := gdOk_app.mp gk
    obtain ⟨g2, g3⟩ := gdOk_app.mp g23
    obtain ⟨us, r, q⟩ := h G2 st H le.le s g1
    obtain ⟨us', r', q'⟩ := h' G2 st H le.le s g2
    obtain ⟨us'', r'', q''⟩ := h'' G2 st H le.le s g3
    have e1 := r.length
    have e2 := r'.length
    have e3 := r''.length
    rw [zipT_len] at hi
    exact ⟨us, us', us'', q, q', q'', by omega, by omega, by omega, by omega⟩
  go := fun i G2 st H le s gk hi => by
    obtain ⟨g1, g23⟩ := gdOk_app.mp gk
    obtain ⟨g2, g3⟩ := gdOk_app.mp g23
    obtain ⟨us, r, q⟩ := h G2 st H le.le s g1
    obtain ⟨us', r', q'⟩ := h' G2 st H le.le s g2
    obtain ⟨us'', r'', q''⟩ := h'' G2 st H le.le s g3
    have e1 := r.length
    have e2 := r'.length
    have e3 := r''.length
    rw [zipT_len] at hi
    exact ⟨us, us', us'', us[i]'(by omega), us'[i]'(by omega), us''[i]'(by omega), q, q', q'', List.getElem?_eq_getElem _, List.getElem?_eq_getElem _, List.getElem?_eq_getElem _⟩
  yld := fun i G2 st H d x H' le s gk hd y => by
    obtain ⟨g1, g23⟩ := gdOk_app.mp gk
    obtain ⟨g2, g3⟩ := gdOk_app.mp g23
    obtain ⟨us, r, q⟩ := h G2 st H le.le s g1
    obtain ⟨us', r', q'⟩ := h' G2 st H le.le s g2
    obtain ⟨us'', r'', q''⟩ := h'' G2 st H le.le s g3
    obtain ⟨T, x1, y1, z1, rfl, hT, rfl, f1, f2, f3⟩ := y
    obtain ⟨d1, d2, d3, hl, hm, hn, rfl⟩ := zipT_get hd
    obtain ⟨v1, k1, r1⟩ := r.get hl
    obtain ⟨v2, k2, r2⟩ := r'.get hm
    obtain ⟨v3, k3, r3⟩ := r''.get hn
    have z1 := f1 us q
    have z2 := f2 us' q'
    have z3 := f3 us'' q''
    rw [k1] at z1
    rw [k2] at z2
    rw [k3] at z3
    cases z1
    cases z2
    cases z3
    obtain ⟨s6, p6⟩ := s.new (o := .tup [x1, y1, z1]) hT
    exact ⟨_, p6, s6, .tup upd_same (Reps.mono p6.le (.cons r1 (.cons r2 (.cons r3 .nil))))⟩
def aZip3 (a b c : AE) : AI := fun env st q er => a env st (fun x s1 => b env s1 (fun y s2 => c env s2 (fun z s3 => ∃ l m n, itemsD (vw s3 x) = some l ∧ itemsD (vw s3 y) = some m ∧ itemsD (vw s3 z) = some n ∧ q (zipT l m n) (gdOf s3 x ++ (gdOf s3 y ++ gdOf s3 z)) s3) er) er) er
section
variable {X : Cx} {W : WX} {e e2 e3 : Expr} {ae ab ac : AE} {p pos tpos : Pos} {elts : List Expr} {kk : Nat}
theorem axi_zip3 (hm : X.mg "zip" = none) (h : AX X W e ae) (h' : AX X W e2 ab) (h'' : AX X W e3 ac) (hg : Gl X "zip" := by rfl) (hs : starEach [e, e2, e3] X.env = (false, eval e X.env) :: starEach [e2, e3] X.env := by rfl)
    (hs2 : starEach [e2, e3] X.env = (false, eval e2 X.env) :: starEach [e3] X.env := by rfl) (hs3 : starEach [e3] X.env = [(false, eval e3 X.env)] := by rfl) (hpl : (backTo pos (starEach [e2, e3] X.env)).any (·.1) = false := by rfl) :
    AXI X W (.Tuple elts kk tpos) (.Call (.Name "zip" p) [e, e2, e3] [] pos) (aZip3 ae ab ac) := by
  obtain ⟨t, pe, r⟩ := h
  obtain ⟨t', pe', r'⟩ := h'
  obtain ⟨t'', pe'', r''⟩ := h''
  refine ⟨_, pi_zip3 hg hm (pa_cons pe (pa_cons pe' (pa_cons pe'' pa_nil (by rw [hs3]; rfl)) (by rw [hs2])) (by rw [hs])) hs hpl, fun G env st σ H R q er s sl a t tX => r G env st σ H _ _ er s sl a (fun v d st2 G2 H2 p2 s2 r2 h2 => r' G2 env st2 σ H2 _ _ er s2 (sl.mono p2.le) h2 (fun v' d' st3 G3 H3 p3 s3 r3 h3 => r'' G3 env st3 σ H3 _ _ er s3 (sl.mono (p2.trans p3).le) h3 (fun v'' d'' st4 G4 H4 p4 s4 r4 h4 => ?_) (tX.on (p2.trans p3))) (tX.on p2)) tX⟩
  obtain ⟨l, m, n, hl, hm, hn, h5⟩ := h4
  obtain ⟨a, vs, tup, rfl, rs, gk, hh⟩ := rep_seq s4 (r2.mono (p3.trans p4).le) hl
  obtain ⟨b, vs', tup', rfl, rs', gk', hh'⟩ := rep_seq s4 (r3.mono p4.le) hm
  obtain ⟨c, vs'', tup'', rfl, rs'', gk'', hh''⟩ := rep_seq s4 r4 hn
  obtain ⟨us, _, q1⟩ := hh G4 st4 H4 (Gh.le.refl _) s4 gk
  obtain ⟨us', _, q2⟩ := hh' G4 st4 H4 (Gh.le.refl _) s4 gk'
  obtain ⟨us'', _, q3⟩ := hh'' G4 st4 H4 (Gh.le.refl _) s4 gk''
  exact ⟨a, b, c, tup, tup', tup'', us, us', us'', rfl, q1, q2, q3, t _ _ _ st4 G4 H4 ((p2.trans p3).trans p4) s4 (walks_zip3 hh hh' hh'') h5⟩
end
end AM
set_option Elab.async false
set_option linter.all false
set_option maxRecDepth 100000
set_option maxHeartbeats 4000000
namespace AM
open PySem PySem.Spec PyProof.Rows L2 Evl
/-! ### l.remove(x), ints -/
def aRem (o a : AE) : AE := fun env st q er => o env st (fun x s1 => ∃ n l, x = .ref n ∧ s1[n]? = some (.lst l) ∧ a env s1 (fun y s2 => ∃ (ns : List Int) (c : Int), y = .int c ∧ s2[n]? = some (.lst (ns.map .int)) ∧ c ∈ ns ∧ q .non (s2.set n (.lst ((ns.erase c).map .int)))) er) er
theorem first_at {c : Int} : ∀ {ns : List Int}, c ∈ ns → ∃ j : Nat, ns[j]? = some c ∧ (∀ m : Nat, m < j → ns[m]? ≠ some c) ∧ ns.eraseIdx j = ns.erase c
  | [], h => by cases h
  | x :: ns, h => by
    by_cases e : x = c
    · subst e
      exact ⟨0, rfl, fun m hm => by omega, by simp⟩
    · obtain ⟨j, h1, h2, h3⟩ := first_at (ns := ns) (by rcases List.mem_cons.mp h with h | h; exact absurd h.symm e; exact h)
      refine ⟨j + 1, by simpa using h1, fun m hm => ?_, ?_⟩
      · cases m with
        | zero => simpa using e
        | succ m => simpa using h2 m (by omega)
      · rw [List.eraseIdx_cons_succ, h3, List.erase_cons_tail (by simpa using e)]
theorem refE_rem {K : PySem.W.Frag} {W : WX} {to te : TE} {ao ae : AE} (ho : RefE K W to ao) (he : RefE K W te ae) : RefE K W (tBM K "list" rRemI to (tCons te tNil)) (aRem ao ae) := fun G env st σ H Q q er s l h tE tX => by
  refine ho G env st σ H _ _ er s l h (fun v d st1 G1 H1 p1 s1 r1 h1 => ?_) tX
  obtain ⟨n, ls, rfl, hn, h1⟩ := h1
  cases r1 with
  | ref ep =>
    rename_i p
    obtain ⟨vs, gp, hp, rs⟩ := s1.cell n _ p hn ep
    refine ⟨Or.inl ⟨rfl, _, Or.inl (Or.inl hp)⟩, he G1 env st1 σ H1 _ _ er s1 (l.mono p1.le) h1 (fun w d st2 G2 H2 p2 s2 r2 h2 => ?_) (tX.on p1)⟩
    obtain ⟨ns, c, rfl, hn2, hc, h2⟩ := h2
    obtain ⟨vs2, gp2, hp2, rs2⟩ := s2.cell n _ p hn2 (pre_get p2.le.a ep)
    rw [reps_ints rs2] at hp2
    obtain ⟨j, j1, j2, j3⟩ := first_at hc
    obtain ⟨s3, p3⟩ := s2.setCell (n := n) (c' := .lst ((ns.erase c).map .int)) (o := .lst ((ns.erase c).map V.int)) (pre_get p2.le.a ep) gp2 ⟨_, gp2, upd_same, Reps.ints _⟩
    cases r2
    exact ⟨p, ns, c, j, rfl, rfl, hp2, j1, j2, by rw [j3]; exact tE .non .non _ G2 _ ((p1.trans p2).trans p3) s3 .non h2⟩
section
variable {X : Cx} {W : WX} {k : Nat} {o e : Expr} {ae ao : AE} {p pos apos : Pos}
theorem ax_rem (ho : AX X W o ao) (he : AX X W e ae) (hbase : attributeBase o "remove" X.env (eval o X.env) = eval o X.env := by rfl)
    (hfew : ((backTo pos (starEach [e] X.env)).all (fun x => !x.1) && (backToKw pos (keywordEach [] X.env)).all (fun x => x.1.isSome) && decide (([e] : List Expr).length + ([] : List Keyword).length + (if ([] : List Keyword).isEmpty then 0 else 1) < 30)) = true := by rfl)
    (hline : (apos.endLine == pos.line) = true := by rfl) (hs : starEach [e] X.env = (false, eval e X.env) :: starEach [] X.env := by rfl) : AX X W (.Call (.Attribute o "remove" apos) [e] [] pos) (aRem ao ae) := by
  obtain ⟨to, po, ro⟩ := ho
  obtain ⟨te, pe, re⟩ := he
  exact ⟨_, pe_bm PySem.F.plainAttrs_list PySem.F.slot_list_remove PySem.F.type_list_remove mt_remove po (pa_cons pe pa_nil hs) hbase hfew hline hs rfl, refE_rem ro re⟩
/-! ### list(d), d a dict with tuple keys -/
def fKeysL (a : AE) : AFr := fun env st q er => a env st (fun x s1 => ∃ l, vw s1 x = .dic l ∧ q (l.map Prod.fst) s1) er
theorem keys_all {K : PySem.W.Frag} {H : Hp} {st : S} : ∀ {l : List (D × D)} {kvs : List (List L2.Key × V)} {bs : List Addr} {G : Gh}, SS K G st H → RepT K G l kvs → IsKeys H kvs bs → ∃ G', Post G H G' H ∧ SS K G' st H ∧ Reps K G' (l.map Prod.fst) (bs.map V.ref)
  | [], _, _, G, s, r, h => by
    cases r
    cases h
    exact ⟨G, Post.refl, s, .nil⟩
  | x :: l, _, _, G, s, r, h => by
    cases r with
    | cons r rr => cases h with
      | cons h1 h2 =>
        obtain ⟨G1, p1, s1, r1⟩ := s.keyT h1
        obtain ⟨G2, p2, s2, r2⟩ := keys_all s1 (rr.mono p1.le) h2
        exact ⟨G2, p1.trans p2, s2, .cons (r1.mono p2.le) r2⟩
theorem axf_keys (C : CxE X W k) (hm : X.mg "list" = none) (ha : AX X W e ae) (hg : Gl X "list" := by rfl) (he : starEach [e] X.env = (false, eval e X.env) :: starEach [] X.env := by rfl) (hpl : (backTo pos (starEach [] X.env)).any (·.1) = false := by rfl) : AXF X W (.Call (.Name "list" p) [e] [] pos) (fKeysL ae) := by
  obtain ⟨ta, pa, ra⟩ := ha
  refine ⟨_, pe_callTy (call_list_dT C.calm) hg hm (by decide +kernel) (pa_cons pa pa_nil he) (by decide) (by decide) he hpl, fun G env st σ H Q q er s sl h tF tX => ra G env st σ H _ _ er s sl h (fun v d st1 G1 H1 p1 s1 r1 h1 => ?_) tX⟩
  obtain ⟨l, hl, h1⟩ := h1
  have rv := r1.vw s1
  rw [hl] at rv
  cases rv with
  | dicT hd rs =>
    refine ⟨_, _, rfl, hd, fun ad bs hn hk => ?_⟩
    obtain ⟨G2, p2, s2, r2⟩ := keys_all s1 rs hk
    obtain ⟨s3, p3, n3, g3⟩ := s2.room (o := .lst (bs.map V.ref)) hn
    exact tF _ (l.map Prod.fst) st1 G2 _ ((p1.trans p2).trans p3) s3 (ResOk.on (p1.trans p2) ⟨ad, _, rfl, upd_same, g3, n3, hn, r2⟩) h1
end
end AM
set_option Elab.async false
set_option linter.all false
set_option maxRecDepth 100000
set_option maxHeartbeats 4000000
namespace AM
open PySem PySem.Spec PyProof.Rows L2 Evl
/-! ### a op b op c op d, as a test -/
def tChain3 (r r' r'' : R2) (ta tb tc td : TE) : TE := fun σ H Q => ta σ H fun x H1 => tb σ H1 fun y H2 => r x y H2 fun z H3 => ∃ k, z = .bl k ∧
  (if k = true then tc σ H3 fun w H4 => r' y w H4 fun z H5 => ∃ k, z = .bl k ∧ (if k = true then td σ H5 fun u H6 => r'' w u H6 Q else Q (.bl false) H5) else Q (.bl false) H3)
section
variable {X : Cx} {a b c d : Expr} {ta tb tc td : TE} {pos : Pos}
theorem pt_chain3 {op op' op'' : CmpOp} {r r' r'' : R2} (ho : OpR X (compareOp op) r) (ho' : OpR X (compareOp op') r') (ho'' : OpR X (compareOp op'') r'') (ha : PE X a ta) (hb : PE X b tb) (hc : PE X c tc) (hd : PE X d td)
    (hm : lastMarks [op, op', op''] [b, c, d] = false := by with_unfolding_all rfl) : PT X (.Compare a [op, op', op''] [b, c, d] pos) (tTest (tChain3 r r' r'' ta tb tc td)) := by
  refine ⟨fun pins s σ H Q I h => ?_⟩
  refine isTrue_chain (thn (ha.run pins s σ H _ I h) fun v s1 ⟨x, H1, I1, r1, q1⟩ => test_link (thn (hb.run pins s1 σ H1 _ I1 q1) fun u s2 ⟨y, H2, I2, r2, q2⟩ =>
    thn (ho pins s2 σ H2 x y v u _ I2 r1 r2 q2) fun d s3 ⟨z, H3, I3, r3, k, e, q3⟩ => ?_)) hm
  subst e
  cases r3
  refine wpAny_truthy_bool ?_
  cases k with
  | false =>
    obtain ⟨k', e', q'⟩ := q3
    cases e'
    exact ite_ff ⟨H3, I3, q'⟩
  | true =>
    refine ite_tt (test_link (thn (hc.run pins s3 σ H3 _ I3 q3) fun w' s4 ⟨z', H4, I4, r4, q4⟩ => thn (ho' pins s4 σ H4 y z' u w' _ I4 r2 r4 q4) fun d' s5 ⟨z2, H5, I5, r5, k2, e2, q5⟩ => ?_))
    subst e2
    cases r5
    refine wpAny_truthy_bool ?_
    cases k2 with
    | false =>
      obtain ⟨k', e', q'⟩ := q5
      cases e'
      exact ite_ff ⟨H5, I5, q'⟩
    | true =>
      refine ite_tt (test_last (thn (hd.run pins s5 σ H5 _ I5 q5) fun w'' s6 ⟨z3, H6, I6, r6, q6⟩ => thn (ho'' pins s6 σ H6 z' z3 w' w'' _ I6 r4 r6 q6) fun d'' s7 ⟨z4, H7, I7, r7, k3, e3, q7⟩ => ?_))
      subst e3
      cases r7
      exact wpAny_truthy_bool ⟨H7, I7, q7⟩
end
def aChain3 (f f' f'' : O2) (a b c d : AE) : AE := fun env st q er => a env st (fun x s1 => b env s1 (fun y s2 => f (vw s2 x) (vw s2 y) fun z => ∃ k, z = .bl k ∧
  if k = true then c env s2 (fun w s3 => f' (vw s3 y) (vw s3 w) fun z => ∃ k, z = .bl k ∧ if k = true then d env s3 (fun u s4 => f'' (vw s4 w) (vw s4 u) fun z => q z s4) er else q (.bl false) s3) er else q (.bl false) s2) er) er
section
variable {K : PySem.W.Frag} {W : WX} {ta tb tc td : TE} {aa ab ac ad : AE}
theorem refE_chain3 {r r' r'' : R2} {f f' f'' : O2} (ro : RefO K r f) (ro' : RefO K r' f') (ro'' : RefO K r'' f'') (ha : RefE K W ta aa) (hb : RefE K W tb ab) (hc : RefE K W tc ac) (hd : RefE K W td ad) : RefE K W (tChain3 r r' r'' ta tb tc td) (aChain3 f f' f'' aa ab ac ad) := fun G env st σ H Q q er s l h tE tX => by
  refine ha G env st σ H _ _ er s l h (fun v d st1 G1 H1 p1 s1 r1 h1 => ?_) tX
  refine hb G1 env st1 σ H1 _ _ er s1 (l.mono p1.le) h1 (fun u d2 st2 G2 H2 p2 s2 r2 h2 => ?_) (tX.on p1)
  refine ro G2 st2 H2 v u _ _ _ _ s2 ((r1.mono p2.le).vw s2) (r2.vw s2) h2 fun w d3 G3 H3 p3 s3 r3 h3 => ?_
  obtain ⟨k, e, h3⟩ := h3
  subst e
  cases r3
  refine ⟨k, rfl, ?_⟩
  have p13 := (p1.trans p2).trans p3
  cases k with
  | false => exact tE _ _ st2 G3 H3 p13 s3 (.bl false) h3
  | true =>
    refine hc G3 env st2 σ H3 _ _ er s3 (l.mono p13.le) h3 (fun w d4 st4 G4 H4 p4 s4 r4 h4 => ?_) (tX.on p13)
    refine ro' G4 st4 H4 u w _ _ _ _ s4 (((r2.mono p3.le).mono p4.le).vw s4) (r4.vw s4) h4 fun w2 d5 G5 H5 p5 s5 r5 h5 => ?_
    obtain ⟨k2, e2, h5⟩ := h5
    subst e2
    cases r5
    refine ⟨k2, rfl, ?_⟩
    have p15 := (p13.trans p4).trans p5
    cases k2 with
    | false => exact tE _ _ st4 G5 H5 p15 s5 (.bl false) h5
    | true =>
      refine hd G5 env st4 σ H5 _ _ er s5 (l.mono p15.le) h5 (fun w3 d6 st6 G6 H6 p6 s6 r6 h6 => ?_) (tX.on p15)
      exact ro'' G6 st6 H6 w w3 _ _ Q _ s6 (((r4.mono p5.le).mono p6.le).vw s6) (r6.vw s6) h6 fun w d5 G7 H7 p7 s7 r7 h7 => tE w d5 st6 G7 H7 ((p15.trans p6).trans p7) s7 r7 h7
end
section
variable {X : Cx} {W : WX} {a b c d : Expr} {aa ab ac ad : AE} {pos : Pos}
theorem axt_chain3 {op op' op'' : CmpOp} {r r' r'' : R2} {f f' f'' : O2} (h : OpR X (compareOp op) r ∧ RefO X.K r f) (h' : OpR X (compareOp op') r' ∧ RefO X.K r' f') (h'' : OpR X (compareOp op'') r'' ∧ RefO X.K r'' f'') (ha : AX X W a aa) (hb : AX X W b ab) (hc : AX X W c ac) (hd : AX X W d ad)
    (hm : lastMarks [op, op', op''] [b, c, d] = false := by with_unfolding_all rfl) : AXT X W (.Compare a [op, op', op''] [b, c, d] pos) (aTest (aChain3 f f' f'' aa ab ac ad)) := by
  obtain ⟨ta, pa, ra⟩ := ha
  obtain ⟨tb, pb, rb⟩ := hb
  obtain ⟨tc, pc, rc⟩ := hc
  obtain ⟨td, pd, rd⟩ := hd
  exact ⟨_, pt_chain3 h.1 h'.1 h''.1 pa pb pc pd hm, refT_test (refE_chain3 h.2 h'.2 h''.2 ra rb rc rd)⟩
end
end AM
set_option Elab.async false
set_option linter.all false
set_option maxRecDepth 100000
set_option maxHeartbeats 4000000
namespace AM
open PySem PySem.Spec PyProof.Rows L2 Evl
/-! ### list(x) of an own class with its own __iter__ and __len__ -/
theorem take_snoc {α : Type} {l : List α} {i : Nat} {x : α} (h : l[i]? = some x) : l.take (i + 1) = l.take i ++ [x] := by
  rw [List.take_add_one, h]; rfl
section
variable {X : Cx} {pins : List (Addr × Obj)} {σ : L2.St} {it l S : Addr} {zs : List V} {us : List Value} {H0 : Hp}
theorem lo_loop {A : Around} {R : Result → Shared → Prop} {res : Value} (hh : A.handled = none) (hSi : S ≠ it) (hli : l ≠ it) (hSl : S ≠ l) (rz : Vals zs us) (hz : zs.length ≤ sizeLine)
    (hR : ∀ s, Inv X pins σ (upd H0 S (.lst zs)) s → R (.ok (.ret res)) s) :
    ∀ (k i : Nat) (s : Shared), zs.length - i = k → i ≤ zs.length → Inv X pins σ (upd H0 S (.lst (zs.take i))) s → s.heap.IsListIter it l i → s.heap.IsList l us.toArray → FpOk X pins (upd H0 S (.lst [])) it →
      codeAny (model X.prog X.w) A (.builtin "list.extend.loop" ⟨[.ref S, .ref it, res], []⟩) R s := by
  have hul := rz.length
  have fp : ∀ {o o2 : HO}, FpOk X pins (upd H0 S o) it → FpOk X pins (upd H0 S o2) it := fun {o o2} h => ⟨by
    have := h.1
    rw [upd_ne (Ne.symm hSi)] at this ⊢
    exact this, h.2⟩
  have fpI : ∀ {o o2 : HO}, FpOk X pins (upd H0 S o) it → ∀ b ∈ [it], FpOk X pins (upd H0 S o2) b := fun {o o2} h b hb => by
    have e : b = it := by simpa using hb
    rw [e]
    exact fp h
  intro k
  induction k with
  | zero =>
    intro i s hk hi I hit hl hf
    refine codeAny_builtin PySem.F.entry_extend_loop ?_
    rw [Around.under_plainId PySem.F.plain_extend_loop _]
    show wpAny _ A.in1 (pyNext (.ref it) >>= _) _ _ _
    have : i = zs.length := by omega
    subst this
    rw [List.take_length] at I
    refine wpAny_bind (wpAny_pyNext_list_end hh hit hl (by simp; omega) fun h' eb => ?_)
    exact wpAny_pure (hR _ (I.turnedL (t' := s.toks) (ch := [it]) (fun b o hb e => eb b o (by simpa using hb) e) (fpI hf)))
  | succ k ih =>
    intro i s hk hi I hit hl hf
    have hlt : i < zs.length := by omega
    obtain ⟨its, n, rv, hS, hle⟩ : ∃ its n, Vals (zs.take i) its ∧ s.heap.get? S = some { cls := .type "list", data := .seq its.toArray n } ∧ True := by
      obtain ⟨_, its, n, h1, h2⟩ := (show ObjOk X.prog X.w (upd H0 S (.lst (zs.take i))) s.heap S (.lst (zs.take i)) from I.hok S _ upd_same)
      exact ⟨its, n, h1, h2, trivial⟩
    have hitl : its.length = i := by rw [← rv.length, List.length_take]; omega
    refine codeAny_builtin PySem.F.entry_extend_loop ?_
    rw [Around.under_plainId PySem.F.plain_extend_loop _]
    show wpAny _ A.in1 (pyNext (.ref it) >>= _) _ _ _
    have ex : us.toArray[i]? = some (us[i]'(by omega)) := by simp
    have ez := List.getElem?_eq_getElem hlt
    have rx : RelV zs[i] (us[i]'(by omega)) := by
      obtain ⟨u, hu, ru⟩ := rz.get ez
      rw [List.getElem?_eq_getElem (by omega)] at hu
      cases hu
      exact ru
    refine wpAny_bind (wpAny_pyNext_list_item hit hl ex fun h' hit' sb => ?_)
    have hkp : ∀ b o, b ∉ [it] → s.heap.get? b = some o → h'.get? b = some o := fun b o hb e => (sb.2 b (by simpa using hb)).trans e
    have I1 : Inv X pins σ (upd H0 S (.lst (zs.take i))) { s with heap := h' } := I.turnedL (t' := s.toks) (ch := [it]) hkp (fpI hf)
    have hS' := hkp S _ (by simpa using hSi) hS
    have up : ∀ b o, b ≠ S → h'.get? b = some o → (h'.update S (Obj.mapSeq (·.push (us[i]'(by omega))))).get? b = some o := fun b o hb e => (Heap.get?_update_other _ _ (Ne.symm hb)).trans e
    have hS2 := Heap.get?_update_self (Obj.mapSeq (·.push (us[i]'(by omega)))) hS' rfl
    show wpAny _ A.in1 (updateSeq S (·.push (us[i]'(by omega))) >>= _) _ _ _
    refine wpAny_bind (wpAny_updateSeq hS' rfl (wpAny_pure ⟨plainId_quiet PySem.F.plain_extend_loop _, ?_⟩) (by simp; omega) (by simp; omega))
    have hll := hkp l
    refine ih (i + 1) _ (by omega) hlt ?_ (hit'.at fun o e => up it o (Ne.symm hSi) e) ?_ hf
    · have := I1.write (x := S) (e := S) (t' := s.toks) (o := .lst (zs.take (i + 1))) (by rw [upd_same]; exact True.intro) (.inl rfl) up ⟨_, hS2⟩ (by
        obtain ⟨c, ec⟩ := mapSeq_push (its := its) (n := n) (v := us[i]'(by omega))
        refine ⟨by rw [List.length_take]; omega, its ++ [us[i]'(by omega)], c, ?_, hS2.trans (congrArg some ec)⟩
        rw [take_snoc ez]
        exact Vals.app rv (.cons rx .nil))
      rw [show upd (upd H0 S (.lst (zs.take i))) S (.lst (zs.take (i + 1))) = upd H0 S (.lst (zs.take (i + 1))) from by
        funext b
        by_cases hb : b = S
        · subst hb; rw [upd_same, upd_same]
        · rw [upd_ne hb, upd_ne hb, upd_ne hb]] at this
      exact this
    · exact hl.at fun o e => up l o (Ne.symm hSl) (hkp l o (by simpa using hli) e)
end
/-- what is asked of len(x), and of what follows -/
def LoQ (K : PySem.W.Frag) (n0 : Nat) (sp : Sp) (a l : Addr) (zs : List V) (H1 : Hp) (Q : VK) : Prop :=
  ∀ S it, H1 S = none → (upd H1 S (.lst [])) it = none → n0 ≤ it → sp [.ref a] (upd (upd H1 S (.lst [])) it (ItO l it 0)) (fun v H3 => ∃ n : Nat, v = .int (n : Int) ∧ n < 100000 ∧ H3 S = some (.lst []) ∧ H3 it = some (ItO l it 0) ∧ SqL K H3 l zs ∧ Q (.ref S) (upd (ItX.dropH H3 it) S (.lst zs))) (fun _ _ _ => False)
def tListO (K : PySem.W.Frag) (n0 : Nat) (C : Addr) (fld : Str) (sp : Sp) (te : TE) : TE := fun σ H Q => te σ H fun x H1 => ∃ a dx fs l zs, x = .ref a ∧ H1 a = some (.ins C dx fs) ∧ Cls K C ∧ NoAttr K C fld ∧ fs.lookup fld = some (.ref l) ∧ SqL K H1 l zs ∧ zs.length ≤ sizeLine ∧ LoQ K n0 sp a l zs H1 Q
section
variable {X : Cx} {k j : Nat} {f f2 C : Addr} {fd fd2 : FuncData} {ps ps2 : List Str} {fld : Str} {sp : Sp} {e : Expr} {te : TE} {p pos : Pos}
theorem call_listO {A : Around} {pins : List (Addr × Obj)} {σ : L2.St} {H : Hp} {s : Shared} {Q : VK} {a dx l : Addr} {fs : List (Str × V)} {zs : List V} (hh : A.handled = none)
    (F : ∀ base, FnOk X.prog X.w X.K X.mg base (L2N.CX X.prog X.w) k f fd ps (spIt X.K base.objs.size C fld)) (hr : Room (k + 3) A) (hfr : A.frames = X.A.frames) (hb : Binds X.K fd ps [])
    (hs : PySem.W.findIn X.K (.ref C) "__iter__" = some (some (.ref f))) (hfn : PySem.W.isFn X.K (.ref f) = true)
    (F2 : FnOk X.prog X.w X.K X.mg X.base (L2N.CX X.prog X.w) j f2 fd2 ps2 sp) (hr2 : Room (j + 4) A) (hb2 : Binds X.K fd2 ps2 [])
    (hs2 : PySem.W.findIn X.K (.ref C) "__len__" = some (some (.ref f2))) (hfn2 : PySem.W.isFn X.K (.ref f2) = true)
    (I : Inv X pins σ H s) (ha : H a = some (.ins C dx fs)) (hc : Cls X.K C) (hn : NoAttr X.K C fld) (hl : fs.lookup fld = some (.ref l)) (hq : SqL X.K H l zs) (hz : zs.length ≤ sizeLine)
    (h : LoQ X.K X.s_0.heap.objs.size sp a l zs H Q) : wpAny (model X.prog X.w) A (call (.type "list") [.ref a]) (EP X pins σ Q) X.xe s := by
  generalize hSe : s.heap.objs.size = S
  have lt : ∀ {c o}, s.heap.get? c = some o → S ≠ c := fun e => by rw [← hSe]; exact Nat.ne_of_gt (Heap.lt_size e)
  have hH : H S = none := I.hok.fresh (Nat.le_of_eq hSe)
  refine callType_codes (Q₁ := fun obj s₁ => obj = .ref s.heap.objs.size ∧ s₁ = { s with heap := s.heap.push { cls := .type "list", data := .seq #[] } }) PySem.F.called_list (PySem.F.typeCall_list_1 _) PySem.F.entry_list_init (code_list_new _ ⟨rfl, rfl⟩) fun obj s₁ h₁ => ?_
  obtain ⟨rfl, rfl⟩ := h₁
  rw [hSe]
  have hS : (s.heap.push { cls := .type "list", data := .seq #[] }).get? S = some { cls := .type "list", data := .seq #[] } := by rw [← hSe]; exact Heap.get?_push_size _ rfl
  refine ⟨⟨_, hS, rfl⟩, PySem.F.args_list_init_2 _ _, ?_⟩
  have k0 : ∀ b o, b ≠ S → s.heap.get? b = some o → (s.heap.push { cls := .type "list", data := .seq #[] }).get? b = some o := fun b o _ e => Heap.get?_push_of_some _ e
  show wpAny _ _ (Builtin.List.listItems (.ref S) >>= fun old => Builtin.List.listUpdate (.ref S) (fun _ => #[]) >>= fun _ => letGo old.toList.reverse >>= fun _ => Builtin.List.listExtendWith (.ref S) (.ref a) .none) _ _ _
  refine wpAny_bind ?_
  unfold Builtin.List.listItems
  refine wpAny_bind (wpAny_seqItems hS rfl (wpAny_pure ?_))
  show wpAny _ _ (updateSeq S (fun _ => #[]) >>= fun _ => letGo (#[] : Array Value).toList.reverse >>= fun _ => Builtin.List.listExtendWith (.ref S) (.ref a) .none) _ _ _
  refine wpAny_bind (wpAny_updateSeq hS rfl ?_)
  have hS2 := Heap.get?_update_self (Obj.mapSeq (fun _ => (#[] : Array Value))) hS rfl
  have k1 : ∀ b o, b ≠ S → s.heap.get? b = some o → ((s.heap.push { cls := .type "list", data := .seq #[] }).update S (Obj.mapSeq (fun _ => #[]))).get? b = some o := fun b o hb e => (Heap.get?_update_other _ _ (Ne.symm hb)).trans (k0 b o hb e)
  refine wpAny_bind (wpAny_letGo ?_)
  have I1 : Inv X pins σ (upd H S (.lst [])) { s with heap := (s.heap.push { cls := .type "list", data := .seq #[] }).update S (Obj.mapSeq (fun _ => #[])) } := I.laid (t' := s.toks) (fun b u e => k1 b u (fun q => lt e q.symm) e) (Nat.le_of_eq hSe) ⟨by show 0 ≤ _; omega, [], _, .nil, hS2⟩
  have aS : a ≠ S := fun z => by rw [z, hH] at ha; cases ha
  have ha1 : (upd H S (.lst [])) a = some (.ins C dx fs) := by rw [upd_ne aS]; exact ha
  have hq1 : SqL X.K (upd H S (.lst [])) l zs := ex_l (Ex.new hH) hq
  obtain ⟨mA, J, _⟩ := ins_get I1.hok ha1
  obtain ⟨od, J, _⟩ := J.look
  unfold Builtin.List.listExtendWith
  refine wpAny_bind (J.type.here ?_)
  have n1 : Builtin.List.listSameRef (.ref S) (.ref a) = false := by simp [Builtin.List.listSameRef, Ne.symm aS]
  have n2 : (Value.ref C == Value.type "list") = false := rfl
  have n3 : (Value.ref C == Value.type "tuple") = false := rfl
  simp only [n1, n2, n3, Bool.or_false, Bool.false_eq_true, if_false]
  refine wpAny_bind (run_iter F ((hr.in1.in1).mono (by omega)) hfr hb hs hfn I1 ha1 hc hn hl hq1 fun it s' hi hge I2 => ?_)
  refine wpAny_bind (wpAny_holding ?_)
  have ha2 : (upd (upd H S (.lst [])) it (ItO l it 0)) a = some (.ins C dx fs) := by rw [upd_ne (fun z => by rw [z, hi] at ha1; cases ha1)]; exact ha1
  obtain ⟨mA2, J2, _⟩ := ins_get I2.hok ha2
  obtain ⟨od2, J2, _⟩ := J2.look
  obtain ⟨m2, hF2⟩ := I2.fr
  unfold Builtin.List.listLengthHint
  refine wpAny_bind (wpAny_bind (J2.type.here ((PySem.W.looks_findIn (I2.ok.mod.kin.keeps hF2.keep) hs2).here ?_)))
  have hl2 := h S it hH hi (Nat.le_trans I1.sz hge)
  have tail : ∀ {B : Around} {R : Result → Shared → Prop} {s3 : Shared} {H3 : Hp}, B.handled = none → Inv X pins σ H3 s3 → H3 S = some (.lst []) → H3 it = some (ItO l it 0) → SqL X.K H3 l zs → (∀ s4, Inv X pins σ (upd (ItX.dropH H3 it) S (.lst zs)) s4 → R (.ok (.ret .none)) s4) →
      codeAny (model X.prog X.w) B (.builtin "list.extend.loop" ⟨[.ref S, .ref it, .none], []⟩) R s3 := fun {B R s3 H3} hB I3 eS ei eq hR => by
    have nSi : S ≠ it := fun z => by rw [z, ei] at eS; cases eS
    have nli : l ≠ it := fun z => by
      obtain ⟨its, rv, p1, hz1, la⟩ := inv_sq (t := false) I3 eq
      obtain ⟨o, g1, g2, _⟩ := (show s3.heap.IsList l _ from p1)
      have := itO_get I3 ei
      rw [← z, g1] at this
      rw [Option.some.inj this] at g2
      exact absurd g2 (by intro z; injection z with z; exact absurd z (by decide))
    have nSl : S ≠ l := fun z => by
      obtain ⟨its, rv, p1, hz1, la⟩ := inv_sq (t := false) I hq
      obtain ⟨o, g1, _⟩ := (show s.heap.IsList l _ from p1)
      exact lt g1 z
    obtain ⟨its, rv, p1, hz1, la⟩ := inv_sq (t := false) I3 eq
    have I4 := ItX.inv_drop (φ := fun h => h.get? it = some (GNX.itObj l 0)) I3 ei
    have fp := ItX.inv_fp I3 ei (Nat.le_trans I1.sz hge)
    have e0 : upd (ItX.dropH H3 it) S (.lst []) = ItX.dropH H3 it := by
      funext b
      by_cases hb : b = S
      · subst hb; rw [upd_same, ItX.dropH_ne nSi]; exact eS.symm
      · rw [upd_ne hb]
    rw [← e0] at I4 fp
    exact lo_loop (H0 := ItX.dropH H3 it) (us := its) hB nSi nli nSl rv hz hR zs.length 0 s3 (by omega) (by omega) I4 ⟨_, itO_get I3 ei, rfl, rfl⟩ p1 fp
  refine wpAny_bind (wpAny_rule ?_)
  refine wpAny_bind (wpAny_attempt ?_)
  refine Calls.call_function_entry PySem.kind_len PySem.plain_len PySem.entry_len (PySem.args_len1 _) ?_
  unfold Builtin.«len»
  refine wpAny_bind (m := oneArg "len" _) (wpAny_pure ?_)
  have e2 : ∀ {B : Around}, B.frames = X.A.frames → Env0 X.prog X.w X.K X.mg X.base B X.stack s' (upd (upd H S (.lst [])) it (ItO l it 0)) := fun {B} hB => by
    have e := I2.env0
    exact ⟨by rw [hB]; exact e.frames, e.mod, e.bs, e.bsz, e.funs, e.frf, e.hok, e.bare⟩
  have hlen : [Value.ref a].length = ps2.length := F2.len _ _ _ _ hl2
  have b2 := hb2 s' [.ref a] I2.kIn (by rw [List.append_nil]; exact hlen)
  rw [List.append_nil] at b2
  refine wpAny_bind (m := callSpecial? (.ref a) (PySem.Str.ofString "__len__")) (PySem.W.special_fn (I2.ok.mod.kin.keeps hF2.keep) J2 hs2 (beq_iff_eq.mp hfn2) (wpAny_call (codeAny_mono (F2.run _ X.stack s' _ ⟨[.ref a], []⟩ [.ref a] [.ref a] _ _ ((hr2.in1.in1.in1).mono (by omega)) (e2 hfr) b2 (.cons rfl .nil) hl2) fun r s3 hq3 => ?_)))
  cases r with
  | error e =>
    obtain ⟨_, _, _, _, _, _, _, _, _, _, _, _, w⟩ := hq3
    exact w.elim
  | ok fl =>
    cases fl with
    | next => exact False.elim hq3
    | brk => exact False.elim hq3
    | cont => exact False.elim hq3
    | ret u =>
      obtain ⟨v3, H3, I3, rv3, n, ev3, hn3, eS, ei, eq3, hQ⟩ := I2.after hq3
      subst ev3
      obtain ⟨t, rfl⟩ := rv3
      refine wpAny_bind (wpAny_holding (wpAny_pure ?_))
      refine wpAny_bind (wpAny_letGo ?_)
      show wpAny _ _ (if ((n : Nat) : Int) < 0 then _ else _) _ _ _
      rw [if_neg (by omega)]
      show wpAny _ _ (if ((n : Nat) : Int) ≥ 2 ^ 63 then _ else _) _ _ _
      rw [if_neg (by omega)]
      refine wpAny_bind (wpAny_mkInt (wpAny_pure ⟨_, rfl, ?_⟩))
      have I3' := I3.tok
      show wpAny _ _ (asInt? (.int (n : Int) _) >>= _) _ _ _
      refine wpAny_bind (wpAny_of_eq (a := some (n : Int)) rfl ?_)
      show wpAny _ _ (if Builtin.List.listTooLong ((n : Int).toNat) = true then _ else _) _ _ _
      rw [if_neg (by unfold Builtin.List.listTooLong; rw [decide_eq_true_eq, Int.toNat_natCast]; have : 100000 ≤ sizeLine := by decide
                     omega)]
      refine wpAny_pure ?_
      refine wpAny_ite_split (fun _ => ?_) (fun _ => wpAny_pure ⟨plainId_quiet PySem.F.plain_extend_loop _, tail hh (I3.tok _) eS ei eq3 fun s4 I4 => ⟨rfl, .ref S, _, I4, rfl, hQ⟩⟩)
      refine wpAny_bind (wpAny_rule ?_)
      refine wpAny_bind ?_
      show wpAny _ _ (updateSeq S (·.push .none) >>= fun _ => updateSeq S (·.pop)) _ _ _
      obtain ⟨_, its, c3, rv3, hS3⟩ := (show ObjOk X.prog X.w H3 s3.heap S (.lst []) from I3.hok S _ eS)
      cases rv3
      refine wpAny_bind (wpAny_updateSeq hS3 rfl ?_)
      have hS4 := Heap.get?_update_self (Obj.mapSeq (·.push Value.none)) hS3 rfl
      refine wpAny_updateSeq (hz := by seq_fits) hS4 rfl ?_
      have hS5 := Heap.get?_update_self (Obj.mapSeq (·.pop)) hS4 rfl
      have k5 : ∀ b o, b ≠ S → s3.heap.get? b = some o → ((s3.heap.update S (Obj.mapSeq (·.push Value.none))).update S (Obj.mapSeq (·.pop))).get? b = some o := fun b o hb e => (Heap.get?_update_other _ _ (Ne.symm hb)).trans ((Heap.get?_update_other _ _ (Ne.symm hb)).trans e)
      have I5 : Inv X pins σ (upd H3 S (.lst [])) { s3 with heap := (s3.heap.update S (Obj.mapSeq (·.push Value.none))).update S (Obj.mapSeq (·.pop)), toks := s3.toks + 1 } := I3.write (x := S) (e := S) (t' := s3.toks + 1) (by rw [eS]; exact True.intro) (.inl rfl) k5 ⟨_, hS5⟩ ⟨by show 0 ≤ _; omega, [], _, .nil, hS5⟩
      have e5 : upd H3 S (.lst []) = H3 := by
        funext b
        by_cases hb : b = S
        · subst hb; rw [upd_same]; exact eS.symm
        · rw [upd_ne hb]
      rw [e5] at I5
      exact wpAny_pure ⟨plainId_quiet PySem.F.plain_extend_loop _, tail hh I5 eS ei eq3 fun s4 I4 => ⟨rfl, .ref S, _, I4, rfl, hQ⟩⟩
theorem pe_listO (hcalm : X.calm = true) (F : ∀ base, FnOk X.prog X.w X.K X.mg base (L2N.CX X.prog X.w) k f fd ps (spIt X.K base.objs.size C fld)) (hr : Room (k + 3) X.A) (hb : Binds X.K fd ps [])
    (hs : PySem.W.findIn X.K (.ref C) "__iter__" = some (some (.ref f))) (hfn : PySem.W.isFn X.K (.ref f) = true)
    (F2 : FnOk X.prog X.w X.K X.mg X.base (L2N.CX X.prog X.w) j f2 fd2 ps2 sp) (hr2 : Room (j + 4) X.A) (hb2 : Binds X.K fd2 ps2 [])
    (hs2 : PySem.W.findIn X.K (.ref C) "__len__" = some (some (.ref f2))) (hfn2 : PySem.W.isFn X.K (.ref f2) = true) (hg : Gl X "list") (hm : X.mg "list" = none) (he : PE X e te)
    (hs0 : starEach [e] X.env = (false, eval e X.env) :: starEach [] X.env := by rfl) (hpl0 : (backTo pos (starEach [] X.env)).any (·.1) = false := by rfl) : PE X (.Call (.Name "list" p) [e] [] pos) (tListO X.K X.s_0.heap.objs.size C fld sp te) := by
  refine ⟨fun pins s σ H Q I h => ?_⟩
  refine Call_ (ld_blt I hg hm PyProof.Rows.boot_list (PyProof.Rows.callWith_type1 ?_ hs0 hpl0))
  rw [hs0]
  refine Calls.spliced_cons ?_
  refine thn (he.run pins s σ H _ I h) fun u s1 ⟨v, H1, I1, r1, a, dx, fs, l, zs, ev, ha, hc, hn, hl, hq, hz, q⟩ => ?_
  subst ev
  obtain rfl : u = Value.ref a := r1
  refine Calls.spliced_nil ?_
  exact call_listO (I1.ok.hd hcalm) F hr rfl hb hs hfn F2 hr2 hb2 hs2 hfn2 I1 ha hc hn hl hq hz q
end
/-! ### its reading -/
def fListO (c f : Str) (ml : AF) (a : AE) : AFr := fun env st q er => a env st (fun d s1 => ∃ l, itemsO c f d = some l ∧ l.length ≤ 1000 ∧ ml [d] s1 (fun r s2 => ∃ n : Nat, r = .d (.int (n : Int)) ∧ n < 100000 ∧ q l s2) (fun _ _ => False)) er
section
variable {K : PySem.W.Frag} {G G2 : Gh} {H H2 : Hp} {st : S}
theorem SS.fin_list (s : SS K G2 st H2) {S it : Addr} {vs : List V} (gi : G2.g it = none) (ni : it ∉ G2.as) (gS : G2.g S = none) (nS : S ∉ G2.as) : SS K G2 st (upd (ItX.dropH H2 it) S (.lst vs)) := by
  have ne : ∀ {b : Addr}, b ≠ it → b ≠ S → (upd (ItX.dropH H2 it) S (.lst vs)) b = H2 b := fun {b} h1 h2 => by rw [upd_ne h2, ItX.dropH_ne h1]
  refine ⟨fun a u e => ?_, s.len, s.nd, fun n c q e1 e2 => (s.cell n c q e1 e2).mono (Gh.le.refl G2) (fun o e => ?_) (fun _ e => e)⟩
  · have h1 : a ≠ it := fun z => by rw [z, gi] at e; cases e
    have h2 : a ≠ S := fun z => by rw [z, gS] at e; cases e
    rcases s.ex a u e with w | ⟨ob, kvs, z, w⟩
    · exact .inl (by rw [ne h1 h2]; exact w)
    · exact .inr ⟨ob, kvs, z, by rw [ne h1 h2]; exact w⟩
  · have hm := List.mem_of_getElem? e2
    rw [ne (fun z => ni (z ▸ hm)) (fun z => nS (z ▸ hm))]
    exact e
end
section
variable {X : Cx} {W : WX} {k j j2 : Nat} {fa f2 : Addr} {fd fd2 : FuncData} {ps ps2 : List Str} {c fld : Str} {e : Expr} {ae : AE} {ml : AF} {p pos : Pos}
theorem axf_listO (C : CxE X W k) (F : ∀ base, FnOk X.prog X.w X.K X.mg base (L2N.CX X.prog X.w) j fa fd ps (spIt X.K base.objs.size (He.ga X.K c) fld)) (hb : BindsD X.K fd ps []) (hcl : Cls X.K (He.ga X.K c)) (hna : NoAttr X.K (He.ga X.K c) fld)
    (hs : PySem.W.findIn X.K (.ref (He.ga X.K c)) "__iter__" = some (some (.ref fa))) (hfn : PySem.W.isFn X.K (.ref fa) = true)
    (F2 : FnOk X.prog X.w X.K X.mg X.base (L2N.CX X.prog X.w) j2 f2 fd2 ps2 (SpA X.K ml)) (hb2 : BindsD X.K fd2 ps2 []) (hs2 : PySem.W.findIn X.K (.ref (He.ga X.K c)) "__len__" = some (some (.ref f2))) (hfn2 : PySem.W.isFn X.K (.ref f2) = true)
    (hm : X.mg "list" = none) (he : AX X W e ae) (hj : j + 3 ≤ k) (hj2 : j2 + 4 ≤ k) (hg : Gl X "list" := by rfl)
    (hs0 : starEach [e] X.env = (false, eval e X.env) :: starEach [] X.env := by rfl) (hpl0 : (backTo pos (starEach [] X.env)).any (·.1) = false := by rfl) : AXF X W (.Call (.Name "list" p) [e] [] pos) (fListO c fld ml ae) := by
  obtain ⟨t, pe, r⟩ := he
  obtain ⟨ds0, v0, hb⟩ := hb
  cases v0
  obtain ⟨ds1, v1, hb2⟩ := hb2
  cases v1
  refine ⟨_, pe_listO C.calm F (C.room.mono hj) hb hs hfn F2 (C.room.mono hj2) hb2 hs2 hfn2 hg hm pe hs0 hpl0, fun G env st σ H Q q er s sl a tF tX => r G env st σ H _ _ er s sl a (fun v d st2 G2 H2 p2 s2 r2 ⟨l, el, hll, h2⟩ => ?_) tX⟩
  obtain ⟨p, dx, fs, a, vs, rfl, hp, hl, ha, rs⟩ := rep_items r2 el
  have hz : vs.length ≤ sizeLine := by
    rw [← rs.length]
    exact Nat.le_trans hll (by decide)
  refine ⟨p, dx, fs, a, vs, rfl, s2.ex.ins hp, hcl, hna, hl, SqL.of (s2.ex.lst ha), hz, fun S it hS hit hge => ?_⟩
  obtain ⟨s3, p3, n3, g3⟩ := s2.room (o := .lst []) hS
  obtain ⟨s4, p4, n4, g4⟩ := s3.room (o := ItO a it 0) hit
  refine ⟨G2, st2, [d], _, _, s4, .cons r2 .nil, h2, fun v r st5 G5 H5 p5 s5 r5 h5 => ?_, fun _ _ _ _ _ _ _ _ _ z => z.elim⟩
  obtain ⟨n, rfl, hn, hq⟩ := h5
  cases r5
  have hit2 : H2 it = none ∧ it ≠ S := by
    by_cases z : it = S
    · subst z; rw [upd_same] at hit; cases hit
    · rw [upd_ne z] at hit; exact ⟨hit, z⟩
  have e4 : ∀ {x : Addr}, x ≠ S → x ≠ it → (upd (upd H2 S (.lst [])) it (ItO a it 0)) x = H2 x := fun h1 h2 => by rw [upd_ne h2, upd_ne h1]
  have eS4 : (upd (upd H2 S (.lst [])) it (ItO a it 0)) S = some (.lst []) := by rw [upd_ne (Ne.symm hit2.2), upd_same]
  have eS : H5 S = some (.lst []) := p5.h1 eS4 n3 (fun _ z => nomatch z)
  have ei : H5 it = some (ItO a it 0) := p5.h1 upd_same n4 (fun _ z => nomatch z)
  have gS : G5.g S = none := p5.n S g3 (by rw [eS4]; exact ⟨(fun z => nomatch z), fun _ z => nomatch z⟩) n3
  have gi : G5.g it = none := p5.n it g4 (by rw [upd_same]; exact ⟨(fun z => nomatch z), fun _ z => nomatch z⟩) n4
  have nS : S ∉ G5.as := fun z => by
    rcases p5.o S z with w | w
    · exact n3 w
    · rw [eS4] at w; cases w
  have ni : it ∉ G5.as := fun z => by
    rcases p5.o it z with w | w
    · exact n4 w
    · rw [upd_same] at w; cases w
  refine ⟨n, rfl, hn, eS, ei, SqL.of (s5.ex.lst (p5.le.g _ _ ha)), ?_⟩
  have nn : ∀ {x : Addr}, H2 x ≠ none → x ≠ S ∧ x ≠ it := fun h => ⟨fun z => h (z ▸ hS), fun z => h (z ▸ hit2.1)⟩
  have eH : ∀ {x : Addr}, x ≠ S → x ≠ it → (upd (ItX.dropH H5 it) S (.lst vs)) x = H5 x := fun h1 h2 => by rw [upd_ne h1, ItX.dropH_ne h2]
  have P : Post G2 H2 G5 (upd (ItX.dropH H5 it) S (.lst vs)) := by
    refine ⟨p5.le, fun x o e k => ?_, fun x e k l => ?_, fun x z => ?_, fun x k => ?_, fun x o u k e => ?_⟩
    · obtain ⟨h1, h2⟩ := nn (ne_some e)
      rw [eH h1 h2]
      exact p5.h x o (by rw [e4 h1 h2]; exact e) k
    · obtain ⟨h1, h2⟩ := nn k.1
      exact p5.n x e (by rw [e4 h1 h2]; exact k) l
    · rcases p5.o x z with w | w
      · exact .inl w
      · right
        cases hx : H2 x with
        | none => rfl
        | some o =>
          obtain ⟨h1, h2⟩ := nn (ne_some hx)
          rw [e4 h1 h2, hx] at w
          cases w
    · obtain ⟨h1, h2⟩ := nn k
      rw [eH h1 h2]
      exact p5.m x (by rw [e4 h1 h2]; exact k)
    · obtain ⟨h1, h2⟩ := nn (ne_some e)
      rw [eH h1 h2]
      exact p5.z x o u k (by rw [e4 h1 h2]; exact e)
  refine tF _ _ st5 G5 _ (p2.trans P) (s5.fin_list gi ni gS nS) ⟨S, vs, rfl, upd_same, gS, nS, ?_, rs.mono p5.le⟩ hq
  cases hh : H S with
  | none => rfl
  | some o => exact absurd hS (p2.m S (ne_some hh))
end
end AM
set_option Elab.async false
set_option linter.all false
set_option maxRecDepth 100000
set_option maxHeartbeats 4000000
namespace AM
open PySem PySem.Spec PyProof.Rows L2 Evl
/-! ### x not in range(n) -/
section
variable {X : Cx}
theorem cr_range1 : CallR X (.type "range") (fun vs H Q => ∃ j, vs = [V.int j] ∧ ∀ p, H p = none → Q (.ref p) (upd H p (.rng 0 j))) := by
  intro pins s σ H vs us Q I r h
  obtain ⟨j, rfl, q⟩ := h
  obtain ⟨u1, rfl, ri⟩ := vals1 r
  obtain ⟨t, rfl⟩ := ri
  refine call_range_1 ⟨.ref s.heap.objs.size, upd H s.heap.objs.size (.rng 0 j), I.laid (t' := s.toks + 1 + 1) (fun b o e => Heap.get?_push_of_some _ e) (Nat.le_refl _) ?_, rfl, q _ (I.hok.fresh (Nat.le_refl _))⟩
  exact ⟨s.toks, t, s.toks + 1, Heap.get?_push_size _ rfl⟩
theorem op_notin_rng : OpR X (compareOp .NotIn) (fun x y H Q => ∃ i a lo hi, x = V.int i ∧ y = V.ref a ∧ H a = some (.rng lo hi) ∧ Q (.bl (!decide (lo ≤ i ∧ i < hi))) H) := by
  intro pins s σ H x y v u Q I rx ry h
  obtain ⟨i, a, lo, hi, rfl, rfl, ha, q⟩ := h
  obtain ⟨k, rfl⟩ := rx
  obtain rfl : u = Value.ref a := ry
  obtain ⟨t1, t2, t3, ho⟩ := I.hok a _ ha
  show wpAny _ _ (do return Value.bool (!(← contains (Value.ref a) (Value.int i k)))) _ _ s
  refine wpAny_bind (wpAny_contains_slot (T := "range") ⟨_, ho, rfl⟩ F.slot_range_contains (call_meets F.slot_range_contains ⟨_, ho, rfl⟩ F.entry_range_contains (F.args_range_contains_2 _ _) (q_contains a lo hi i t1 t2 t3 k)
    ⟨ho, wpAny_truthy_bool (wpAny_pure ⟨.bl _, H, I, rfl, ?_⟩)⟩))
  rw [place1]
  exact q
end
def aNiRng (a b : AE) : AE := fun env st q er => a env st (fun x s1 => b env s1 (fun y s2 => ∃ i j : Int, x = .int i ∧ y = .int j ∧ q (.bl (!decide (0 ≤ i ∧ i < j))) s2) er) er
section
variable {X : Cx} {W : WX} {k : Nat} {a b : Expr} {aa ab : AE} {p pos pos2 : Pos}
theorem ax_niRng (C : CxE X W k) (hm : X.mg "range" = none) (ha : AX X W a aa) (hb : AX X W b ab) (hg : Gl X "range" := by rfl) (he : starEach [b] X.env = (false, eval b X.env) :: starEach [] X.env := by rfl) (hpl : (backTo pos2 (starEach [] X.env)).any (·.1) = false := by rfl)
    (hmm : behindInMarks .NotIn (.Call (.Name "range" p) [b] [] pos2) = false := by first | exact nobehind _ (by decide) (by decide) | rfl) : AX X W (.Compare a [.NotIn] [.Call (.Name "range" p) [b] [] pos2] pos) (aNiRng aa ab) := by
  obtain ⟨ta, pa, ra⟩ := ha
  obtain ⟨tb, pb, rb⟩ := hb
  refine ⟨_, pe_cmpR op_notin_rng pa (pe_callTy cr_range1 hg hm PyProof.Rows.boot_range (pa_cons pb pa_nil he) (by decide) (by decide) he hpl) hmm, fun G env st σ H Q q er s sl h tE tX => ?_⟩
  refine ra G env st σ H _ _ er s sl h (fun v d st1 G1 H1 p1 s1 r1 h1 => ?_) tX
  refine rb G1 env st1 σ H1 _ _ er s1 (sl.mono p1.le) h1 (fun u d2 st2 G2 H2 p2 s2 r2 h2 => ?_) (tX.on p1)
  obtain ⟨i, j, rfl, rfl, h2⟩ := h2
  cases r1
  cases r2
  refine ⟨j, rfl, fun p hp => ?_⟩
  obtain ⟨s3, p3, _, _⟩ := s2.room (o := .rng 0 j) hp
  exact ⟨i, p, 0, j, rfl, rfl, upd_same, tE _ _ st2 G2 _ ((p1.trans p2).trans p3) s3 (.bl _) h2⟩
theorem axt_niRng (C : CxE X W k) (hm : X.mg "range" = none) (ha : AX X W a aa) (hb : AX X W b ab) (hg : Gl X "range" := by rfl) (he : starEach [b] X.env = (false, eval b X.env) :: starEach [] X.env := by rfl) (hpl : (backTo pos2 (starEach [] X.env)).any (·.1) = false := by rfl)
    (hmm : behindInMarks .NotIn (.Call (.Name "range" p) [b] [] pos2) = false := by first | exact nobehind _ (by decide) (by decide) | rfl) : AXT X W (.Compare a [.NotIn] [.Call (.Name "range" p) [b] [] pos2] pos) (aTest (aNiRng aa ab)) := by
  obtain ⟨ta, pa, ra⟩ := ha
  obtain ⟨tb, pb, rb⟩ := hb
  refine ⟨_, pt_cmpR op_notin_rng pa (pe_callTy cr_range1 hg hm PyProof.Rows.boot_range (pa_cons pb pa_nil he) (by decide) (by decide) he hpl) hmm, refT_test (fun G env st σ H Q q er s sl h tE tX => ?_)⟩
  refine ra G env st σ H _ _ er s sl h (fun v d st1 G1 H1 p1 s1 r1 h1 => ?_) tX
  refine rb G1 env st1 σ H1 _ _ er s1 (sl.mono p1.le) h1 (fun u d2 st2 G2 H2 p2 s2 r2 h2 => ?_) (tX.on p1)
  obtain ⟨i, j, rfl, rfl, h2⟩ := h2
  cases r1
  cases r2
  refine ⟨j, rfl, fun p hp => ?_⟩
  obtain ⟨s3, p3, _, _⟩ := s2.room (o := .rng 0 j) hp
  exact ⟨i, p, 0, j, rfl, rfl, upd_same, tE _ _ st2 G2 _ ((p1.trans p2).trans p3) s3 (.bl _) h2⟩
end
end AM
set_option Elab.async false
set_option linter.all false
set_option maxRecDepth 100000
set_option maxHeartbeats 4000000
namespace AM
open PySem PySem.Spec PyProof.Rows L2 Evl
/-! ### len(set(l)), l a list of ints -/
def dstN (ns : List Int) : Nat := (PyProof.Rows.firstMet (fun i => ns.getD i 0) ns.length).length
def tLenSetA (K : PySem.W.Frag) (ta : TE) : TE := fun σ H Q => ta σ H fun x H1 => ∃ (l : Addr) (ns : List Int), x = .ref l ∧ SqL K H1 l (ns.map V.int) ∧ ns.length ≤ 60 ∧ Q (.int (dstN ns : Nat)) H1
theorem pe_lenSetA {X : Cx} {a : Expr} {ta : TE} {p p2 q pos : Pos} (hc : X.calm = true) (hg : Gl X "len") (hm : X.mg "len" = none) (hg2 : Gl X "set") (hm2 : X.mg "set" = none) (ha : PE X a ta)
    (na : starEach [a] X.env = (false, eval a X.env) :: starEach [] X.env := by rfl) : PE X (.Call (.Name "len" p) [.Call (.Name "set" p2) [a] [] q] [] pos) (tLenSetA X.K ta) := by
  refine ⟨fun pins s σ H Q I h => ?_⟩
  refine Call_ (ld_blt I hg hm PySem.boot_len ?_)
  refine PyProof.Rows.callWith_builtin1 (PyProof.Rows.args_cons ?_ rfl) rfl rfl
  refine Call_ (ld_blt I hg2 hm2 PyProof.Rows.boot_set ?_)
  refine PyProof.Rows.callWith_type1 (PyProof.Rows.args_cons (thn (ha.run pins s σ H _ I h) fun v s1 ⟨x, H1, I1, r1, q1⟩ => PyProof.Rows.args_nil ?_) na) na rfl
  obtain ⟨l, ns, rfl, hq, h1, q1⟩ := q1
  cases r1
  obtain ⟨its, r, pl, hz⟩ := I1.list hq
  have hl : its.toArray.size = ns.length := by rw [List.size_toArray, ← r.length, List.length_map]
  refine call_set_list (I1.ok.hd hc) pl.isList (ns := ns) (by simpa using r.ints) (by unfold scanBound; omega) fun h' tk hS hk => ?_
  rw [hl] at hS
  refine PyProof.Rows.args_nil ?_
  have hle := PyProof.Rows.firstMet_length_le (fun i => ns.getD i 0) ns.length
  obtain ⟨o, es, ep, t, ho, hex, hd, _, _, _, hf, hn⟩ := hS
  have I2 : Inv X pins σ H1 { s1 with heap := h', toks := tk } := I1.kept fun b o e => hk b o (Heap.lt_size e) e
  refine call_len_set ho hex hd hf (by rw [hn] <;> omega) ⟨.int (dstN ns : Nat), H1, I2.tok _, ⟨_, by rw [hn]; rfl⟩, q1⟩
theorem dst_back (ns : List Int) : ∀ (i : Nat), i ≤ ns.length → (PyProof.Rows.firstMet (fun i => ns.getD i 0) i).length = i → (ns.take i).Nodup ∧ PyProof.Rows.firstMet (fun i => ns.getD i 0) i = ns.take i
  | 0, _, _ => by simp [PyProof.Rows.firstMet_zero]
  | i + 1, hi, h => by
    have hlt : i < ns.length := by omega
    rw [PyProof.Rows.firstMet_succ] at h ⊢
    have e0 : ns.getD i 0 = ns[i] := by simp [List.getD, List.getElem?_eq_getElem hlt]
    have hle := PyProof.Rows.firstMet_length_le (fun i => ns.getD i 0) i
    unfold PyProof.Rows.step_dedup at h ⊢
    simp only [e0] at h ⊢
    by_cases ha : (PyProof.Rows.firstMet (fun i => ns.getD i 0) i).any (· == ns[i]) = true
    · rw [if_pos ha] at h
      omega
    · rw [if_neg ha] at h ⊢
      rw [List.length_append, List.length_singleton] at h
      obtain ⟨n1, n2⟩ := dst_back ns i (by omega) (by omega)
      rw [n2] at ha ⊢
      rw [List.take_add_one, List.getElem?_eq_getElem hlt]
      refine ⟨?_, rfl⟩
      show (ns.take i ++ [ns[i]]).Nodup
      rw [List.nodup_append]
      refine ⟨n1, by simp, fun a ha' b hb e => ha ?_⟩
      obtain rfl : b = ns[i] := by simpa using hb
      exact List.any_eq_true.mpr ⟨a, ha', by simp [e]⟩
theorem dst_fwd (ns : List Int) (h : ns.Nodup) : ∀ (i : Nat), i ≤ ns.length → PyProof.Rows.firstMet (fun i => ns.getD i 0) i = ns.take i
  | 0, _ => by simp [PyProof.Rows.firstMet_zero]
  | i + 1, hi => by
    have hlt : i < ns.length := by omega
    rw [PyProof.Rows.firstMet_succ, dst_fwd ns h i (by omega)]
    have e0 : ns.getD i 0 = ns[i] := by simp [List.getD, List.getElem?_eq_getElem hlt]
    unfold PyProof.Rows.step_dedup
    simp only [e0]
    have no : ¬ (ns.take i).any (· == ns[i]) = true := fun z => by
      obtain ⟨y, hy, ey⟩ := List.any_eq_true.mp z
      have ey : y = ns[i] := eq_of_beq ey
      obtain ⟨j, hj, e3⟩ := List.mem_iff_getElem.mp hy
      have hji : j < i := by rw [List.length_take] at hj; omega
      rw [List.getElem_take] at e3
      have := (List.getElem_inj h).mp (e3.trans ey)
      omega
    rw [if_neg no, List.take_add_one, List.getElem?_eq_getElem hlt]
    rfl
theorem dst_iff {ns : List Int} : dstN ns = ns.length ↔ ns.Nodup := by
  unfold dstN
  constructor
  · intro h
    have := (dst_back ns ns.length (Nat.le_refl _) h).1
    rwa [List.take_length] at this
  · intro h
    rw [dst_fwd ns h _ (Nat.le_refl _), List.take_length]
theorem dst_le {ns : List Int} : dstN ns ≤ ns.length := PyProof.Rows.firstMet_length_le _ _
def aLenSet (a : AE) : AE := fun env st q er => a env st (fun x s1 => ∃ ns : List Int, vw s1 x = .lst (ns.map .int) ∧ ns.length ≤ 60 ∧ q (.int (dstN ns : Nat)) s1) er
section
variable {X : Cx} {W : WX} {k : Nat} {e : Expr} {ae : AE} {p p2 pos pos2 : Pos}
theorem ax_lenSet (C : CxE X W k) (hm : X.mg "len" = none) (hm2 : X.mg "set" = none) (he : AX X W e ae) (hg : Gl X "len" := by rfl) (hg2 : Gl X "set" := by rfl) (na : starEach [e] X.env = (false, eval e X.env) :: starEach [] X.env := by rfl) :
    AX X W (.Call (.Name "len" p) [.Call (.Name "set" p2) [e] [] pos2] [] pos) (aLenSet ae) := by
  obtain ⟨t, pe, r⟩ := he
  refine ⟨_, pe_lenSetA C.calm hg hm hg2 hm2 pe na, fun G env st σ H Q q er s sl h tE tX => r G env st σ H _ _ er s sl h (fun v d st1 G1 H1 p1 s1 r1 h1 => ?_) tX⟩
  obtain ⟨ns, hv, hl, h1⟩ := h1
  have rv := r1.vw s1
  rw [hv] at rv
  cases rv with
  | lst h2 rs =>
    rw [reps_ints rs] at h2
    exact ⟨_, ns, rfl, SqL.of h2, hl, tE _ _ st1 G1 H1 p1 s1 (.int _) h1⟩
end
end AM
set_option Elab.async false
set_option linter.all false
set_option maxRecDepth 100000
set_option maxHeartbeats 4000000
namespace AM
open PySem PySem.Spec PyProof.Rows L2 Evl
/-! ### a call of what a name of the def's own holds: one of two functions -/
def tCallL (i : Nat) (f : Addr) (sp : Sp) (E : L2.St → XK) (t : TA) : TE := fun σ H Q => σ[i]? = some (some (.ref f)) ∧ t σ H fun vs H1 => sp vs H1 Q (E σ)
def tTwo (t u : TE) : TE := fun σ H Q => t σ H Q ∨ u σ H Q
section
variable {X : Cx} {CX : CXT} {W : WX} {j k i : Nat} {f : Addr} {fd : FuncData} {ps : List Str} {sp : Sp} {E : L2.St → XK} {x : Str} {p pos : Pos} {e : Expr} {es : List Expr} {t : TA}
theorem pe_two {e : Expr} {t u : TE} (h1 : PE X e t) (h2 : PE X e u) : PE X e (tTwo t u) := ⟨fun pins s σ H Q I h => by
  rcases h with h | h
  · exact h1.run pins s σ H Q I h
  · exact h2.run pins s σ H Q I h⟩
theorem pe_callL (F : FnOk X.prog X.w X.K X.mg X.base CX k f fd ps sp) (hr : Room k X.A) (hN : X.N[i]? = some x) (hv : Vis X.env.scope x) (hk : PySem.W.keepIn X.K (.ref f) = true) (hb : Binds X.K fd ps []) (hx : ∀ σ, PassesAt CX X σ (E σ))
    (ha : PA X (e :: es) t) (hdb : (x == ("__debug__" : Str)) = false := by decide) (hcd : (x == ("__classdict__" : Str)) = false := by decide) (he : starEach (e :: es) X.env = (false, eval e X.env) :: starEach es X.env := by rfl) (hpl : (backTo pos (starEach es X.env)).any (·.1) = false := by rfl) :
    PE X (.Call (.Name x p) (e :: es) [] pos) (tCallL i f sp E t) := by
  refine ⟨fun pins s σ H Q I h => ?_⟩
  refine wpAny_Call_Name_kw (thn ((pe_var hN hv hdb hcd).run pins s σ H (fun v H1 => v = .ref f ∧ t σ H1 fun vs H2 => sp vs H2 Q (E σ)) I ⟨.ref f, h.1, rfl, h.2⟩) fun u s0 hu => ?_)
  obtain ⟨v, H0, I0, r0, rfl, h⟩ := hu
  obtain rfl : u = .ref f := r0
  refine PySem.W.callWith_K (h₀ := X.base) I0.ok.mod.kin hk (thn (ha.run pos pins s0 σ H0 _ I0 h) fun us s1 ⟨vs, H1, I1, r, q⟩ => ⟨I1.kIn, ?_⟩) he hpl
  exact run_fnS F hr hb (hx σ) I1 r q
end
def aCallL (i : Nat) (n : Str) (m : AF) (args : AEs) : AE := fun env st q er => env[i]? = some (.d (.fn n)) ∧ aCall m args [] env st q er
def aTwo (a b : AE) : AE := fun env st q er => a env st q er ∨ b env st q er
section
variable {K : PySem.W.Frag} {W : WX}
theorem refE_callL {i : Nat} {n : Str} {m : AF} {ta : TA} {args : AEs} (ha : RefA K W ta args) : RefE K W (tCallL i (He.ga K n) (SpA K m) (fun σ c d H => W c d σ H) ta) (aCallL i n m args) := fun G env st σ H Q q er s l h tE tX => by
  obtain ⟨e, h⟩ := h
  obtain ⟨u, eu, r⟩ := l.slot i _ e
  cases r
  refine ⟨eu, ?_⟩
  refine ha G env st σ H _ _ er s l h (fun vs ds st2 G2 H2 p2 s2 a2 h2 => ?_) tX
  rw [List.append_nil] at h2
  refine ⟨G2, st2, _, _, er, s2, a2, h2, fun v r st3 G3 H3 p3 s3 r3 h3 => ?_, fun e c dx st3 G3 H3 p3 s3 ea h3 => tX e c dx st3 G3 H3 (p2.trans p3) s3 ea h3⟩
  cases r with
  | d x => exact tE v x st3 G3 H3 (p2.trans p3) s3 r3 h3
  | own l =>
    obtain ⟨G4, s4, p4, r4⟩ := own_frz s3 p3 r3
    exact tE v _ st3 G4 H3 (p2.trans p4) s4 r4 h3
  | ownD l =>
    obtain ⟨G4, s4, p4, r4⟩ := ownd_frz s3 p3 r3
    exact tE v _ st3 G4 H3 (p2.trans p4) s4 r4 h3
theorem refE_two {ta tb : TE} {aa ab : AE} (ha : RefE K W ta aa) (hb : RefE K W tb ab) : RefE K W (tTwo ta tb) (aTwo aa ab) := fun G env st σ H Q q er s l h tE tX => by
  rcases h with h | h
  · exact .inl (ha G env st σ H Q q er s l h tE tX)
  · exact .inr (hb G env st σ H Q q er s l h tE tX)
end
section
variable {X : Cx} {W : WX} {j k i : Nat} {n x : Str} {m : AF} {fd : FuncData} {ps : List Str} {p pos : Pos} {e : Expr} {es : List Expr} {aa : AEs} {e2 : Expr} {a b : AE}
theorem ax_two (ha : AX X W e2 a) (hb : AX X W e2 b) : AX X W e2 (aTwo a b) := by
  obtain ⟨ta, pa, ra⟩ := ha
  obtain ⟨tb, pb, rb⟩ := hb
  exact ⟨_, pe_two pa pb, refE_two ra rb⟩
theorem ax_callL (i : Nat) (C : CxE X W k) (F : FnOk X.prog X.w X.K X.mg X.base (L2N.CX X.prog X.w) j (He.ga X.K n) fd ps (SpA X.K m)) (hk : PySem.W.keepIn X.K (.ref (He.ga X.K n)) = true) (hb : BindsD X.K fd ps []) (ha : AXA X W (e :: es) aa) (hj : j ≤ k)
    (hN : X.N[i]? = some x := by rfl) (hv : Vis X.env.scope x := by first | exact Or.inl rfl | exact Or.inr (Or.inl rfl) | exact Or.inr (Or.inr rfl)) (hdb : (x == ("__debug__" : Str)) = false := by decide) (hcd : (x == ("__classdict__" : Str)) = false := by decide) (he : starEach (e :: es) X.env = (false, eval e X.env) :: starEach es X.env := by rfl) (hpl : (backTo pos (starEach es X.env)).any (·.1) = false := by rfl) : AX X W (.Call (.Name x p) (e :: es) [] pos) (aCallL i n m aa) := by
  obtain ⟨t, pa, r⟩ := ha
  obtain ⟨ds, hv2, hb⟩ := hb
  cases hv2
  exact ⟨_, pe_callL F (C.room.mono hj) hN hv hk hb (fun σ => L2N.passAt C.takes σ) pa hdb hcd he hpl, refE_callL r⟩
end
/-! ### len(set(t)), t a tuple of ints -/
def tLenSetT (K : PySem.W.Frag) (ta : TE) : TE := fun σ H Q => ta σ H fun x H1 => ∃ (l : Addr) (ns : List Int), x = .ref l ∧ SqT K H1 l (ns.map V.int) ∧ ns.length ≤ 60 ∧ ∀ L : List Int, L.Nodup → (∀ k, k ∈ L ↔ k ∈ ns) → Q (.int (L.length : Nat)) H1
theorem pe_lenSetT {X : Cx} {a : Expr} {ta : TE} {p p2 q pos : Pos} (hc : X.calm = true) (hg : Gl X "len") (hm : X.mg "len" = none) (hg2 : Gl X "set") (hm2 : X.mg "set" = none) (ha : PE X a ta)
    (na : starEach [a] X.env = (false, eval a X.env) :: starEach [] X.env := by rfl) : PE X (.Call (.Name "len" p) [.Call (.Name "set" p2) [a] [] q] [] pos) (tLenSetT X.K ta) := by
  refine ⟨fun pins s σ H Q I h => ?_⟩
  refine Call_ (ld_blt I hg hm PySem.boot_len ?_)
  refine PyProof.Rows.callWith_builtin1 (PyProof.Rows.args_cons ?_ rfl) rfl rfl
  refine Call_ (ld_blt I hg2 hm2 PyProof.Rows.boot_set ?_)
  refine PyProof.Rows.callWith_type1 (PyProof.Rows.args_cons (thn (ha.run pins s σ H _ I h) fun v s1 ⟨x, H1, I1, r1, q1⟩ => PyProof.Rows.args_nil ?_) na) na rfl
  obtain ⟨l, ns, rfl, hq, h1, q1⟩ := q1
  cases r1
  obtain ⟨its, r, pl, hz⟩ := I1.tuple hq
  refine call_set_tupI ns (I1.ok.hd hc) pl (by simpa using r.ints) (by unfold scanBound; omega) fun h' tk c hS hcl hk => ?_
  refine PyProof.Rows.args_nil ?_
  obtain ⟨o, es, ep, t, ho, hex, hd, _, nd, hmem, _, hf, hn, _, _⟩ := hS
  have I2 : Inv X pins σ H1 { s1 with heap := h', toks := tk } := I1.kept fun b o e => hk b o e
  have q2 := q1 (es.toList.map keyOf) nd fun k => by rw [← hmem k]; simp
  have hl2 : (es.toList.map keyOf).length = es.size := by simp
  rw [hl2] at q2
  refine call_len_set ho hex hd hf (by rw [hn] <;> omega) ⟨.int (es.size : Nat), H1, I2.tok _, ⟨_, rfl⟩, q2⟩
def aLenSetT (a : AE) : AE := fun env st q er => a env st (fun x s1 => ∃ ns : List Int, vw s1 x = .tup (ns.map .int) ∧ ns.length ≤ 60 ∧ ∀ L : List Int, L.Nodup → (∀ k, k ∈ L ↔ k ∈ ns) → q (.int (L.length : Nat)) s1) er
section
variable {X : Cx} {W : WX} {k : Nat} {e : Expr} {ae : AE} {p p2 pos pos2 : Pos}
theorem ax_lenSetT (C : CxE X W k) (hm : X.mg "len" = none) (hm2 : X.mg "set" = none) (he : AX X W e ae) (hg : Gl X "len" := by rfl) (hg2 : Gl X "set" := by rfl) (na : starEach [e] X.env = (false, eval e X.env) :: starEach [] X.env := by rfl) :
    AX X W (.Call (.Name "len" p) [.Call (.Name "set" p2) [e] [] pos2] [] pos) (aLenSetT ae) := by
  obtain ⟨t, pe, r⟩ := he
  refine ⟨_, pe_lenSetT C.calm hg hm hg2 hm2 pe na, fun G env st σ H Q q er s sl h tE tX => r G env st σ H _ _ er s sl h (fun v d st1 G1 H1 p1 s1 r1 h1 => ?_) tX⟩
  obtain ⟨ns, hv, hl, h1⟩ := h1
  have rv := r1.vw s1
  rw [hv] at rv
  cases rv with
  | tup h2 rs =>
    rw [reps_ints rs] at h2
    exact ⟨_, ns, rfl, SqT.of h2, hl, fun L a b => tE _ _ st1 G1 H1 p1 s1 (.int _) (h1 L a b)⟩
end
/-! dedup -/
def dd : List Int → List Int
  | [] => []
  | x :: l => if x ∈ l then dd l else x :: dd l
theorem dd_mem {k : Int} : ∀ {l : List Int}, k ∈ dd l ↔ k ∈ l
  | [] => Iff.rfl
  | x :: l => by
    unfold dd
    by_cases h : x ∈ l
    · rw [if_pos h, dd_mem, List.mem_cons]
      exact ⟨.inr, fun z => z.elim (fun e => e ▸ h) id⟩
    · rw [if_neg h, List.mem_cons, List.mem_cons, dd_mem]
theorem dd_nd : ∀ {l : List Int}, (dd l).Nodup
  | [] => List.nodup_nil
  | x :: l => by
    unfold dd
    by_cases h : x ∈ l
    · rw [if_pos h]; exact dd_nd
    · rw [if_neg h, List.nodup_cons]; exact ⟨fun z => h (dd_mem.mp z), dd_nd⟩
theorem dd_le : ∀ {l : List Int}, (dd l).length ≤ l.length
  | [] => Nat.le_refl _
  | x :: l => by
    unfold dd
    have := dd_le (l := l)
    by_cases h : x ∈ l
    · rw [if_pos h, List.length_cons]; omega
    · rw [if_neg h, List.length_cons, List.length_cons]; omega
theorem dd_eq : ∀ {l : List Int}, (dd l).length = l.length ↔ l.Nodup
  | [] => by simp [dd]
  | x :: l => by
    unfold dd
    have h1 := dd_le (l := l)
    have h2 := dd_eq (l := l)
    rw [List.nodup_cons]
    by_cases h : x ∈ l
    · rw [if_pos h, List.length_cons]
      exact ⟨fun z => by omega, fun z => absurd h z.1⟩
    · rw [if_neg h, List.length_cons, List.length_cons]
      exact ⟨fun z => ⟨h, h2.mp (by omega)⟩, fun z => by have := h2.mpr z.2; omega⟩
theorem nd_leF : ∀ {l m : List Int}, l.Nodup → (∀ x ∈ l, x ∈ m) → l.length ≤ m.length
  | [], _, _, _ => Nat.zero_le _
  | x :: l, m, hn, h => by
    rw [List.nodup_cons] at hn
    have h2 := nd_leF (l := l) (m := m.erase x) hn.2 fun y hy => (List.mem_erase_of_ne fun e : y = x => hn.1 (by rw [← e]; exact hy)).mpr (h y (by simp [hy]))
    rw [List.length_erase_of_mem (h x (by simp))] at h2
    have := List.length_pos_of_mem (h x (by simp))
    rw [List.length_cons]; omega
theorem set_len {L ns : List Int} (h1 : L.Nodup) (h2 : ∀ k, k ∈ L ↔ k ∈ ns) : L.length = (dd ns).length :=
  Nat.le_antisymm (nd_leF h1 fun x hx => dd_mem.mpr ((h2 x).mp hx)) (nd_leF dd_nd fun x hx => (h2 x).mpr (dd_mem.mp hx))
/-! ### max of a tuple, too (as AMmnt's min) -/
section
variable {prog : Program} {w : World} {A : Around} {E : Value → Shared → Prop} {s : Shared} {l : Addr} {xs : Array (Int × Tok)}
theorem max_intTup {Q : Value → Shared → Prop} (hh : A.handled = none) (hl : s.heap.IsTuple l (intItems xs)) (hne : 0 < xs.size)
    (h : ∀ v h' tk, (intItems xs)[argBest (fun i j => decide (numAt xs i > numAt xs j)) (xs.size - 1)]? = some v → (∀ b o, s.heap.get? b = some o → h'.get? b = some o) → Q v { s with heap := h', toks := tk }) :
    wpAny (model prog w) A (call (.builtin "max") [.ref l]) Q E s := by
  have hl0 : l < s.heap.objs.size := by obtain ⟨o, ho, _⟩ := id hl; exact Heap.lt_size ho
  refine call_max_walk (wpAny_pyIter_tuple hl ?_)
  refine ⟨s.heap.objs.size, [_, l], [_], _, _, _, _, rfl, Walks.tuple (A := A.in1) hh _ l (Nat.ne_of_lt hl0) (intItems xs),
    ⟨⟨_, Heap.get?_push_size _ rfl, rfl, rfl⟩, hl.push _⟩, fun c hc => ?_, by simpa [intItems] using hne, CmpOf.ints_gt (numAt xs) (fun _ _ => intItems_at), fun v h' tk hP hk => ?_⟩
  · show c < (s.heap.push _).objs.size
    rw [Heap.size_push]
    rcases List.mem_cons.mp hc with rfl | hc
    · exact Nat.lt_succ_self _
    · rcases List.mem_cons.mp hc with rfl | hc
      · exact Nat.lt_succ_of_lt hl0
      · cases hc
  · refine h v h' tk (by simpa [intItems] using hP) fun b o e => ?_
    refine hk b o (fun hm => ?_) (Heap.get?_push_of_some _ e)
    rcases List.mem_cons.mp hm with e1 | hm
    · exact absurd (e1 ▸ Heap.lt_size e) (Nat.lt_irrefl _)
    · cases hm
theorem maxT_raw {its : List Value} {ns : List Int} {Q : Value → Shared → Prop} (hh : A.handled = none) (hl : s.heap.IsTuple l its.toArray) (hi : IntsAre its ns) (hne : 0 < ns.length)
    (h : ∀ h' tk M t', (∀ b o, s.heap.get? b = some o → h'.get? b = some o) → M ∈ ns → (∀ a, a ∈ ns → a ≤ M) → Q (.int M t') { s with heap := h', toks := tk }) : wpAny (model prog w) A (call (.builtin "max") [.ref l]) Q E s := by
  obtain ⟨xs, e⟩ := hi.allInts.items
  have hn : numsOf (intItems xs).toList = ns := by rw [← e]; exact hi.numsOf
  rw [nums_intItems] at hn
  subst hn
  rw [e] at hl
  have hsz : 0 < xs.size := by simpa using hne
  refine max_intTup hh hl hsz fun v h' tk hv hk => ?_
  obtain ⟨t, rfl⟩ := intItems_at hv
  obtain ⟨h1, h2⟩ := argBest_gt (numAt xs) (xs.size - 1)
  refine h h' tk _ t hk ?_ fun a ha => ?_
  · rw [numAt_eq]; exact PySem.getD_mem (by rw [List.length_map, Array.length_toList]; omega)
  · obtain ⟨j, hj, rfl⟩ := mem_getD ha
    rw [List.length_map, Array.length_toList] at hj
    rw [← numAt_eq]; exact h2 j (by omega)
end
section
variable {X : Cx} {W : WX} {k : Nat}
def rMaxT (K : PySem.W.Frag) : List V → Hp → VK → Prop := fun vs H Q => rMax K vs H Q ∨ ∃ (a : Addr) (ns : List Int), vs = [V.ref a] ∧ SqT K H a (ns.map V.int) ∧ 0 < ns.length ∧ ∀ m, m ∈ ns → (∀ y, y ∈ ns → y ≤ m) → Q (.int m) H
theorem cr_maxT (hc : X.calm = true) : CallR X (.builtin "max") (rMaxT X.K) := by
  intro pins s σ H vs us Q I r h
  rcases h with h | ⟨a, ns, rfl, hs, hne, q⟩
  · exact cr_max hc pins s σ H vs us Q I r h
  · obtain ⟨its, rv, hl, _⟩ := I.tuple hs
    have hl' : s.heap.IsTuple a its.toArray := hl
    have hi : IntsAre its ns := rv.ints
    rw [Vals.ref1 r]
    exact maxT_raw (I.ok.hd hc) hl' hi hne fun h' tk m t' hk h1 h2 => ⟨.int _, H, I.kept hk, ⟨_, rfl⟩, q m h1 h2⟩
def bMaxA : ON := fun xs q => match xs with
  | [.tup l] => ∃ ns : List Int, l = ns.map D.int ∧ 0 < ns.length ∧ ∀ m, m ∈ ns → (∀ y, y ∈ ns → y ≤ m) → q (.int m)
  | _ => bMax1 xs q
theorem cb_maxA (C : CxE X W k) : CB X (.builtin "max") bMaxA := ⟨_, cr_maxT C.calm, fun G st H xs ds Q q s r h t => by
  unfold bMaxA at h
  split at h
  · obtain ⟨bs, eb, hp, h⟩ := h
    subst eb
    cases r with
    | cons r1 r2 =>
      cases r2
      cases r1 with
      | tup h1 r1 _ =>
        have := ints_ok r1
        subst this
        exact .inr ⟨_, bs, rfl, SqT.of h1, hp, fun m hm hy => t.here s (.int _) (h m hm hy)⟩
  · obtain ⟨bs, eb, hp, h⟩ := h
    subst eb
    cases r with
    | cons r1 r2 =>
      cases r2
      cases r1 with
      | lst h1 r1 =>
        have := ints_ok r1
        subst this
        exact .inl ⟨_, bs, rfl, SqL.of h1, hp, fun m hm hy => t.here s (.int _) (h m hm hy)⟩⟩
@[simp ↓] theorem ev_bMaxA_l {l : List D} {q : D → Prop} : bMaxA [.lst l] q = bMax1 [.lst l] q := propext Iff.rfl
@[simp ↓] theorem ev_bMaxA_t {l : List D} {q : D → Prop} : bMaxA [.tup l] q = ∃ ns : List Int, l = ns.map D.int ∧ 0 < ns.length ∧ ∀ m, m ∈ ns → (∀ y, y ∈ ns → y ≤ m) → q (.int m) := propext Iff.rfl
end
end AM
set_option Elab.async false
set_option linter.all false
set_option maxRecDepth 100000
set_option maxHeartbeats 4000000
namespace AM
open PySem PySem.Spec PyProof.Rows L2 Evl
/-! ### a fresh list: list * int -/
def fRep (a b : AE) : AFr := fun env st q er => a env st (fun x s1 => b env s1 (fun y s2 => ∃ l k, vw s2 x = .lst l ∧ y = .int k ∧ 0 ≤ k ∧ k ≤ 100000 ∧ l.length * k.toNat ≤ 100000 ∧ q (List.replicate k.toNat l).flatten s2) er) er
section
variable {X : Cx} {W : WX} {a b : Expr} {ae be : AE} {pos : Pos}
theorem axf_rep (h : AX X W a ae) (h' : AX X W b be) : AXF X W (.BinOp a .Mult b pos) (fRep ae be) := by
  obtain ⟨t, pe, r⟩ := h
  obtain ⟨t', pe', r'⟩ := h'
  refine ⟨_, pe_op op_rep pe pe', fun G env st σ H Q q er s l h tE tX => r G env st σ H _ _ er s l h (fun v d st1 G1 H1 p1 s1 r1 h1 => ?_) tX⟩
  refine r' G1 env st1 σ H1 _ _ er s1 (l.mono p1.le) h1 (fun w d2 st2 G2 H2 p2 s2 r2 h2 => ?_) (tX.on p1)
  obtain ⟨l0, k, hl, rfl, h0, h1', h3, h4⟩ := h2
  have rv := (r1.mono p2.le).vw s2
  rw [hl] at rv
  cases rv with
  | lst hp rs =>
    cases r2
    refine ⟨_, k, _, rfl, rfl, hp, by omega, by omega, sz_of (by rw [← rs.length]; exact h3), fun p hp' => ?_⟩
    obtain ⟨s3, p3, np, gp⟩ := s2.room (o := .lst (List.replicate k.toNat _).flatten) hp'
    exact tE _ _ st2 _ _ ((p1.trans p2).trans p3) s3 (ResOk.on (p1.trans p2) ⟨p, _, rfl, upd_same, gp, np, hp', Reps.rep rs k.toNat⟩) h4
end
end AM
set_option Elab.async false
set_option linter.all false
set_option maxRecDepth 100000
set_option maxHeartbeats 4000000
namespace AM
open PySem PySem.Spec PyProof.Rows L2 Evl
/-! ### list(d.values()), d a dict with tuple keys -/
def tListVals (td : TE) : TE := fun σ H Q => td σ H fun x H1 => ∃ d kvs, x = V.ref d ∧ Rd H1 d (.dT kvs) ∧ ∀ p, H1 p = none → Q (.ref p) (upd H1 p (.lst (kvs.map Prod.snd)))
section
variable {X : Cx} {e : Expr} {td : TE} {p pos apos cpos : Pos}
theorem vals_snd : ∀ {kvs : List (List L2.Key × V)} {xs : List (List L2.Key × Addr × Value)}, Paired (fun (p : List L2.Key × V) (x : List L2.Key × Addr × Value) => RelV p.2 x.2.2) kvs xs → Vals (kvs.map Prod.snd) (xs.map fun x => x.2.2)
  | _, _, .nil => .nil
  | _, _, .cons h t => .cons h (vals_snd t)
theorem pe_listVals (hc : X.calm = true) (hg : Gl X "list") (hm : X.mg "list" = none) (he : PE X e td)
    (hbase : attributeBase e "values" X.env (eval e X.env) = eval e X.env := by rfl) (hline : (apos.endLine == cpos.line) = true := by rfl)
    (na : starEach [.Call (.Attribute e "values" apos) [] [] cpos] X.env = (false, eval (.Call (.Attribute e "values" apos) [] [] cpos) X.env) :: starEach [] X.env := by rfl) :
    PE X (.Call (.Name "list" p) [.Call (.Attribute e "values" apos) [] [] cpos] [] pos) (tListVals td) := by
  refine ⟨fun pins s σ H Q I h => ?_⟩
  refine Call_ (ld_blt I hg hm boot_list (PyProof.Rows.callWith_type1 (args_cons (thn (Q := fun r s2 => ∃ (d : Addr) (kvs : List (List L2.Key × V)) (H1 : Hp) (a : Addr), r = Value.ref a ∧ s2.heap.IsValuesView a d ∧ Inv X pins σ H1 s2 ∧ Rd H1 d (.dT kvs) ∧ ∀ p, H1 p = none → Q (.ref p) (upd H1 p (.lst (kvs.map Prod.snd)))) ?_ fun x s1 ⟨d, kvs, H1, a, ex, hv, I1, hd, q⟩ => args_nil ?_) na) na))
  · refine wpAny_Call_method (T := "dict") (id := "dict.values") hbase rfl hline F.plainAttrs_dict F.slot_dict_values F.type_dict_values (thn (he.run pins s σ H _ I h) fun u s1 ⟨x, H1, I1, rx, d, kvs, ex, hd, q⟩ => ?_)
    subst ex
    obtain rfl : u = Value.ref d := rx
    obtain ⟨z, hs, ks, pr, o, es, ep, ho, hx, hdt, hen, hn⟩ := (show ObjOk X.prog X.w H1 s1.heap d (.dT kvs) from hd.ok I1.hok)
    have raw : s1.heap.DictRaw d es ep := ⟨o, ho, hx, hdt⟩
    refine ⟨⟨o, ho, hx.1⟩, fun b e => ?_, ?_⟩
    · cases e
      exact ⟨o, ho, hx.2.1⟩
    have I3 : Inv X pins σ H1 { s1 with heap := s1.heap.push { cls := .type "dict_values", data := .fields #[.ref d] } } := I1.kept (t' := s1.toks) fun b ob q => Heap.get?_push_of_some _ q
    show wpAny _ _ (callWith cpos (.builtin "dict.values") [.ref d] [] []) _ X.xe s1
    exact method_meetsIn F.slot_dict_values F.entry_dict_values rfl (PySem.evalArgs_none ⟨rfl, ⟨o, ho, hx.1⟩, F.args_dict_values_1 _, _, meets_dict_values_raw d hs, ⟨⟨es, ep, raw⟩, ⟨d, kvs, H1, _, rfl, ⟨_, Heap.get?_push_size _ rfl, rfl, rfl⟩, I3, hd, q⟩⟩⟩)
  · subst ex
    obtain ⟨z, hs, ks, pr, o, es, ep, ho, hx, hdt, hen, hn⟩ := (show ObjOk X.prog X.w H1 s1.heap d (.dT kvs) from hd.ok I1.hok)
    have raw : s1.heap.DictRaw d es ep := ⟨o, ho, hx, hdt⟩
    have l1 : es.size = ks.length := size_of_entries hen
    have l2 : kvs.length = ks.length := Paired.length pr
    refine PySem.W.kdl_call KdlSrc.rawValues (I1.ok.hd hc) ⟨hv, raw⟩ (by omega) fun h' tk acc' c' kp e it => ?_
    have ea : acc'.toList = ks.map fun x => x.2.2 := by
      have hl : acc'.toList.length = ks.length := by rw [Array.length_toList, it.1]; exact l1
      apply List.ext_getElem?
      intro j
      rw [List.getElem?_map]
      cases hj : acc'.toList[j]? with
      | none =>
        have h1 := List.getElem?_eq_none_iff.mp hj
        rw [List.getElem?_eq_none (by omega)]
        all_goals rfl
      | some v =>
        obtain ⟨hi, hv⟩ := it.2 j v (by rw [← Array.getElem?_toList]; exact hj)
        have qe := entry_at hen j
        rw [Array.getElem?_eq_getElem hi] at qe
        cases hb : ks[j]? with
        | none =>
          rw [hb] at qe
          exact nomatch (show some es[j] = none from qe)
        | some b =>
          rw [hb] at qe
          have e2 : es[j] = entryOfKey (tupleKind (mixKind X.prog X.w)) b := Option.some.inj qe
          rw [hv, e2]
          all_goals rfl
    have rv : Vals (kvs.map Prod.snd) acc'.toList := by
      rw [ea]
      exact vals_snd (Paired.mono (fun _ _ h => h.2.2) pr)
    refine ⟨.ref s1.heap.objs.size, _, I1.laid (t' := tk) (o := .lst (kvs.map Prod.snd)) kp (Nat.le_refl _) ?_, rfl, q _ (I1.hok.fresh (Nat.le_refl _))⟩
    exact ⟨by rw [List.length_map]; omega, acc'.toList, c', rv, by rw [Array.toArray_toList]; exact e⟩
end
def fValsL (a : AE) : AFr := fun env st q er => a env st (fun x s1 => ∃ l, vw s1 x = .dic l ∧ q (l.map Prod.snd) s1) er
theorem repT_vals {K : PySem.W.Frag} {G : Gh} : ∀ {l : List (D × D)} {kvs : List (List L2.Key × V)}, RepT K G l kvs → Reps K G (l.map Prod.snd) (kvs.map Prod.snd)
  | [], _, r => by cases r; exact .nil
  | x :: l, _, r => by
    cases r with
    | cons r rr => exact .cons r (repT_vals rr)
section
variable {X : Cx} {W : WX} {k : Nat} {e : Expr} {ae : AE} {p pos apos cpos : Pos}
theorem axf_vals (C : CxE X W k) (hm : X.mg "list" = none) (ha : AX X W e ae) (hg : Gl X "list" := by rfl)
    (hbase : attributeBase e "values" X.env (eval e X.env) = eval e X.env := by rfl) (hline : (apos.endLine == cpos.line) = true := by rfl)
    (na : starEach [.Call (.Attribute e "values" apos) [] [] cpos] X.env = (false, eval (.Call (.Attribute e "values" apos) [] [] cpos) X.env) :: starEach [] X.env := by rfl) :
    AXF X W (.Call (.Name "list" p) [.Call (.Attribute e "values" apos) [] [] cpos] [] pos) (fValsL ae) := by
  obtain ⟨ta, pa, ra⟩ := ha
  refine ⟨_, pe_listVals C.calm hg hm pa hbase hline na, fun G env st σ H Q q er s sl h tF tX => ra G env st σ H _ _ er s sl h (fun v d st1 G1 H1 p1 s1 r1 h1 => ?_) tX⟩
  obtain ⟨l, hl, h1⟩ := h1
  have rv := r1.vw s1
  rw [hl] at rv
  cases rv with
  | dicT hd rs =>
    refine ⟨_, _, rfl, hd, fun ad hn => ?_⟩
    obtain ⟨s3, p3, n3, g3⟩ := s1.room (o := .lst _) hn
    exact tF _ (l.map Prod.snd) st1 G1 _ (p1.trans p3) s3 (ResOk.on p1 ⟨ad, _, rfl, upd_same, g3, n3, hn, repT_vals rs⟩) h1
end
end AM
set_option Elab.async false
set_option linter.all false
set_option maxRecDepth 100000
set_option maxHeartbeats 4000000
namespace AM
open PySem PySem.Spec PyProof.Rows L2 Evl
/-! ### len(d), d a dict with tuple keys -/
def rLenT : List V → Hp → VK → Prop := fun xs H Q => ∃ d kvs, xs = [V.ref d] ∧ Rd H d (.dT kvs) ∧ Q (.int kvs.length) H
theorem call_lenT {X : Cx} : CallR X (.builtin "len") rLenT := by
  intro pins s σ H xs us Q I r h
  obtain ⟨d, kvs, rfl, hd, q⟩ := h
  obtain ⟨u, rfl, rx⟩ := vals1 r
  cases rx
  obtain ⟨z, hs, ks, pr, o, es, ep, ho, hx, hdt, hen, hn⟩ := (show ObjOk X.prog X.w H s.heap d (.dT kvs) from hd.ok I.hok)
  have raw : s.heap.DictRaw d es ep := ⟨o, ho, hx, hdt⟩
  have l1 : es.size = ks.length := size_of_entries hen
  have l2 : kvs.length = ks.length := Paired.length pr
  have l3 : es.size = kvs.length := by omega
  rw [sizeLine_eq] at z
  refine Calls.call_function_entry PySem.kind_len PySem.plain_len PySem.entry_len (PySem.args_len1 _) ?_
  unfold Builtin.«len»
  refine wpAny_bind (m := oneArg "len" _) (wpAny_pure ?_)
  refine wpAny_bind (m := callSpecial? (.ref d) (Str.ofString "__len__")) (wpAny_callSpecial?_slot (name := Str.ofString "__len__") raw.typeIs F.slot_dict_len (call_len_raw hs raw ?_))
  refine wpAny_bind (wpAny_holding (wpAny_pure ?_))
  refine wpAny_bind (wpAny_letGo ?_)
  show wpAny _ _ (if ((es.size : Nat) : Int) < 0 then _ else _) _ _ _
  rw [if_neg (by omega)]
  show wpAny _ _ (if ((es.size : Nat) : Int) ≥ 2 ^ 63 then _ else _) _ _ _
  rw [if_neg (by omega)]
  refine wpAny_bind (wpAny_mkInt (wpAny_pure ⟨_, rfl, .int kvs.length, H, I.tok _, ⟨_, by rw [l3]⟩, q⟩))
theorem RepT.len {K : PySem.W.Frag} {G : Gh} : ∀ {l : List (D × D)} {kvs : List (List Key × V)}, RepT K G l kvs → kvs.length = l.length
  | _, _, .nil => rfl
  | _, _, .cons _ r => by simp [RepT.len r]
def bLenT : ON := fun xs q => ∃ l : List (D × D), xs = [.dic l] ∧ q (.int (l.length : Nat))
theorem cb_lenT {X : Cx} : CB X (.builtin "len") bLenT := ⟨_, call_lenT, fun G st H xs ds Q q s r h t => by
  obtain ⟨l, rfl, h⟩ := h
  cases r with
  | cons r1 r2 =>
    cases r2
    cases r1 with
    | dicT hp rk => exact ⟨_, _, rfl, hp, by rw [RepT.len rk]; exact t.here s (.int _) h⟩⟩
end AM
set_option Elab.async false
set_option linter.all false
set_option maxRecDepth 100000
set_option maxHeartbeats 4000000
namespace AM
open PySem PySem.Spec PyProof.Rows L2 Evl
/-! ### {k: v}, one pair, k a tuple -/
def tDispT (tk tv : TE) : TE := fun σ H Q => ∀ D, H D = none → tk σ (upd H D (.dT [])) fun y H1 => tv σ H1 fun z H2 => ∃ kvs k b, y = .ref b ∧ H2 b = some (.tup (k.map kV)) ∧ H2 D = some (.dT kvs) ∧ kvs.length < sizeLine ∧ Q (.ref D) (upd H2 D (.dT (putK kvs k z)))
def dispQ (D : Addr) (Q : VK) : List (V × V) → Hp → Prop
  | [(y, z)], H2 => ∃ kvs k b, y = .ref b ∧ H2 b = some (.tup (k.map kV)) ∧ H2 D = some (.dT kvs) ∧ kvs.length < sizeLine ∧ Q (.ref D) (upd H2 D (.dT (putK kvs k z)))
  | _, _ => False
theorem pe_dispT {X : Cx} {kx vx : Expr} {pos : Pos} {tk tv : TE} (hu : X.A.units + 1 < cLine) (hk : PE X kx tk) (hv : PE X vx tv) : PE X (.Dict [some kx] [vx] pos) (tDispT tk tv) := by
  refine ⟨fun pins s σ H Q I q => ?_⟩
  have hn := I.hok.fresh (Nat.le_refl s.heap.objs.size)
  have I1 := I.laid (a := s.heap.objs.size) (o := .dT []) (h' := s.heap.push { cls := .type "dict", data := .dict #[] }) (t' := s.toks) (fun _ _ q => Heap.get?_push_of_some _ q) (Nat.le_refl _) (dt_empty s.heap I.big)
  have P := pps_cons (pos := pos) hk hv pps_nil
  refine wpAny_Dict_any rfl rfl (by simp) (by simp) (thn (P.run pins _ σ _ (dispQ s.heap.objs.size Q) I1 (q _ hn)) fun ws s2 ⟨ps, H2, I2, rel, e⟩ => ?_)
  match ps, e with
  | [(y, z)], e =>
    obtain ⟨kvs, k, b, ek, hb, hD, hz, q2⟩ := e
    subst ek
    cases rel with
    | @cons p1 w1 ps1 ws1 h1 t1 =>
      cases t1
      obtain ⟨u, w⟩ := w1
      obtain ⟨r1, r2⟩ := h1
      obtain rfl : u = Value.ref b := r1
      unfold storeAll
      rw [List.forIn_cons]
      refine wpAny_bind (wpAny_bind (d_dictSetT hu I2 hD hz hb r2 fun s3 I3 => wpAny_pure ?_))
      simp only [List.forIn_nil]
      exact wpAny_pure ⟨.ref s.heap.objs.size, _, I3, rfl, q2⟩
def fDisp (a b : AE) : AFd := fun env st q er => a env st (fun kk s1 => b env s1 (fun y s2 => isKeyT kk ∧ q [(kk, y)] s2) er) er
theorem refD_disp {K : PySem.W.Frag} {W : WX} {tk tv : TE} {ak av : AE} (hk : RefE K W tk ak) (hv : RefE K W tv av) : RefD K W (tDispT tk tv) (fDisp ak av) := fun G env st σ H Q q er s l h tE tX => fun P hP => by
  have b0 := Bd.start s hP
  refine hk G env st σ _ _ _ er b0.ss l h (fun w d st9 G9 H9 p9 s9 r9 h9 => ?_) fun e c dx st3 G3 H3 p3 s3 ea h3 => tX e c dx st3 G3 H3 (b0.po.trans p3) s3 ea h3
  refine hv G9 env st9 σ H9 _ _ er s9 (l.mono p9.le) h9 (fun w2 d2 st10 G10 H10 p10 s10 r10 h10 => ?_) fun e c dx st3 G3 H3 p3 s3 ea h3 => tX e c dx st3 G3 H3 ((b0.po.trans p9).trans p3) s3 ea h3
  obtain ⟨⟨kk, rfl⟩, h10⟩ := h10
  have b10 := (b0.on p9 s9).on p10 s10
  obtain ⟨kvs, e1, e2, e3⟩ := b10.put r10 (by decide) .nil
  cases (r9.mono p10.le) with
  | tup hb rs =>
    have := reps_kD rs
    subst this
    exact ⟨kvs, kk, _, rfl, s10.ex.tup hb, e1, e2, tE _ _ _ _ _ e3.po e3.ss e3.own.res h10⟩
theorem axd_disp {X : Cx} {W : WX} {k : Nat} {pos : Pos} {kx vx : Expr} {ak av : AE} (C : CxE X W k) (hk : AX X W kx ak) (hv : AX X W vx av) : AXD X W (.Dict [some kx] [vx] pos) (fDisp ak av) := by
  obtain ⟨tk, pk, rk⟩ := hk
  obtain ⟨tv, pv, rv⟩ := hv
  exact ⟨_, pe_dispT (by have := u64 C.room; omega) pk pv, refD_disp rk rv⟩
end AM
set_option Elab.async false
set_option linter.all false
set_option maxRecDepth 100000
set_option maxHeartbeats 4000000
namespace AM
open PySem PySem.Spec L2 Evl
/-! ### the lists that a frozen dict's values name are frozen, ahead of a piece -/
inductive FrzD : S → List (D × D) → S → List (D × D) → Prop
  | nil {s : S} {L : List (D × D)} : FrzD s L s L
  | step {s s' : S} {L L' : List (D × D)} {k : D} {l : List D} {j m : Nat} : L[j]? = some (k, .ref m) → s[m]? = some (.lst l) → FrzD (s.set m .dead) (L.set j (k, .lst l)) s' L' → FrzD s L s' L'
def sFrzD (i : Nat) (a : AS) : AS := fun env st k => ∃ L st2 L2, env[i]? = some (.d (.dic L)) ∧ FrzD st L st2 L2 ∧ a (env.set i (.d (.dic L2))) st2 k
theorem RepT.at_ {K : PySem.W.Frag} {G : Gh} : ∀ {L : List (D × D)} {kvs : List (List Key × V)} {j : Nat} {k d : D}, RepT K G L kvs → L[j]? = some (k, d) → ∃ v, Rep K G d v ∧ ∀ {G2 : Gh} {d2 : D}, G.le G2 → Rep K G2 d2 v → RepT K G2 (L.set j (k, d2)) kvs
  | _, _, j, _, _, .nil, h => by cases j <;> cases h
  | _, _, 0, k, d, .cons q r, h => by
    cases h
    exact ⟨_, q, fun le q2 => .cons q2 (r.mono le)⟩
  | _, _, j + 1, k, d, .cons q r, h => by
    obtain ⟨v, q2, f⟩ := RepT.at_ r (show _ = _ from h)
    exact ⟨v, q2, fun le q3 => .cons (q.mono le) (f le q3)⟩
theorem frzD_ok {K : PySem.W.Frag} {st st2 : S} {L L2 : List (D × D)} (f : FrzD st L st2 L2) : ∀ {G : Gh} {H : Hp} {kvs : List (List Key × V)}, SS K G st H → RepT K G L kvs → ∃ G2, Post G H G2 H ∧ SS K G2 st2 H ∧ RepT K G2 L2 kvs := by
  induction f with
  | nil => exact fun {G H kvs} s r => ⟨G, ⟨Gh.le.refl G, fun _ _ e _ => .inl e, fun _ e _ _ => e, fun _ z => .inl z, fun _ k => k, fun _ _ _ _ e => e⟩, s, r⟩
  | step h1 h3 f ih =>
    intro G H kvs s r
    obtain ⟨v, rv, put⟩ := r.at_ h1
    cases rv with
    | ref ep =>
      obtain ⟨vm, gpm, hhm, rm⟩ := s.cell _ _ _ h3 ep
      obtain ⟨s2, p2⟩ := s.freezeCell ep gpm hhm
      obtain ⟨G3, p4, s4, r4⟩ := ih s2 (put p2.le (Rep.lst (K := K) upd_same (rm.mono p2.le)))
      exact ⟨G3, p2.trans p4, s4, r4⟩
theorem axs_frzD {X : Cx} {W : WX} {st : Stmt} {as : AS} (i : Nat) (h : AXS X W st as) : AXS X W st (sFrzD i as) := by
  obtain ⟨t, p, r⟩ := h
  refine ⟨_, p, fun G env st σ H D k s l a t => ?_⟩
  obtain ⟨L, st2, L2, ei, f, a⟩ := a
  obtain ⟨u, eu, ru⟩ := l.slot i _ ei
  cases ru with
  | dicT gp rk =>
    obtain ⟨G2, p2, s2, r2⟩ := frzD_ok f s rk
    refine r G2 _ st2 σ H D k s2 ⟨by rw [List.length_set]; exact l.len, fun j x e => ?_⟩ a (t.on p2)
    rcases get_set e with ⟨rfl, rfl, _⟩ | ⟨hj, e⟩
    · exact ⟨_, eu, .dicT (p2.le.1 _ _ gp) r2⟩
    · exact (l.slot j x e).mono p2.le
end AM
set_option Elab.async false
set_option linter.all false
set_option maxRecDepth 100000
set_option maxHeartbeats 4000000
namespace AM
open PySem PySem.Spec PyProof.Rows L2 Evl
/-! ### f(): a call with nothing passed -/
section
variable {X : Cx} {W : WX} {k j : Nat} {f : Addr} {fd : FuncData} {ps : List Str} {m : AF} {x : Str} {p pos : Pos} {dd : List D} {dvs : List V}
theorem ax_call0 (C : CxE X W k) (F : FnOk X.prog X.w X.K X.mg X.base (L2N.CX X.prog X.w) j f fd ps (SpA X.K m)) (hm : X.mg x = some (.ref f)) (hk : PySem.W.keepIn X.K (.ref f) = true) (hb : BindsD X.K fd ps dvs) (hdd : ∀ G, Reps X.K G dd dvs) (hj : j ≤ k)
    (hg : Gl X x := by rfl) (hdb : (x == ("__debug__" : Str)) = false := by decide) : AX X W (.Call (.Name x p) [] [] pos) (aCall m aNil dd) := by
  obtain ⟨ds, hv, hb⟩ := hb
  have hx : ∀ σ, PassesAt (L2N.CX X.prog X.w) X σ _ := fun σ => L2N.passAt C.takes σ
  refine ⟨_, ⟨fun pins s σ H Q I h => ?_⟩, refE_call refA_nil hdd⟩
  refine wpAny_Call_Name_kw (ld_glob I hg hm ?_ hdb)
  exact PySem.W.callWith_K0 I.kIn hk (run_fnSD F (C.room.mono hj) hb hv (hx σ) I .nil h)
end
end AM
set_option Elab.async false
set_option linter.all false
set_option maxRecDepth 100000
set_option maxHeartbeats 4000000
namespace AM
open PySem PySem.Spec PyProof.Rows L2 Evl
/-! ### texts: str(i), int(text), f-strings, split, in, a walk over the signs, text * int -/
def bStr : ON := fun xs q => ∃ i : Int, xs = [.int i] ∧ i.natAbs.log2 < 1920 ∧ q (.str (toString i))
theorem cb_str {X : Cx} : CB X (.type "str") bStr := ⟨_, call_str_int, fun G st H xs ds Q q s r h t => by
  obtain ⟨i, rfl, hz, h⟩ := h
  cases r with
  | cons r1 r2 => cases r1; cases r2; exact ⟨_, rfl, hz, t.here s (.str _) h⟩⟩
def bIntS : ON := fun xs q => ∃ a n, xs = [.str a] ∧ PySem.intText? a = some n ∧ a.length ≤ 640 ∧ q (.int n)
theorem cb_intS {X : Cx} : CB X (.type "int") bIntS := ⟨_, call_int_str, fun G st H xs ds Q q s r h t => by
  obtain ⟨a, n, rfl, hn, hz, h⟩ := h
  cases r with
  | cons r1 r2 => cases r1; cases r2; exact ⟨_, _, rfl, hn, hz, t.here s (.int _) h⟩⟩
def aFmt (a : AE) : AE := fun env st q er => a env st (fun x s1 => (∃ y, x = .str y ∧ y.length ≤ 100000 ∧ q (.str y) s1) ∨ ∃ i : Int, x = .int i ∧ i.natAbs.log2 < 1920 ∧ q (.str (toString i)) s1) er
def aJs : List AE → Str → AE
  | [], acc => fun _ st q _ => q (.str acc) st
  | a :: as, acc => fun env st q er => a env st (fun x s1 => ∃ y, x = .str y ∧ (acc ++ y).length ≤ 100000 ∧ aJs as (acc ++ y) env s1 q er) er
inductive AXJ (X : Cx) (W : WX) : List Expr → List AE → Prop
  | nil : AXJ X W [] []
  | cons {e : Expr} {a : AE} {es : List Expr} {as : List AE} : AX X W e a → AXJ X W es as → AXJ X W (e :: es) (a :: as)
section
variable {X : Cx} {W : WX} {a b o e : Expr} {ae be ao : AE} {pos apos : Pos}
theorem ax_fmt (h : AX X W e ae) : AX X W (.FormattedValue e (-1) none pos) (aFmt ae) := by
  obtain ⟨t, pe, r⟩ := h
  refine ⟨_, pe_fmt pe, fun G env st σ H Q q er s l h tE tX => r G env st σ H _ _ er s l h (fun v d st1 G1 H1 p1 s1 r1 h1 => ?_) tX⟩
  rcases h1 with ⟨y, rfl, hz, h1⟩ | ⟨i, rfl, hz, h1⟩
  · cases r1
    exact .inl ⟨_, rfl, sz_of hz, tE _ _ st1 G1 H1 p1 s1 (.str _) h1⟩
  · cases r1
    exact .inr ⟨_, rfl, hz, tE _ _ st1 G1 H1 p1 s1 (.str _) h1⟩
theorem axj_run {es : List Expr} {as : List AE} (h : AXJ X W es as) : ∃ ts, PJ X es ts ∧ ∀ acc, RefE X.K W (fun σ H Q => tJs ts acc σ H fun out H1 => Q (.str out) H1) (aJs as acc) := by
  induction h with
  | nil => exact ⟨[], .nil, fun acc G env st σ H Q q er s l h tE tX => tE _ _ st G H Post.refl s (.str _) h⟩
  | cons h _ ih =>
    obtain ⟨t, pe, r⟩ := h
    obtain ⟨ts, pj, ih⟩ := ih
    refine ⟨t :: ts, .cons pe pj, fun acc G env st σ H Q q er s l h tE tX => ?_⟩
    refine r G env st σ H _ _ er s l h (fun v d st1 G1 H1 p1 s1 r1 h1 => ?_) tX
    obtain ⟨y, rfl, hz, h1⟩ := h1
    cases r1
    exact ⟨_, rfl, sz_of hz, ih _ G1 env st1 σ H1 Q q er s1 (l.mono p1.le) h1 (tE.on p1) (tX.on p1)⟩
theorem ax_joined {v1 v2 : Expr} {rest : List Expr} {as : List AE} (h : AXJ X W (v1 :: v2 :: rest) as) : AX X W (.JoinedStr (v1 :: v2 :: rest) pos) (aJs as Str.empty) := by
  obtain ⟨ts, pj, r⟩ := axj_run h
  exact ⟨_, pe_joined pj, r _⟩
def fSplit (a b : AE) : AFr := fun env st q er => a env st (fun x s1 => ∃ u, x = .str u ∧ b env s1 (fun y s2 => ∃ v, y = .str v ∧ (v.length == 0) = false ∧ u.length ≤ 100000 ∧ q ((Txt.split u v).map D.str) s2) er) er
theorem reps_strs {K : PySem.W.Frag} {G : Gh} : ∀ l : List Str, Reps K G (l.map D.str) (l.map V.str)
  | [] => .nil
  | _ :: l => .cons (.str _) (reps_strs l)
theorem axf_split (h : AX X W o ao) (h' : AX X W e ae) (hs : starEach [e] X.env = [(false, eval e X.env)] := by rfl) (hbase : attributeBase o "split" X.env (eval o X.env) = eval o X.env := by rfl) (hline : (apos.endLine == pos.line) = true := by rfl) : AXF X W (.Call (.Attribute o "split" apos) [e] [] pos) (fSplit ao ae) := by
  obtain ⟨t, pe, r⟩ := h
  obtain ⟨t', pe', r'⟩ := h'
  refine ⟨_, pe_split pe pe' hs hbase hline, fun G env st σ H Q q er s l h tE tX => r G env st σ H _ _ er s l h (fun v d st1 G1 H1 p1 s1 r1 h1 => ?_) tX⟩
  obtain ⟨u, rfl, h1⟩ := h1
  cases r1
  refine ⟨⟨_, rfl⟩, r' G1 env st1 σ H1 _ _ er s1 (l.mono p1.le) h1 (fun w d2 st2 G2 H2 p2 s2 r2 h2 => ?_) (tX.on p1)⟩
  obtain ⟨z, rfl, hz, hl, h2⟩ := h2
  cases r2
  refine ⟨_, _, rfl, rfl, hz, Nat.le_trans (Nat.add_le_add_right hl 2) (by rw [sizeLine_eq]; decide), fun p hp => ?_⟩
  obtain ⟨s3, p3, np, gp⟩ := s2.room (o := .lst ((Txt.split u z).map V.str)) hp
  exact tE _ _ st2 _ _ ((p1.trans p2).trans p3) s3 (ResOk.on (p1.trans p2) ⟨p, _, rfl, upd_same, gp, np, hp, reps_strs _⟩) h2
def aIterS (a : AE) : AI := fun env st q er => a env st (fun d s1 => ∃ x : Str, d = .str x ∧ q (x.cps.toList.map fun c => .str ⟨#[c]⟩) [] s1) er
theorem axi_str {tg : Expr} (h : AX X W e ae) : AXI X W tg e (aIterS ae) := by
  obtain ⟨t, p, r⟩ := h
  refine ⟨_, pi_str p, fun G env st σ H R q er s sl a t tX => r G env st σ H _ _ er s sl a (fun v d st2 G2 H2 p2 s2 r2 ⟨x, el, h2⟩ => ?_) tX⟩
  subst el
  cases r2
  refine ⟨_, rfl, t _ _ _ st2 G2 H2 p2 s2 ⟨fun i G st H w s g e => ?_, fun i G st H w s g e => ?_, fun i G st H d x' H' w s g e y => ?_⟩ h2⟩
  · show x.cps.size ≤ i
    rw [← e, List.length_map]
    exact Nat.le_of_eq (Array.length_toList).symm
  · show i < x.cps.size
    rw [List.length_map, Array.length_toList] at e
    exact e
  · obtain ⟨e1, c, hc, e2⟩ := y
    rw [List.getElem?_map, Array.getElem?_toList, hc] at e
    cases e
    subst e2
    exact ⟨G, e1 ▸ Post.refl, e1 ▸ s, .str _⟩
def oInSg : O2 := fun x y q => ∃ (c : Nat) (z : Str), x = .str ⟨#[c]⟩ ∧ y = .str z ∧ q (.bl (decide (c ∈ z.cps.toList)))
theorem op_InSg : OpR X (compareOp .In) (fun x y H Q => ∃ (c : Nat) (z : Str), x = .str ⟨#[c]⟩ ∧ y = .str z ∧ Q (.bl (decide (c ∈ z.cps.toList))) H) ∧ RefO X.K (fun x y H Q => ∃ (c : Nat) (z : Str), x = .str ⟨#[c]⟩ ∧ y = .str z ∧ Q (.bl (decide (c ∈ z.cps.toList))) H) oInSg := ⟨op_in_sign, fun G st H x y dx dy Q q s rx ry h t => by
  obtain ⟨c, z, rfl, rfl, h⟩ := h
  cases rx
  cases ry
  exact ⟨_, _, rfl, rfl, t.here s (.bl _) h⟩⟩
theorem fold_size (x : Array Nat) : ∀ (n : Nat) (acc : Array Nat), ((List.replicate n x).foldl (· ++ ·) acc).size = acc.size + n * x.size
  | 0, acc => by simp
  | n + 1, acc => by
    rw [List.replicate_succ, List.foldl_cons, fold_size x n, Array.size_append, Nat.add_mul]
    omega
def mulS (x : Str) (n : Int) : Str := if n < 1 then Str.empty else if (n == 1 || x.length == 0) = true then x else ⟨(List.replicate n.toNat x.cps).foldl (· ++ ·) #[]⟩
def rMulS : V → V → Hp → VK → Prop := fun x y H Q => ∃ a n, x = .str a ∧ y = .int n ∧ 0 ≤ n ∧ n ≤ 100000 ∧ a.length ≤ 100 ∧ Q (.str (mulS a n)) H
def oMulS : O2 := fun x y q => ∃ a n, x = .str a ∧ y = .int n ∧ 0 ≤ n ∧ n ≤ 100000 ∧ a.length ≤ 100 ∧ q (.str (mulS a n))
theorem mulS_len {x : Str} {n : Int} (h0 : 0 ≤ n) (h1 : n ≤ 100000) (h2 : x.length ≤ 100) : (mulS x n).length ≤ 100 * n.toNat := by
  unfold mulS
  split
  · exact Nat.zero_le _
  · split
    · have : 1 ≤ n.toNat := by omega
      omega
    · show ((List.replicate n.toNat x.cps).foldl (· ++ ·) #[]).size ≤ _
      rw [fold_size]
      have e2 : x.length = x.cps.size := rfl
      have h4 : n.toNat * x.cps.size ≤ n.toNat * 100 := Nat.mul_le_mul_left _ (by omega)
      simp only [List.size_toArray, List.length_nil]
      omega
theorem op_mulS : OpR X (binaryOp .Mult) rMulS := by
  intro pins s σ H x y v u Q I rx ry h
  obtain ⟨a, n, rfl, rfl, h0, h1, h2, q⟩ := h
  obtain ⟨t, rfl⟩ := rx
  obtain ⟨t', rfl⟩ := ry
  refine PySem.P.mul_str ?_ (fun _ _ => ?_) (fun _ _ => ?_) ?_
  · rw [decide_eq_false (by omega), decide_eq_false (by omega)]; rfl
  · have h4 : (100 : Int) ≤ (2 ^ 63 - 1) / n := Int.le_ediv_of_mul_le (by omega) (by omega)
    omega
  · have h4 : a.length * n.toNat ≤ 100 * 100000 := Nat.mul_le_mul h2 (by omega)
    exact decide_eq_false (by show ¬ (_ > sizeLine); rw [sizeLine_eq]; omega)
  · have q' : EP X pins σ Q (.str (mulS a n) s.toks) { s with toks := s.toks + 1 } := ⟨.str _, H, I.tok _, ⟨_, rfl⟩, q⟩
    have q2 : EP X pins σ Q (.str (mulS a n) t) s := ⟨.str _, H, I, ⟨_, rfl⟩, q⟩
    unfold mulS at q' q2
    split
    · rename_i h
      rw [if_pos h] at q'
      exact ⟨by decide, q'⟩
    · rename_i h
      rw [if_neg h] at q' q2
      split
      · rename_i g
        rw [if_pos g] at q2
        exact q2
      · rename_i g
        rw [if_neg g] at q'
        have h4 : n.toNat * a.length ≤ 100000 * 100 := Nat.mul_le_mul (by omega) h2
        refine ⟨?_, q'⟩
        have e := fold_size a.cps n.toNat #[]
        have e2 : a.length = a.cps.size := rfl
        show _ ≤ sizeLine
        rw [sizeLine_eq]
        show ((List.replicate n.toNat a.cps).foldl (· ++ ·) #[]).size ≤ _
        rw [e, ← e2]
        simp only [List.size_toArray, List.length_nil]
        omega
theorem op_MulS : OpR X (binaryOp .Mult) rMulS ∧ RefO X.K rMulS oMulS := ⟨op_mulS, fun G st H x y dx dy Q q s rx ry h t => by
  obtain ⟨c, z, rfl, rfl, h0, h1, h2, h⟩ := h
  cases rx
  cases ry
  exact ⟨_, _, rfl, rfl, h0, h1, h2, t.here s (.str _) h⟩⟩
end
end AM
set_option Elab.async false
set_option linter.all false
set_option maxRecDepth 100000
set_option maxHeartbeats 4000000
namespace AM
open PySem L2
/-! ### the readings, as they run (each applied in full, from the outside) -/
section
variable {env : List A} {st : S} {q : D → S → Prop} {qt : Bool → S → Prop} {ql : List D → S → Prop} {er : QX} {k : AK} {a b c : AE} {as : AEs} {s u : AS} {t v : AT} {g : AG} {gs : AGs} {f f2 : O2} {i j : Nat} {d : D} {x y : D} {xs : List D} {it it1 : AI} {qi : List D → Gd → S → Prop} {af bf : AFr} {z : List A → Prop} {o : O1} {fn : ON} {vs vs1 : List Nat} {gd : Gd} {g1 : AG} {t1 : AT} {m : AF} {dd : List D} {ix : List Nat}
end
def bq (x : D) (p : Bool → Prop) : Prop := ∃ c, x = .bl c ∧ p c
def tsQ (q : Bool → S → Prop) (x : D) (s : S) : Prop := ∃ b, x = .bl b ∧ q b s
def trQ (q : Bool → S → Prop) (x : D) (s : S) : Prop := ∃ b, truthD (vw s x) = some b ∧ q b s
def rsQ (q : D → S → Prop) (r : Rs) (s : S) : Prop := match r with
  | .d d => q d s
  | .own l => q (.lst l) s
  | .ownD l => q (.dic l) s
def rsG (q : List (D × D) → S → Prop) (r : Rs) (s : S) : Prop := match r with
  | .ownD l => q l s
  | _ => False
def rsF (q : List D → S → Prop) (r : Rs) (s : S) : Prop := match r with
  | .own l => q l s
  | _ => False
def parQ (i j : Nat) (env : List A) (k : AK) (ds : List D) (s1 : S) : Prop := match ds with
  | [x, y] => k.nx ((env.set i (.d x)).set j (.d y)) s1
  | _ => False
def rngQ (q : List D → Gd → S → Prop) (d : D) (s1 : S) : Prop := match d with
  | .int j => (-(2 ^ 62) ≤ j ∧ j < 2 ^ 62) ∧ q ((List.range j.toNat).map fun (i : Nat) => D.int (i : Int)) [] s1
  | _ => False
def rngQ2 (q : List D → Gd → S → Prop) (d d2 : D) (s2 : S) : Prop := match d, d2 with
  | .int i, .int j => (-(2 ^ 62) ≤ i ∧ i < 2 ^ 62 ∧ -(2 ^ 62) ≤ j ∧ j < 2 ^ 62) ∧ q ((List.range (j - i).toNat).map fun (n : Nat) => D.int (i + (n : Int))) [] s2
  | _, _ => False
def setQ (env : List A) (k : AK) (d x j : D) (s3 : S) : Prop := match x, j with
  | .ref n, .int i => ∃ l j, s3[n]? = some (.lst l) ∧ ixN l.length i = some j ∧ k.nx env (s3.set n (.lst (l.set j d)))
  | _, _ => False
section
variable {env : List A} {st : S} {q : D → S → Prop} {qt : Bool → S → Prop} {ql : List D → S → Prop} {er : QX} {k : AK} {a b c : AE} {as : AEs} {s u : AS} {t v : AT} {g : AG} {gs : AGs} {f f2 : O2} {i j : Nat} {d : D} {x y : D} {xs : List D} {it it1 : AI} {qi : List D → Gd → S → Prop} {af bf : AFr} {z : List A → Prop} {o : O1} {fn : ON} {vs vs1 : List Nat} {gd : Gd} {g1 : AG} {t1 : AT} {m : AF} {dd : List D} {ix : List Nat}
@[simp] theorem bq_bl {h : Bool} {p : Bool → Prop} : bq (.bl h) p = p h := propext ⟨fun ⟨_, e, w⟩ => by cases e; exact w, fun w => ⟨_, rfl, w⟩⟩
@[simp] theorem tsQ_bl {h : Bool} : tsQ qt (.bl h) st = qt h st := propext ⟨fun ⟨_, e, w⟩ => by cases e; exact w, fun w => ⟨_, rfl, w⟩⟩
theorem trQ_of {h : Bool} (e : truthD (vw st x) = some h) : trQ qt x st = qt h st := propext ⟨fun ⟨_, e2, w⟩ => by rw [e] at e2; cases e2; exact w, fun w => ⟨_, e, w⟩⟩
@[simp] theorem trQ_bl {h : Bool} : trQ qt (.bl h) st = qt h st := trQ_of rfl
@[simp] theorem trQ_int {h : Int} : trQ qt (.int h) st = qt (h != 0) st := trQ_of rfl
@[simp] theorem trQ_non : trQ qt .non st = qt false st := trQ_of rfl
@[simp] theorem trQ_lst {l : List D} : trQ qt (.lst l) st = qt (!l.isEmpty) st := trQ_of rfl
@[simp] theorem trQ_tup {l : List D} : trQ qt (.tup l) st = qt (!l.isEmpty) st := trQ_of rfl
theorem trQ_ref {n : Nat} {l : List D} (e : st[n]? = some (.lst l)) : trQ qt (.ref n) st = qt (!l.isEmpty) st := trQ_of (by unfold vw; simp only [e]; rfl)
@[simp] theorem rsQ_d : rsQ q (.d x) st = q x st := propext Iff.rfl
@[simp] theorem rsQ_own : rsQ q (.own xs) st = q (.lst xs) st := propext Iff.rfl
@[simp] theorem rsF_own : rsF ql (.own xs) st = ql xs st := propext Iff.rfl
@[simp] theorem rsQ_ownD {xs : List (D × D)} : rsQ q (.ownD xs) st = q (.dic xs) st := propext Iff.rfl
@[simp] theorem rsG_ownD {xs : List (D × D)} {qd : List (D × D) → S → Prop} : rsG qd (.ownD xs) st = qd xs st := propext Iff.rfl
@[simp ↓] theorem ev_fdCall {qd : List (D × D) → S → Prop} : fdCall m as dd env st qd er = as env st (fun ds s1 => m (ds ++ dd) s1 (rsG qd) er) er := propext Iff.rfl
@[simp] theorem parQ_2 : parQ i j env k [x, y] st = k.nx ((env.set i (.d x)).set j (.d y)) st := propext Iff.rfl
@[simp] theorem rngQ_int {n : Int} : rngQ qi (.int n) st = ((-(2 ^ 62) ≤ n ∧ n < 2 ^ 62) ∧ qi ((List.range n.toNat).map fun (i : Nat) => D.int (i : Int)) [] st) := propext Iff.rfl
@[simp] theorem rngQ2_int {n h : Int} : rngQ2 qi (.int n) (.int h) st = ((-(2 ^ 62) ≤ n ∧ n < 2 ^ 62 ∧ -(2 ^ 62) ≤ h ∧ h < 2 ^ 62) ∧ qi ((List.range (h - n).toNat).map fun (i : Nat) => D.int (n + (i : Int))) [] st) := propext Iff.rfl
@[simp] theorem setQ_int {n : Nat} {h : Int} : setQ env k d (.ref n) (.int h) st = ∃ l j, st[n]? = some (.lst l) ∧ ixN l.length h = some j ∧ k.nx env (st.set n (.lst (l.set j d))) := propext Iff.rfl
@[simp ↓] theorem ev_aC  : aC d env st q er = q d st := propext Iff.rfl
@[simp ↓] theorem ev_aVar  : env[i]? = some (.d x) → aVar i env st q er = q x st := by intro h; unfold aVar; rw [h]
@[simp ↓] theorem ev_aOp  : aOp f a b env st q er = a env st (fun x s1 => b env s1 (fun y s2 => f (vw s2 x) (vw s2 y) fun z => q z s2) er) er := propext Iff.rfl
@[simp ↓] theorem ev_aChain  : aChain f f2 a b c env st q er = a env st (fun x s1 => b env s1 (fun y s2 => f (vw s2 x) (vw s2 y) fun z => bq z fun k => if k = true then c env s2 (fun w s3 => f2 (vw s3 y) (vw s3 w) fun z => q z s3) er else q (.bl false) s2) er) er := propext Iff.rfl
@[simp ↓] theorem ev_aUn  : aUn o a env st q er = a env st (fun x s1 => o (vw s1 x) fun z => q z s1) er := propext Iff.rfl
@[simp ↓] theorem ev_aIf  : aIf t a b env st q er = t env st (fun c s1 => if c = true then a env s1 q er else b env s1 q er) er := propext Iff.rfl
@[simp ↓] theorem ev_aTest  : aTest a env st qt er = a env st (tsQ qt) er := propext Iff.rfl
@[simp ↓] theorem ev_aTruth  : aTruth a env st qt er = a env st (trQ qt) er := propext Iff.rfl
@[simp ↓] theorem ev_aAnd  : aAnd t v env st qt er = t env st (fun c s1 => if c = true then v env s1 qt er else qt false s1) er := propext Iff.rfl
@[simp ↓] theorem ev_aOr  : aOr t v env st qt er = t env st (fun c s1 => if c = true then qt true s1 else v env s1 qt er) er := propext Iff.rfl
@[simp ↓] theorem ev_aNot  : aNot t env st qt er = t env st (fun c s1 => qt (!c) s1) er := propext Iff.rfl
@[simp ↓] theorem ev_aYes  : aYes env st qt er = qt true st := propext Iff.rfl
@[simp ↓] theorem ev_aAndV  : aAndV a b env st q er = a env st (fun x s1 => bq x fun c => if c = true then b env s1 q er else q (.bl false) s1) er := propext Iff.rfl
@[simp ↓] theorem ev_aOrV  : aOrV a b env st q er = a env st (fun x s1 => bq x fun c => if c = true then q (.bl true) s1 else b env s1 q er) er := propext Iff.rfl
@[simp ↓] theorem ev_aNotV  : aNotV a env st q er = a env st (fun x s1 => bq x fun c => q (.bl (!c)) s1) er := propext Iff.rfl
@[simp ↓] theorem ev_aNil  : aNil env st ql er = ql [] st := propext Iff.rfl
@[simp ↓] theorem ev_aCons  : aCons a as env st ql er = a env st (fun x s1 => as env s1 (fun xs s2 => ql (x :: xs) s2) er) er := propext Iff.rfl
@[simp ↓] theorem ev_aLst  : aLst as env st q er = as env st (fun xs s1 => xs.length ≤ 100000 ∧ q (.lst xs) s1) er := propext Iff.rfl
@[simp ↓] theorem ev_aTup  : aTup as env st q er = as env st (fun xs s1 => xs.length ≤ 100000 ∧ q (.tup xs) s1) er := propext Iff.rfl
@[simp ↓] theorem ev_aB  : aB fn as env st q er = as env st (fun xs s1 => fn (xs.map (vw s1)) fun z => q z s1) er := propext Iff.rfl
@[simp ↓] theorem ev_aFr  : aFr af env st q er = af env st (fun l s1 => q (.lst l) s1) er := propext Iff.rfl
@[simp ↓] theorem ev_aCall  : aCall m as dd env st q er = as env st (fun ds s1 => m (ds ++ dd) s1 (rsQ q) er) er := propext Iff.rfl
@[simp ↓] theorem ev_fCall  : fCall m as dd env st ql er = as env st (fun ds s1 => m (ds ++ dd) s1 (rsF ql) er) er := propext Iff.rfl
@[simp ↓] theorem ev_aCallK  : aCallK i m ix as env st q er = as env st (fun ds s1 => ds.length = i ∧ m (pick ix ds) s1 (rsQ q) er) er := propext Iff.rfl
@[simp ↓] theorem ev_fLc  : fLc it g t a vs env st ql er = it env st (fun ds gd s1 => aLcL gd g t a (wA vs env) ql ds [] s1) er := propext Iff.rfl
@[simp ↓] theorem ev_fLc2  : fLc2 it g t it1 g1 t1 a vs vs1 env st ql er = it env st (fun ds gd s1 => aLc2L gd g t it1 g1 t1 a vs1 (wA vs env) ql ds [] s1) er := propext Iff.rfl
@[simp ↓] theorem ev_fLst  : fLst as env st ql er = as env st (fun xs s1 => xs.length ≤ 100000 ∧ ql xs s1) er := propext Iff.rfl
@[simp ↓] theorem ev_fList  : fList a env st ql er = a env st (fun d s1 => ∃ l, itemsD (vw s1 d) = some l ∧ ql l s1) er := propext Iff.rfl
@[simp ↓] theorem ev_fIf  : fIf t af bf env st ql er = t env st (fun c s1 => if c = true then af env s1 ql er else bf env s1 ql er) er := propext Iff.rfl
@[simp ↓] theorem ev_agName  : agName i d env st z = z (env.set i (.d d)) := propext Iff.rfl
@[simp ↓] theorem ev_agNil  : agNil xs env st z = (xs = [] ∧ z env) := propext Iff.rfl
@[simp ↓] theorem ev_agCons  : agCons g gs (d :: xs) env st z = g d env st fun env2 => gs xs env2 st z := propext Iff.rfl
@[simp ↓] theorem ev_agTup  : agTup i gs (.tup xs) env st z = (xs.length = i ∧ gs xs env st z) := propext Iff.rfl
@[simp ↓] theorem ev_sNext  : sNext env st k = k.nx env st := propext Iff.rfl
@[simp ↓] theorem ev_sSeq  : sSeq s u env st k = s env st { k with nx := fun env2 st2 => u env2 st2 k } := propext Iff.rfl
@[simp ↓] theorem ev_sBreak  : sBreak env st k = k.bk env st := propext Iff.rfl
@[simp ↓] theorem ev_sCont  : sCont env st k = k.ct env st := propext Iff.rfl
@[simp ↓] theorem ev_sDrop  : sDrop a env st k = a env st (fun _ s1 => k.nx env s1) (fun e s1 => k.er e env s1) := propext Iff.rfl
@[simp ↓] theorem ev_sRet  : sRet a env st k = a env st (fun d s1 => k.rt (.d d) s1) (fun e s1 => k.er e env s1) := propext Iff.rfl
@[simp ↓] theorem ev_sRetN  : sRetN env st k = k.rt (.d .non) st := propext Iff.rfl
@[simp ↓] theorem ev_sRetF  : sRetF af env st k = af env st (fun l s1 => k.rt (.own l) s1) (fun e s1 => k.er e env s1) := propext Iff.rfl
@[simp ↓] theorem ev_sIf  : sIf t s u env st k = t env st (fun c s1 => if c = true then s env s1 k else u env s1 k) (fun e s1 => k.er e env s1) := propext Iff.rfl
@[simp ↓] theorem ev_sAsg  : sAsg a g env st k = a env st (fun d s1 => g d env s1 fun env2 => k.nx env2 s1) (fun e s1 => k.er e env s1) := propext Iff.rfl
@[simp ↓] theorem ev_sCell  : sCell af i env st k = af env st (fun l s1 => k.nx (env.set i (.d (.ref s1.length))) (s1 ++ [.lst l])) (fun e s1 => k.er e env s1) := propext Iff.rfl
@[simp ↓] theorem ev_sPar  : sPar i j as env st k = as env st (parQ i j env k) (fun e s1 => k.er e env s1) := propext Iff.rfl
@[simp ↓] theorem ev_sAug  : sAug i f a env st k = ∃ x, env[i]? = some (.d x) ∧ a env st (fun y s1 => f (vw s1 x) (vw s1 y) fun z => k.nx (env.set i (.d z)) s1) (fun e s1 => k.er e env s1) := propext Iff.rfl
@[simp ↓] theorem ev_sFor  : sFor it g s env st k = it env st (fun ds gd s1 => sForL gd g s ds env s1 k) (fun e s1 => k.er e env s1) := propext Iff.rfl
@[simp ↓] theorem ev_aIter  : aIter a env st qi er = a env st (fun d s1 => ∃ l, itemsD (vw s1 d) = some l ∧ qi l (gdOf s1 d) s1) er := propext Iff.rfl
@[simp ↓] theorem ev_aRng1  : aRng1 a env st qi er = a env st (rngQ qi) er := propext Iff.rfl
@[simp ↓] theorem ev_aRng2  : aRng2 a b env st qi er = a env st (fun d s1 => b env s1 (rngQ2 qi d) er) er := propext Iff.rfl
@[simp ↓] theorem ev_aApp  : aApp a b env st q er = a env st (fun x s1 => ∃ n l, x = .ref n ∧ s1[n]? = some (.lst l) ∧ b env s1 (fun y s2 => ∃ l, s2[n]? = some (.lst l) ∧ l.length < 100000 ∧ q .non (s2.set n (.lst (l ++ [y])))) er) er := propext Iff.rfl
@[simp ↓] theorem ev_sSetIx  : sSetIx b c a env st k = a env st (fun d s1 => b env s1 (fun x s2 => c env s2 (setQ env k d x) (fun e s => k.er e env s)) (fun e s => k.er e env s)) (fun e s => k.er e env s) := propext Iff.rfl
@[simp ↓] theorem ev_sFrz  : sFrz i s env st k = ∃ n l, env[i]? = some (.d (.ref n)) ∧ st[n]? = some (.lst l) ∧ s (env.set i (.d (.lst l))) (st.set n .dead) k := propext Iff.rfl
@[simp ↓] theorem ev_sForget  : sForget i s env st k = s (env.set i .no) st k := propext Iff.rfl
@[simp ↓] theorem ev_sRaise0 {c : Str} : sRaise0 c env st k = k.er ⟨c, none⟩ env st := propext Iff.rfl
@[simp ↓] theorem ev_sRaise1 {c h : Str} : sRaise1 c h a env st k = a env st (fun d s1 => k.er ⟨c, some (h, d)⟩ env s1) (fun e s1 => k.er e env s1) := propext Iff.rfl
@[simp ↓] theorem ev_oI {i j : Int} {q : D → Prop} {gg : Int → Int → D} : oI gg (.int i) (.int j) q = q (gg i j) := propext Iff.rfl
@[simp ↓] theorem ev_oIC {i j : Int} {q : D → Prop} {cc : Int → Int → Prop} {gg : Int → Int → D} : oIC cc gg (.int i) (.int j) q = (cc i j ∧ q (gg i j)) := propext Iff.rfl
@[simp ↓] theorem ev_oNeg {i : Int} {q : D → Prop}  : oNeg (.int i) q = q (.int (-i)) := propext Iff.rfl
@[simp ↓] theorem ev_oAddI {i j : Int} {q : D → Prop}  : oAdd (.int i) (.int j) q = q (.int (i + j)) := propext Iff.rfl
@[simp ↓] theorem ev_oAddL {l r : List D} {q : D → Prop}  : oAdd (.lst l) (.lst r) q = (l.length + r.length ≤ 100000 ∧ q (.lst (l ++ r))) := propext Iff.rfl
@[simp ↓] theorem ev_oAddT {l r : List D} {q : D → Prop}  : oAdd (.tup l) (.tup r) q = (l.length + r.length ≤ 100000 ∧ q (.tup (l ++ r))) := propext Iff.rfl
@[simp ↓] theorem ev_oIxL {l : List D} {i : Int} {q : D → Prop}  : oIx (.lst l) (.int i) q = ∃ d, atI l i = some d ∧ q d := propext Iff.rfl
@[simp ↓] theorem ev_oIxT {l : List D} {i : Int} {q : D → Prop}  : oIx (.tup l) (.int i) q = ∃ d, atI l i = some d ∧ q d := propext Iff.rfl
@[simp ↓] theorem ev_bInt {i : Int} {q : D → Prop}  : bInt [.int i] q = q (.int i) := propext Iff.rfl
@[simp ↓] theorem ev_bIntB {i : Bool} {q : D → Prop}  : bInt [.bl i] q = q (.int (if i then 1 else 0)) := propext Iff.rfl
@[simp ↓] theorem ev_bAbs {i : Int} {q : D → Prop}  : bAbs [.int i] q = q (.int (if i < 0 then -i else i)) := propext Iff.rfl
@[simp ↓] theorem ev_bMax2 {i j : Int} {q : D → Prop}  : bMax2 [.int i, .int j] q = q (.int (if j > i then j else i)) := propext Iff.rfl
@[simp ↓] theorem ev_bMin2 {i j : Int} {q : D → Prop}  : bMin2 [.int i, .int j] q = q (.int (if j < i then j else i)) := propext Iff.rfl
@[simp ↓] theorem ev_bLen {q : D → Prop}  : bLen [x] q = ∃ n, lenD x = some n ∧ q (.int n) := propext Iff.rfl
@[simp ↓] theorem ev_bList {q : D → Prop}  : bList [x] q = ∃ l, itemsD x = some l ∧ q (.lst l) := propext Iff.rfl
@[simp ↓] theorem ev_bTuple {q : D → Prop}  : bTuple [x] q = ∃ l, itemsD x = some l ∧ q (.tup l) := propext Iff.rfl
@[simp ↓] theorem ev_oEqI {i j : Int} {q : D → Prop} : oEq (.int i) (.int j) q = q (.bl (i == j)) := by
  unfold oEq D.shp
  simp [D.plain, D.dep, D.eqv]
@[simp ↓] theorem ev_oNeI {i j : Int} {q : D → Prop} : oNe (.int i) (.int j) q = q (.bl (!(i == j))) := by
  unfold oNe D.shp
  simp [D.plain, D.dep, D.eqv]
@[simp ↓] theorem isi_non_int  {q : D → Prop} : bIsi [.non, .ty "int"] q = q (.bl false) := propext ⟨fun ⟨_, _, e1, e2, w⟩ => by cases e1; rw [show kitB "NoneType" "int" = some false from by decide +kernel] at e2; cases e2; exact w, fun w => ⟨_, _, rfl, by decide +kernel, w⟩⟩
@[simp ↓] theorem isi_non_bool  {q : D → Prop} : bIsi [.non, .ty "bool"] q = q (.bl false) := propext ⟨fun ⟨_, _, e1, e2, w⟩ => by cases e1; rw [show kitB "NoneType" "bool" = some false from by decide +kernel] at e2; cases e2; exact w, fun w => ⟨_, _, rfl, by decide +kernel, w⟩⟩
@[simp ↓] theorem isi_non_list  {q : D → Prop} : bIsi [.non, .ty "list"] q = q (.bl false) := propext ⟨fun ⟨_, _, e1, e2, w⟩ => by cases e1; rw [show kitB "NoneType" "list" = some false from by decide +kernel] at e2; cases e2; exact w, fun w => ⟨_, _, rfl, by decide +kernel, w⟩⟩
@[simp ↓] theorem isi_non_tuple  {q : D → Prop} : bIsi [.non, .ty "tuple"] q = q (.bl false) := propext ⟨fun ⟨_, _, e1, e2, w⟩ => by cases e1; rw [show kitB "NoneType" "tuple" = some false from by decide +kernel] at e2; cases e2; exact w, fun w => ⟨_, _, rfl, by decide +kernel, w⟩⟩
@[simp ↓] theorem isi_non_dict  {q : D → Prop} : bIsi [.non, .ty "dict"] q = q (.bl false) := propext ⟨fun ⟨_, _, e1, e2, w⟩ => by cases e1; rw [show kitB "NoneType" "dict" = some false from by decide +kernel] at e2; cases e2; exact w, fun w => ⟨_, _, rfl, by decide +kernel, w⟩⟩
@[simp ↓] theorem isi_non_str  {q : D → Prop} : bIsi [.non, .ty "str"] q = q (.bl false) := propext ⟨fun ⟨_, _, e1, e2, w⟩ => by cases e1; rw [show kitB "NoneType" "str" = some false from by decide +kernel] at e2; cases e2; exact w, fun w => ⟨_, _, rfl, by decide +kernel, w⟩⟩
@[simp ↓] theorem isi_non_lt  {q : D → Prop} : bIsi [.non, .tup [.ty "list", .ty "tuple"]] q = q (.bl false) := propext ⟨fun ⟨_, cs, _, e1, e2, e3, w⟩ => by
  cases e1
  match cs, e2 with
  | [_, _], e2 =>
    cases e2
    rw [show kitS "NoneType" ["list", "tuple"] = some false from by decide +kernel] at e3; cases e3; exact w, fun w => ⟨_, ["list", "tuple"], _, rfl, rfl, by decide +kernel, w⟩⟩
@[simp ↓] theorem isi_bl_int {h : Bool} {q : D → Prop} : bIsi [.bl h, .ty "int"] q = q (.bl true) := propext ⟨fun ⟨_, _, e1, e2, w⟩ => by cases e1; rw [show kitB "bool" "int" = some true from by decide +kernel] at e2; cases e2; exact w, fun w => ⟨_, _, rfl, by decide +kernel, w⟩⟩
@[simp ↓] theorem isi_bl_bool {h : Bool} {q : D → Prop} : bIsi [.bl h, .ty "bool"] q = q (.bl true) := propext ⟨fun ⟨_, _, e1, e2, w⟩ => by cases e1; rw [show kitB "bool" "bool" = some true from by decide +kernel] at e2; cases e2; exact w, fun w => ⟨_, _, rfl, by decide +kernel, w⟩⟩
@[simp ↓] theorem isi_bl_list {h : Bool} {q : D → Prop} : bIsi [.bl h, .ty "list"] q = q (.bl false) := propext ⟨fun ⟨_, _, e1, e2, w⟩ => by cases e1; rw [show kitB "bool" "list" = some false from by decide +kernel] at e2; cases e2; exact w, fun w => ⟨_, _, rfl, by decide +kernel, w⟩⟩
@[simp ↓] theorem isi_bl_tuple {h : Bool} {q : D → Prop} : bIsi [.bl h, .ty "tuple"] q = q (.bl false) := propext ⟨fun ⟨_, _, e1, e2, w⟩ => by cases e1; rw [show kitB "bool" "tuple" = some false from by decide +kernel] at e2; cases e2; exact w, fun w => ⟨_, _, rfl, by decide +kernel, w⟩⟩
@[simp ↓] theorem isi_bl_dict {h : Bool} {q : D → Prop} : bIsi [.bl h, .ty "dict"] q = q (.bl false) := propext ⟨fun ⟨_, _, e1, e2, w⟩ => by cases e1; rw [show kitB "bool" "dict" = some false from by decide +kernel] at e2; cases e2; exact w, fun w => ⟨_, _, rfl, by decide +kernel, w⟩⟩
@[simp ↓] theorem isi_bl_str {h : Bool} {q : D → Prop} : bIsi [.bl h, .ty "str"] q = q (.bl false) := propext ⟨fun ⟨_, _, e1, e2, w⟩ => by cases e1; rw [show kitB "bool" "str" = some false from by decide +kernel] at e2; cases e2; exact w, fun w => ⟨_, _, rfl, by decide +kernel, w⟩⟩
@[simp ↓] theorem isi_bl_lt {h : Bool} {q : D → Prop} : bIsi [.bl h, .tup [.ty "list", .ty "tuple"]] q = q (.bl false) := propext ⟨fun ⟨_, cs, _, e1, e2, e3, w⟩ => by
  cases e1
  match cs, e2 with
  | [_, _], e2 =>
    cases e2
    rw [show kitS "bool" ["list", "tuple"] = some false from by decide +kernel] at e3; cases e3; exact w, fun w => ⟨_, ["list", "tuple"], _, rfl, rfl, by decide +kernel, w⟩⟩
@[simp ↓] theorem isi_int_int {h : Int} {q : D → Prop} : bIsi [.int h, .ty "int"] q = q (.bl true) := propext ⟨fun ⟨_, _, e1, e2, w⟩ => by cases e1; rw [show kitB "int" "int" = some true from by decide +kernel] at e2; cases e2; exact w, fun w => ⟨_, _, rfl, by decide +kernel, w⟩⟩
@[simp ↓] theorem isi_int_bool {h : Int} {q : D → Prop} : bIsi [.int h, .ty "bool"] q = q (.bl false) := propext ⟨fun ⟨_, _, e1, e2, w⟩ => by cases e1; rw [show kitB "int" "bool" = some false from by decide +kernel] at e2; cases e2; exact w, fun w => ⟨_, _, rfl, by decide +kernel, w⟩⟩
@[simp ↓] theorem isi_int_list {h : Int} {q : D → Prop} : bIsi [.int h, .ty "list"] q = q (.bl false) := propext ⟨fun ⟨_, _, e1, e2, w⟩ => by cases e1; rw [show kitB "int" "list" = some false from by decide +kernel] at e2; cases e2; exact w, fun w => ⟨_, _, rfl, by decide +kernel, w⟩⟩
@[simp ↓] theorem isi_int_tuple {h : Int} {q : D → Prop} : bIsi [.int h, .ty "tuple"] q = q (.bl false) := propext ⟨fun ⟨_, _, e1, e2, w⟩ => by cases e1; rw [show kitB "int" "tuple" = some false from by decide +kernel] at e2; cases e2; exact w, fun w => ⟨_, _, rfl, by decide +kernel, w⟩⟩
@[simp ↓] theorem isi_int_dict {h : Int} {q : D → Prop} : bIsi [.int h, .ty "dict"] q = q (.bl false) := propext ⟨fun ⟨_, _, e1, e2, w⟩ => by cases e1; rw [show kitB "int" "dict" = some false from by decide +kernel] at e2; cases e2; exact w, fun w => ⟨_, _, rfl, by decide +kernel, w⟩⟩
@[simp ↓] theorem isi_int_str {h : Int} {q : D → Prop} : bIsi [.int h, .ty "str"] q = q (.bl false) := propext ⟨fun ⟨_, _, e1, e2, w⟩ => by cases e1; rw [show kitB "int" "str" = some false from by decide +kernel] at e2; cases e2; exact w, fun w => ⟨_, _, rfl, by decide +kernel, w⟩⟩
@[simp ↓] theorem isi_int_lt {h : Int} {q : D → Prop} : bIsi [.int h, .tup [.ty "list", .ty "tuple"]] q = q (.bl false) := propext ⟨fun ⟨_, cs, _, e1, e2, e3, w⟩ => by
  cases e1
  match cs, e2 with
  | [_, _], e2 =>
    cases e2
    rw [show kitS "int" ["list", "tuple"] = some false from by decide +kernel] at e3; cases e3; exact w, fun w => ⟨_, ["list", "tuple"], _, rfl, rfl, by decide +kernel, w⟩⟩
@[simp ↓] theorem isi_str_int {h : Str} {q : D → Prop} : bIsi [.str h, .ty "int"] q = q (.bl false) := propext ⟨fun ⟨_, _, e1, e2, w⟩ => by cases e1; rw [show kitB "str" "int" = some false from by decide +kernel] at e2; cases e2; exact w, fun w => ⟨_, _, rfl, by decide +kernel, w⟩⟩
@[simp ↓] theorem isi_str_bool {h : Str} {q : D → Prop} : bIsi [.str h, .ty "bool"] q = q (.bl false) := propext ⟨fun ⟨_, _, e1, e2, w⟩ => by cases e1; rw [show kitB "str" "bool" = some false from by decide +kernel] at e2; cases e2; exact w, fun w => ⟨_, _, rfl, by decide +kernel, w⟩⟩
@[simp ↓] theorem isi_str_list {h : Str} {q : D → Prop} : bIsi [.str h, .ty "list"] q = q (.bl false) := propext ⟨fun ⟨_, _, e1, e2, w⟩ => by cases e1; rw [show kitB "str" "list" = some false from by decide +kernel] at e2; cases e2; exact w, fun w => ⟨_, _, rfl, by decide +kernel, w⟩⟩
@[simp ↓] theorem isi_str_tuple {h : Str} {q : D → Prop} : bIsi [.str h, .ty "tuple"] q = q (.bl false) := propext ⟨fun ⟨_, _, e1, e2, w⟩ => by cases e1; rw [show kitB "str" "tuple" = some false from by decide +kernel] at e2; cases e2; exact w, fun w => ⟨_, _, rfl, by decide +kernel, w⟩⟩
@[simp ↓] theorem isi_str_dict {h : Str} {q : D → Prop} : bIsi [.str h, .ty "dict"] q = q (.bl false) := propext ⟨fun ⟨_, _, e1, e2, w⟩ => by cases e1; rw [show kitB "str" "dict" = some false from by decide +kernel] at e2; cases e2; exact w, fun w => ⟨_, _, rfl, by decide +kernel, w⟩⟩
@[simp ↓] theorem isi_str_str {h : Str} {q : D → Prop} : bIsi [.str h, .ty "str"] q = q (.bl true) := propext ⟨fun ⟨_, _, e1, e2, w⟩ => by cases e1; rw [show kitB "str" "str" = some true from by decide +kernel] at e2; cases e2; exact w, fun w => ⟨_, _, rfl, by decide +kernel, w⟩⟩
@[simp ↓] theorem isi_str_lt {h : Str} {q : D → Prop} : bIsi [.str h, .tup [.ty "list", .ty "tuple"]] q = q (.bl false) := propext ⟨fun ⟨_, cs, _, e1, e2, e3, w⟩ => by
  cases e1
  match cs, e2 with
  | [_, _], e2 =>
    cases e2
    rw [show kitS "str" ["list", "tuple"] = some false from by decide +kernel] at e3; cases e3; exact w, fun w => ⟨_, ["list", "tuple"], _, rfl, rfl, by decide +kernel, w⟩⟩
@[simp ↓] theorem isi_lst_int {h : List D} {q : D → Prop} : bIsi [.lst h, .ty "int"] q = q (.bl false) := propext ⟨fun ⟨_, _, e1, e2, w⟩ => by cases e1; rw [show kitB "list" "int" = some false from by decide +kernel] at e2; cases e2; exact w, fun w => ⟨_, _, rfl, by decide +kernel, w⟩⟩
@[simp ↓] theorem isi_lst_bool {h : List D} {q : D → Prop} : bIsi [.lst h, .ty "bool"] q = q (.bl false) := propext ⟨fun ⟨_, _, e1, e2, w⟩ => by cases e1; rw [show kitB "list" "bool" = some false from by decide +kernel] at e2; cases e2; exact w, fun w => ⟨_, _, rfl, by decide +kernel, w⟩⟩
@[simp ↓] theorem isi_lst_list {h : List D} {q : D → Prop} : bIsi [.lst h, .ty "list"] q = q (.bl true) := propext ⟨fun ⟨_, _, e1, e2, w⟩ => by cases e1; rw [show kitB "list" "list" = some true from by decide +kernel] at e2; cases e2; exact w, fun w => ⟨_, _, rfl, by decide +kernel, w⟩⟩
@[simp ↓] theorem isi_lst_tuple {h : List D} {q : D → Prop} : bIsi [.lst h, .ty "tuple"] q = q (.bl false) := propext ⟨fun ⟨_, _, e1, e2, w⟩ => by cases e1; rw [show kitB "list" "tuple" = some false from by decide +kernel] at e2; cases e2; exact w, fun w => ⟨_, _, rfl, by decide +kernel, w⟩⟩
@[simp ↓] theorem isi_lst_dict {h : List D} {q : D → Prop} : bIsi [.lst h, .ty "dict"] q = q (.bl false) := propext ⟨fun ⟨_, _, e1, e2, w⟩ => by cases e1; rw [show kitB "list" "dict" = some false from by decide +kernel] at e2; cases e2; exact w, fun w => ⟨_, _, rfl, by decide +kernel, w⟩⟩
@[simp ↓] theorem isi_lst_str {h : List D} {q : D → Prop} : bIsi [.lst h, .ty "str"] q = q (.bl false) := propext ⟨fun ⟨_, _, e1, e2, w⟩ => by cases e1; rw [show kitB "list" "str" = some false from by decide +kernel] at e2; cases e2; exact w, fun w => ⟨_, _, rfl, by decide +kernel, w⟩⟩
@[simp ↓] theorem isi_lst_lt {h : List D} {q : D → Prop} : bIsi [.lst h, .tup [.ty "list", .ty "tuple"]] q = q (.bl true) := propext ⟨fun ⟨_, cs, _, e1, e2, e3, w⟩ => by
  cases e1
  match cs, e2 with
  | [_, _], e2 =>
    cases e2
    rw [show kitS "list" ["list", "tuple"] = some true from by decide +kernel] at e3; cases e3; exact w, fun w => ⟨_, ["list", "tuple"], _, rfl, rfl, by decide +kernel, w⟩⟩
@[simp ↓] theorem isi_tup_int {h : List D} {q : D → Prop} : bIsi [.tup h, .ty "int"] q = q (.bl false) := propext ⟨fun ⟨_, _, e1, e2, w⟩ => by cases e1; rw [show kitB "tuple" "int" = some false from by decide +kernel] at e2; cases e2; exact w, fun w => ⟨_, _, rfl, by decide +kernel, w⟩⟩
@[simp ↓] theorem isi_tup_bool {h : List D} {q : D → Prop} : bIsi [.tup h, .ty "bool"] q = q (.bl false) := propext ⟨fun ⟨_, _, e1, e2, w⟩ => by cases e1; rw [show kitB "tuple" "bool" = some false from by decide +kernel] at e2; cases e2; exact w, fun w => ⟨_, _, rfl, by decide +kernel, w⟩⟩
@[simp ↓] theorem isi_tup_list {h : List D} {q : D → Prop} : bIsi [.tup h, .ty "list"] q = q (.bl false) := propext ⟨fun ⟨_, _, e1, e2, w⟩ => by cases e1; rw [show kitB "tuple" "list" = some false from by decide +kernel] at e2; cases e2; exact w, fun w => ⟨_, _, rfl, by decide +kernel, w⟩⟩
@[simp ↓] theorem isi_tup_tuple {h : List D} {q : D → Prop} : bIsi [.tup h, .ty "tuple"] q = q (.bl true) := propext ⟨fun ⟨_, _, e1, e2, w⟩ => by cases e1; rw [show kitB "tuple" "tuple" = some true from by decide +kernel] at e2; cases e2; exact w, fun w => ⟨_, _, rfl, by decide +kernel, w⟩⟩
@[simp ↓] theorem isi_tup_dict {h : List D} {q : D → Prop} : bIsi [.tup h, .ty "dict"] q = q (.bl false) := propext ⟨fun ⟨_, _, e1, e2, w⟩ => by cases e1; rw [show kitB "tuple" "dict" = some false from by decide +kernel] at e2; cases e2; exact w, fun w => ⟨_, _, rfl, by decide +kernel, w⟩⟩
@[simp ↓] theorem isi_tup_str {h : List D} {q : D → Prop} : bIsi [.tup h, .ty "str"] q = q (.bl false) := propext ⟨fun ⟨_, _, e1, e2, w⟩ => by cases e1; rw [show kitB "tuple" "str" = some false from by decide +kernel] at e2; cases e2; exact w, fun w => ⟨_, _, rfl, by decide +kernel, w⟩⟩
@[simp ↓] theorem isi_tup_lt {h : List D} {q : D → Prop} : bIsi [.tup h, .tup [.ty "list", .ty "tuple"]] q = q (.bl true) := propext ⟨fun ⟨_, cs, _, e1, e2, e3, w⟩ => by
  cases e1
  match cs, e2 with
  | [_, _], e2 =>
    cases e2
    rw [show kitS "tuple" ["list", "tuple"] = some true from by decide +kernel] at e3; cases e3; exact w, fun w => ⟨_, ["list", "tuple"], _, rfl, rfl, by decide +kernel, w⟩⟩
@[simp ↓] theorem isi_dic_int {h : List (D × D)} {q : D → Prop} : bIsi [.dic h, .ty "int"] q = q (.bl false) := propext ⟨fun ⟨_, _, e1, e2, w⟩ => by cases e1; rw [show kitB "dict" "int" = some false from by decide +kernel] at e2; cases e2; exact w, fun w => ⟨_, _, rfl, by decide +kernel, w⟩⟩
@[simp ↓] theorem isi_dic_bool {h : List (D × D)} {q : D → Prop} : bIsi [.dic h, .ty "bool"] q = q (.bl false) := propext ⟨fun ⟨_, _, e1, e2, w⟩ => by cases e1; rw [show kitB "dict" "bool" = some false from by decide +kernel] at e2; cases e2; exact w, fun w => ⟨_, _, rfl, by decide +kernel, w⟩⟩
@[simp ↓] theorem isi_dic_list {h : List (D × D)} {q : D → Prop} : bIsi [.dic h, .ty "list"] q = q (.bl false) := propext ⟨fun ⟨_, _, e1, e2, w⟩ => by cases e1; rw [show kitB "dict" "list" = some false from by decide +kernel] at e2; cases e2; exact w, fun w => ⟨_, _, rfl, by decide +kernel, w⟩⟩
@[simp ↓] theorem isi_dic_tuple {h : List (D × D)} {q : D → Prop} : bIsi [.dic h, .ty "tuple"] q = q (.bl false) := propext ⟨fun ⟨_, _, e1, e2, w⟩ => by cases e1; rw [show kitB "dict" "tuple" = some false from by decide +kernel] at e2; cases e2; exact w, fun w => ⟨_, _, rfl, by decide +kernel, w⟩⟩
@[simp ↓] theorem isi_dic_dict {h : List (D × D)} {q : D → Prop} : bIsi [.dic h, .ty "dict"] q = q (.bl true) := propext ⟨fun ⟨_, _, e1, e2, w⟩ => by cases e1; rw [show kitB "dict" "dict" = some true from by decide +kernel] at e2; cases e2; exact w, fun w => ⟨_, _, rfl, by decide +kernel, w⟩⟩
@[simp ↓] theorem isi_dic_str {h : List (D × D)} {q : D → Prop} : bIsi [.dic h, .ty "str"] q = q (.bl false) := propext ⟨fun ⟨_, _, e1, e2, w⟩ => by cases e1; rw [show kitB "dict" "str" = some false from by decide +kernel] at e2; cases e2; exact w, fun w => ⟨_, _, rfl, by decide +kernel, w⟩⟩
@[simp ↓] theorem isi_dic_lt {h : List (D × D)} {q : D → Prop} : bIsi [.dic h, .tup [.ty "list", .ty "tuple"]] q = q (.bl false) := propext ⟨fun ⟨_, cs, _, e1, e2, e3, w⟩ => by
  cases e1
  match cs, e2 with
  | [_, _], e2 =>
    cases e2
    rw [show kitS "dict" ["list", "tuple"] = some false from by decide +kernel] at e3; cases e3; exact w, fun w => ⟨_, ["list", "tuple"], _, rfl, rfl, by decide +kernel, w⟩⟩
@[simp] theorem vw_non  : vw st (.non) = .non := rfl
@[simp] theorem gdOf_non  : gdOf st (.non) = [] := rfl
@[simp] theorem vw_bl {b : Bool} : vw st (.bl b) = .bl b := rfl
@[simp] theorem gdOf_bl {b : Bool} : gdOf st (.bl b) = [] := rfl
@[simp] theorem vw_int {i : Int} : vw st (.int i) = .int i := rfl
@[simp] theorem gdOf_int {i : Int} : gdOf st (.int i) = [] := rfl
@[simp] theorem vw_str {h : Str} : vw st (.str h) = .str h := rfl
@[simp] theorem gdOf_str {h : Str} : gdOf st (.str h) = [] := rfl
@[simp] theorem vw_lst {l : List D} : vw st (.lst l) = .lst l := rfl
@[simp] theorem gdOf_lst {l : List D} : gdOf st (.lst l) = [] := rfl
@[simp] theorem vw_tup {l : List D} : vw st (.tup l) = .tup l := rfl
@[simp] theorem gdOf_tup {l : List D} : gdOf st (.tup l) = [] := rfl
@[simp] theorem vw_dic {l : List (D × D)} : vw st (.dic l) = .dic l := rfl
@[simp] theorem gdOf_dic {l : List (D × D)} : gdOf st (.dic l) = [] := rfl
@[simp] theorem vw_obj {h : Str} {l : List (Str × D)} : vw st (.obj h l) = .obj h l := rfl
@[simp] theorem gdOf_obj {h : Str} {l : List (Str × D)} : gdOf st (.obj h l) = [] := rfl
@[simp] theorem vw_fn {h : Str} : vw st (.fn h) = .fn h := rfl
@[simp] theorem gdOf_fn {h : Str} : gdOf st (.fn h) = [] := rfl
@[simp] theorem vw_ty {h : String} : vw st (.ty h) = .ty h := rfl
@[simp] theorem gdOf_ty {h : String} : gdOf st (.ty h) = [] := rfl
@[simp] theorem vw_scr {l : List Int} : vw st (.scr l) = .scr l := rfl
@[simp] theorem gdOf_scr {l : List Int} : gdOf st (.scr l) = [] := rfl
theorem vw_ref {n : Nat} {l : List D} (h : st[n]? = some (.lst l)) : vw st (.ref n) = .lst l := by unfold vw; simp only [h]
theorem vw_refO {n : Nat} {c : Str} {l : List (Str × D)} (h : st[n]? = some (.obj c l)) : vw st (.ref n) = .obj c l := by unfold vw; simp only [h]
theorem vw_refD {n : Nat} {l : List (D × D)} (h : st[n]? = some (.dic l)) : vw st (.ref n) = .dic l := by unfold vw; simp only [h]
theorem gdOf_ref {n : Nat} {c : C} (h : st[n]? = some c) : gdOf st (.ref n) = [(n, c)] := by unfold gdOf; simp only [h]
@[simp] theorem gdOk_nil : gdOk [] st = True := by unfold gdOk; simp
@[simp] theorem gdOk_one {n : Nat} {c : C} : gdOk [(n, c)] st = (st[n]? = some c) := by unfold gdOk; simp
@[simp] theorem itemsD_lst {l : List D} : itemsD (.lst l) = some l := rfl
@[simp] theorem itemsD_tup {l : List D} : itemsD (.tup l) = some l := rfl
@[simp] theorem lenD_lst {l : List D} : lenD (.lst l) = some l.length := rfl
@[simp] theorem lenD_tup {l : List D} : lenD (.tup l) = some l.length := rfl
@[simp] theorem truthD_int {h : Int} : truthD (.int h) = some (h != 0) := rfl
@[simp] theorem truthD_bl {h : Bool} : truthD (.bl h) = some h := rfl
@[simp] theorem truthD_non : truthD .non = some false := rfl
@[simp] theorem truthD_lst {l : List D} : truthD (.lst l) = some (!l.isEmpty) := rfl
@[simp] theorem truthD_tup {l : List D} : truthD (.tup l) = some (!l.isEmpty) := rfl
@[simp] theorem wA_nil : wA [] env = env := rfl
@[simp] theorem wA_cons : wA (i :: vs) env = (wA vs env).set i .no := rfl
theorem for_nil : sForL gd g s [] env st k = (gdOk gd st ∧ k.nx env st) := propext Iff.rfl
theorem for_cons : sForL gd g s (x :: xs) env st k = (gdOk gd st ∧ g x env st fun e1 => s e1 st { k with nx := fun e2 s2 => sForL gd g s xs e2 s2 k, ct := fun e2 s2 => sForL gd g s xs e2 s2 k, bk := k.nx }) := propext Iff.rfl
theorem lc_nil : aLcL gd g t a env ql [] xs st = (gdOk gd st ∧ ql xs st) := propext Iff.rfl
theorem lc_cons {acc : List D} : aLcL gd g t a env ql (x :: xs) acc st = (gdOk gd st ∧ g x env st fun e1 => t e1 st (fun b s2 => if b = true then a e1 s2 (fun y s3 => acc.length < 100000 ∧ aLcL gd g t a env ql xs (acc ++ [y]) s3) (fun _ _ => False) else aLcL gd g t a env ql xs acc s2) (fun _ _ => False)) := propext Iff.rfl
theorem wh_succ {n : Nat} : sWhN t s (n + 1) env st k = t env st (fun c s1 => if c = true then s env s1 { k with nx := fun e2 s2 => sWhN t s n e2 s2 k, ct := fun e2 s2 => sWhN t s n e2 s2 k, bk := k.nx } else k.nx env s1) (fun e s1 => k.er e env s1) := propext Iff.rfl
/-- a comprehension whose items come without a change of the store -/
theorem lc_eq {G : D → D} {p : D → Bool} (hg : gdOk gd st) : ∀ (ds acc : List D), (∀ x ∈ ds, ∀ (P1 : D → S → Prop) (P2 : S → Prop), (g x env st fun e1 => t e1 st (fun b s2 => if b = true then a e1 s2 P1 (fun _ _ => False) else P2 s2) (fun _ _ => False)) = if p x = true then P1 (G x) st else P2 st) → acc.length + ds.length ≤ 100000 → aLcL gd g t a env ql ds acc st = ql (acc ++ (ds.filter p).map G) st
  | [], acc, _, _ => by rw [lc_nil]; simp [hg]
  | x :: xs, acc, h, hl => by
    rw [lc_cons, h x (by simp)]
    have hl' : acc.length < 100000 := by simp at hl; omega
    by_cases hp : p x = true
    · rw [if_pos hp, lc_eq hg xs _ (fun y hy => h y (by simp [hy])) (by simp at hl ⊢; omega)]
      simp [hg, hl', hp, List.filter_cons]
    · rw [if_neg hp, lc_eq hg xs _ (fun y hy => h y (by simp [hy])) (by simp at hl ⊢; omega)]
      simp [hg, hp, List.filter_cons]
theorem lc_map {G : D → D} (hg : gdOk gd st) (ds acc : List D) (h : ∀ x ∈ ds, ∀ (P1 : D → S → Prop) (P2 : S → Prop), (g x env st fun e1 => t e1 st (fun b s2 => if b = true then a e1 s2 P1 (fun _ _ => False) else P2 s2) (fun _ _ => False)) = P1 (G x) st) (hl : acc.length + ds.length ≤ 100000) : aLcL gd g t a env ql ds acc st = ql (acc ++ ds.map G) st := by
  rw [lc_eq (G := G) (p := fun _ => true) hg ds acc (fun x hx P1 P2 => by rw [h x hx, if_pos rfl]) hl, List.filter_eq_self.mpr (fun _ _ => rfl)]
/-- loops by what holds ahead of the items that are left -/
theorem for_ind {P : List D → List A → S → Prop} (h0 : ∀ env st, P [] env st → gdOk gd st ∧ k.nx env st) (h1 : ∀ x xs env st, P (x :: xs) env st → ∀ nx : List A → S → Prop, (∀ e s, P xs e s → nx e s) → gdOk gd st ∧ g x env st fun e1 => s e1 st { k with nx := nx, ct := nx, bk := k.nx }) : ∀ ds env st, P ds env st → sForL gd g s ds env st k
  | [], env, st, h => h0 env st h
  | x :: xs, env, st, h => h1 x xs env st h _ fun e s hp => for_ind h0 h1 xs e s hp
theorem wh_ind {P : Nat → List A → S → Prop} (h1 : ∀ n env st, P n env st → ∀ nx : List A → S → Prop, (∀ m e s, m < n → P m e s → nx e s) → t env st (fun c s1 => if c = true then s env s1 { k with nx := nx, ct := nx, bk := k.nx } else k.nx env s1) (fun e s1 => k.er e env s1))
    (mono : ∀ {n env st}, P n env st → ∀ {m}, n ≤ m → P m env st) : ∀ n env st, P n env st → sWhN t s (n + 1) env st k := by
  intro n
  induction n with
  | zero => exact fun env st h => h1 0 env st h _ fun m e s hm _ => absurd hm (by omega)
  | succ n ih => exact fun env st h => h1 (n + 1) env st h _ fun m e s hm hp => ih e s (mono hp (by omega))
end
end AM
set_option Elab.async false
set_option linter.all false
set_option maxRecDepth 100000
set_option maxHeartbeats 4000000
namespace AM
open L2
/-- _law_take -/
def aTake : AS := sSeq (sIf (aTest (aOp oEq (aPoolIx 0 1) (aC (.int 0)))) (sSeq (sAsg (aPoolIx 0 0) (agName 3))
  (sSeq (sPoolSet 0 0 (aOp oAdd (aVar 3) (aC (.int 1))))
  (sSeq (sAsg (aOp oIx (aOp oAdd (aPoolIx 0 2) (aLst (aCons (aC (.int 0)) (aNil)))) (aOp oMod (aB bInt (aCons (aVar 3) (aNil))) (aB bMax2 (aCons (aC (.int 1)) (aCons (aB bLen (aCons (aPoolIx 0 2) (aNil))) (aNil)))))) (agName 4))
  (sSeq (sAsg (aOp oMod (aOp oPow (aOp oAdd (aOp oAdd (aOp oMod (aB bInt (aCons (aVar 4) (aNil))) (aC (.int 2147483647))) (aOp oMul (aC (.int 7919)) (aVar 3))) (aC (.int 13))) (aC (.int 5))) (aC (.int 2147483647))) (agName 5))
  (sSeq (sAsg (aOp oMod (aOp oPow (aOp oAdd (aOp oAdd (aVar 5) (aOp oMul (aC (.int 104729)) (aVar 3))) (aC (.int 29))) (aC (.int 3))) (aC (.int 2147483629))) (agName 5))
  (sSeq (sIf (aTest (aOp oLt (aVar 4) (aOp oPow (aC (.int 10)) (aC (.int 18))))) (sRet (aOp oMod (aOp oFdiv (aVar 5) (aC (.int 11))) (aVar 1))) (sNext))
  (sPoolSet 0 1 (aVar 4)))))))) (sNext))
  (sSeq (sAsg (aOp oMod (aB bInt (aCons (aPoolIx 0 1) (aNil))) (aVar 1)) (agName 2))
  (sSeq (sPoolSet 0 1 (aOp oFdiv (aPoolIx 0 1) (aVar 1)))
  (sRet (aVar 2))))
theorem atI_lt {α : Type} {l : List α} {i : Int} (h0 : 0 ≤ i) (h1 : i < l.length) : ∃ d, atI l i = some d ∧ d ∈ l := by
  have e : ixN l.length i = some i.toNat := by unfold ixN; rw [if_pos h0, if_pos h1]
  have hl : i.toNat < l.length := by omega
  exact ⟨l[i.toNat], by unfold atI; rw [e]; show l[i.toNat]? = _; exact List.getElem?_eq_getElem hl, List.getElem_mem hl⟩
/-- a draw: a number below k; the pool's count may grow by one -/
def mTake : AF := fun args st q _ => ∃ n m ns k, args = [.ref n, .int k] ∧ st[n]? = some (.pool m ns) ∧ 0 < k ∧ k.natAbs.log2 < 9000 ∧ m < 10 ^ 12 ∧
  ∀ (x : Int) (m' : Nat), 0 ≤ x → x < k → m ≤ m' → m' ≤ m + 1 → q (.d (.int x)) (st.set n (.pool m' ns))
section
variable {env : List A} {st : S} {q : D → S → Prop} {er : QX} {n i : Nat} {m : Nat} {ns : List Int}
theorem pool0 (e : env[i]? = some (.d (.ref n))) (h : st[n]? = some (.pool m ns)) : aPoolIx i 0 env st q er = ∀ a : Int, 0 ≤ a → a ≤ m → q (.int a) st := propext ⟨fun ⟨n', m', ns', e', h', k⟩ => by
    rw [e] at e'; cases e'; rw [h] at h'; cases h'; exact k, fun k => ⟨n, m, ns, e, h, k⟩⟩
theorem pool1 (e : env[i]? = some (.d (.ref n))) (h : st[n]? = some (.pool m ns)) : aPoolIx i 1 env st q er = ∀ l : Int, 0 ≤ l → q (.int l) st := propext ⟨fun ⟨n', m', ns', e', h', k⟩ => by
    rw [e] at e'; cases e'; rw [h] at h'; cases h'; exact k, fun k => ⟨n, m, ns, e, h, k⟩⟩
theorem pool2 (e : env[i]? = some (.d (.ref n))) (h : st[n]? = some (.pool m ns)) : aPoolIx i 2 env st q er = (ns.length ≤ 63 → q (.lst (ns.map .int)) st) := propext ⟨fun ⟨n', m', ns', e', h', k⟩ => by
    rw [e] at e'; cases e'; rw [h] at h'; cases h'; exact k, fun k => ⟨n, m, ns, e, h, k⟩⟩
theorem poolS0 {a : AE} {k : AK} (e : env[i]? = some (.d (.ref n))) : sPoolSet i 0 a env st k = a env st (fun d s1 => ∃ m ns v, s1[n]? = some (.pool m ns) ∧ d = .int v ∧ 0 ≤ v ∧ k.nx env (s1.set n (.pool (max m v.toNat) ns))) (fun e s => k.er e env s) := by
  unfold sPoolSet
  congr 1
  funext d s1
  exact propext ⟨fun ⟨n', m', ns', v, e', h', k⟩ => by
    rw [e] at e'; cases e'; exact ⟨m', ns', v, h', k⟩, fun ⟨m, ns, v, h, k⟩ => ⟨n, m, ns, v, e, h, k⟩⟩
theorem poolS1 {a : AE} {k : AK} (e : env[i]? = some (.d (.ref n))) : sPoolSet i 1 a env st k = a env st (fun d s1 => ∃ m ns v, s1[n]? = some (.pool m ns) ∧ d = .int v ∧ 0 ≤ v ∧ k.nx env (s1.set n (.pool m ns))) (fun e s => k.er e env s) := by
  unfold sPoolSet
  congr 1
  funext d s1
  exact propext ⟨fun ⟨n', m', ns', v, e', h', k⟩ => by
    rw [e] at e'; cases e'; exact ⟨m', ns', v, h', k⟩, fun ⟨m, ns, v, h, k⟩ => ⟨n, m, ns, v, e, h, k⟩⟩
end
theorem take_ok : ∀ args st q er, mTake args st q er → fnP 2 6 aTake args st q er := by
  rintro args st q er ⟨n, m, ns, k, rfl, hn, hk, hl, hm, h⟩
  refine ⟨rfl, ?_⟩
  show aTake [.d (.ref n), .d (.int k), .no, .no, .no, .no] st _
  unfold aTake
  have hlt : n < st.length := (List.getElem?_eq_some_iff.mp hn).1
  have fm : ∀ x : Int, 0 ≤ x.fmod k ∧ x.fmod k < k := fun x => ⟨Int.fmod_nonneg_of_pos x hk, Int.fmod_lt_of_pos x hk⟩
  have k0 : k ≠ 0 := by omega
  have cfd : ∀ x, CFd x k := fun x => ⟨k0, hl⟩
  have fd0 : ∀ x : Int, 0 ≤ x → 0 ≤ x.fdiv k := fun x hx => Int.fdiv_nonneg hx (by omega)
  have lg : ∀ a : Int, 0 ≤ a → a ≤ m → a.natAbs.log2 < 100 := fun a h0 h1 => by
    by_cases hz : a.natAbs = 0
    · rw [hz]; decide
    · refine (Nat.log2_lt hz).mpr (Nat.lt_of_le_of_lt (m := 10 ^ 12) (by omega) (by decide))
  have p1 : ∀ {l : List A} {q : D → S → Prop} {er : QX}, aPoolIx 0 1 (A.d (.ref n) :: l) st q er = ∀ l : Int, 0 ≤ l → q (.int l) st := pool1 rfl hn
  have gs : ∀ c, (st.set n c)[n]? = some c := fun c => List.getElem?_set_self hlt
  have pS1 : ∀ {l : List A} {s : S} {a : AE} {k : AK}, sPoolSet 0 1 a (A.d (.ref n) :: l) s k = a (A.d (.ref n) :: l) s (fun d s1 => ∃ m ns v, s1[n]? = some (.pool m ns) ∧ d = .int v ∧ 0 ≤ v ∧ k.nx (A.d (.ref n) :: l) (s1.set n (.pool m ns))) (fun e s => k.er e (A.d (.ref n) :: l) s) := poolS1 rfl
  have pS0 : ∀ {l : List A} {s : S} {a : AE} {k : AK}, sPoolSet 0 0 a (A.d (.ref n) :: l) s k = a (A.d (.ref n) :: l) s (fun d s1 => ∃ m ns v, s1[n]? = some (.pool m ns) ∧ d = .int v ∧ 0 ≤ v ∧ k.nx (A.d (.ref n) :: l) (s1.set n (.pool (max m v.toNat) ns))) (fun e s => k.er e (A.d (.ref n) :: l) s) := poolS0 rfl
  simp only [ev_sSeq, ev_sIf, ev_aTest, ev_aOp, p1, ev_aC]
  intro l hl0
  simp only [vw_int, ev_oEqI, tsQ_bl, beq_iff_eq]
  have tail : ∀ (l3 : List A) (m' : Nat), m ≤ m' → m' ≤ m + 1 → sAsg (aOp oMod (aB bInt (aCons (aPoolIx 0 1) aNil)) (aVar 1)) (agName 2) (.d (.ref n) :: .d (.int k) :: .no :: l3) (st.set n (.pool m' ns)) { nx := fun env2 st2 => sSeq (sPoolSet 0 1 (aOp oFdiv (aPoolIx 0 1) (aVar 1))) (sRet (aVar 2)) env2 st2 ⟨fun _ s => q (.d .non) s, q, fun _ _ => False, fun _ _ => False, fun e _ s => er e s⟩, rt := q, bk := fun _ _ => False, ct := fun _ _ => False, er := fun e _ s => er e s } := fun l3 m' h1 h2 => by
    have p1' : ∀ {l : List A} {q : D → S → Prop} {er : QX}, aPoolIx 0 1 (A.d (.ref n) :: l) (st.set n (.pool m' ns)) q er = ∀ l : Int, 0 ≤ l → q (.int l) (st.set n (.pool m' ns)) := pool1 rfl (gs _)
    simp [p1', and_assoc, pS1, k0, gs, cfd, fd0]
    intro x hx y hy
    exact ⟨fd0 y hy, h _ _ (fm x).1 (fm x).2 h1 h2⟩
  split
  · have p0 : ∀ {l : List A} {q : D → S → Prop} {er : QX}, aPoolIx 0 0 (A.d (.ref n) :: l) st q er = ∀ a : Int, 0 ≤ a → a ≤ m → q (.int a) st := pool0 rfl hn
    simp only [ev_sAsg, p0, ev_agName]
    intro a ha0 ha1
    simp [pS0, hn, and_assoc]
    refine ⟨by omega, ?_⟩
    have mx : m ≤ max m (a + 1).toNat ∧ max m (a + 1).toNat ≤ m + 1 := by omega
    generalize max m (a + 1).toNat = m' at mx ⊢
    have p2 : ∀ {l : List A} {q : D → S → Prop} {er : QX}, aPoolIx 0 2 (A.d (.ref n) :: l) (st.set n (.pool m' ns)) q er = (ns.length ≤ 63 → q (.lst (ns.map .int)) (st.set n (.pool m' ns))) := pool2 rfl (gs _)
    simp [p2, and_assoc]
    intro h63
    refine ⟨by omega, ?_⟩
    have hmax : (0 : Int) < (if (1 : Int) < (ns.length : Int) then (ns.length : Int) else 1) := by split <;> omega
    refine fun _ => ⟨by split <;> omega, ?_⟩
    have b0 := Int.fmod_nonneg_of_pos a hmax
    have b1 := Int.fmod_lt_of_pos a hmax
    obtain ⟨d, hd, dm⟩ := atI_lt (l := ns.map D.int ++ [D.int 0]) b0 (by
      rw [List.length_append, List.length_map]
      show _ < ((ns.length + 1 : Nat) : Int)
      have : (if (1 : Int) < (ns.length : Int) then (ns.length : Int) else 1) ≤ (ns.length : Int) + 1 := by split <;> omega
      omega)
    obtain ⟨v, rfl⟩ : ∃ v, d = D.int v := by
      rcases List.mem_append.mp dm with h | h
      · obtain ⟨v, _, e⟩ := List.mem_map.mp h
        exact ⟨v, e.symm⟩
      · exact ⟨0, by simpa using h⟩
    refine ⟨_, hd, ?_⟩
    have hlg := lg a ha0 ha1
    have c1 : CMulW 7919 a := by show (7919 : Int).natAbs.log2 + a.natAbs.log2 < 1000000; have : (7919 : Int).natAbs.log2 = 12 := by decide
                                 omega
    have c2 : CMulW 104729 a := by show (104729 : Int).natAbs.log2 + a.natAbs.log2 < 1000000; have : (104729 : Int).natAbs.log2 = 16 := by decide
                                   omega
    have r1 : 0 ≤ v.fmod 2147483647 ∧ v.fmod 2147483647 < 2147483647 := ⟨Int.fmod_nonneg_of_pos v (by decide), Int.fmod_lt_of_pos v (by decide)⟩
    have p1 : CPow (v.fmod 2147483647 + 7919 * a + 13) 5 := ⟨by decide, by decide, by omega⟩
    have r2 := fun x : Int => (⟨Int.fmod_nonneg_of_pos x (by decide), Int.fmod_lt_of_pos x (by decide)⟩ : 0 ≤ x.fmod 2147483647 ∧ x.fmod 2147483647 < 2147483647)
    have p2 : ∀ x : Int, CPow (x.fmod 2147483647 + 104729 * a + 29) 3 := fun x => by have := r2 x; exact ⟨by decide, by decide, by omega⟩
    have p3 : CPow 10 18 := ⟨by decide, by decide, by decide⟩
    have c11 : ∀ x, CFd x 11 := fun x => ⟨by decide, by decide⟩
    simp [c1, c2, p1, p2, p3, c11, k0, cfd, pS1, gs, and_assoc]
    split
    · exact h _ _ (fm _).1 (fm _).2 mx.1 mx.2
    · refine ⟨by omega, ?_⟩
      have := tail [.d (.int a), .d (.int v), .d (.int ((((v.fmod 2147483647 + 7919 * a + 13) ^ 5).fmod 2147483647 + 104729 * a + 29) ^ 3 |>.fmod 2147483629))] m' mx.1 mx.2
      simpa [c1, c2, p1, p2, p3, c11, k0, cfd, pS1, gs, and_assoc] using this
  · have e : st.set n (.pool m ns) = st := by
      apply List.ext_getElem?
      intro j
      by_cases hj : n = j
      · subst hj; rw [List.getElem?_set_self hlt, hn]
      · rw [List.getElem?_set_ne hj]
    have := tail [.no, .no, .no] m (Nat.le_refl _) (by omega)
    rw [e] at this
    simp only [ev_sNext]
    exact this
end AM
set_option Elab.async false
set_option linter.all false
set_option maxRecDepth 100000
set_option maxHeartbeats 4000000
namespace AM
open PySem PySem.W L2
theorem oexB_ok {K : Frag} {C : Addr} (h : oexB K C = true) : OexC K C := by
  unfold oexB at h
  obtain ⟨h, h2⟩ := Bool.and_eq_true_iff.mp h
  obtain ⟨h2, h3⟩ := Bool.and_eq_true_iff.mp h2
  obtain ⟨h3, h4⟩ := Bool.and_eq_true_iff.mp h3
  obtain ⟨h4, h5⟩ := Bool.and_eq_true_iff.mp h4
  refine ⟨?_, of_decide_eq_true h2, of_decide_eq_true h3, of_decide_eq_true h4, h5⟩
  split at h
  · rename_i t dd cd sl ho
    split at h
    · rename_i C' bm k0 k1 k2 k3 n k5 hm hs
      simp only [Bool.and_eq_true, decide_eq_true_eq, Bool.not_eq_true'] at h
      obtain ⟨rfl, rfl, rfl, hdel, hdc, ht⟩ := h
      obtain ⟨nm, bs, mro, ns, qn, hd, sn, sub, ab, col, del⟩ := cd
      dsimp only at hm hdel hdc
      subst hm hdel hdc
      have hsl : sl = #[k0, k1, k2, k3, some (.builtin "ValueError.__new__"), k5] := by
        obtain ⟨l⟩ := sl
        simp only at hs
        rw [hs]
      subst hsl
      exact ⟨nm, qn, ns, bs, bm, sn, sub, ab, col, dd, k0, k1, k2, k3, k5, ho, ht⟩
    · cases h
  · cases h
theorem xcB_ok {P : Program} {K : Frag} {mg : Str → Option Value} {d : XD} (h : xcB K P.main.file d.cls = true) (e : xw K d.cls = d.val) (mgs : mg "super" = none) (top : (P.main.scope.names.lookup ("super" : Str)).isSome = false) :
    XC P K mg (He.ga K d.cls) (He.ma K (He.ga K d.cls) "__init__") (fdAt K (He.ma K (He.ga K d.cls) "__init__")) d.params d.body d.scope := by
  unfold xcB at h
  obtain ⟨h1, h⟩ := Bool.and_eq_true_iff.mp h
  obtain ⟨h2, h⟩ := Bool.and_eq_true_iff.mp h
  obtain ⟨h3, h⟩ := Bool.and_eq_true_iff.mp h
  obtain ⟨h4, h⟩ := Bool.and_eq_true_iff.mp h
  obtain ⟨h5, h⟩ := Bool.and_eq_true_iff.mp h
  obtain ⟨h6, h⟩ := Bool.and_eq_true_iff.mp h
  obtain ⟨h7, h8⟩ := Bool.and_eq_true_iff.mp h
  refine ⟨oexB_ok h1, ?_, of_decide_eq_true h3, of_decide_eq_true h4, of_decide_eq_true h5, of_decide_eq_true h6, mgs, top, of_decide_eq_true h7, of_decide_eq_true h8⟩
  unfold xw at e
  unfold xfnB at h2
  generalize He.ma K (He.ga K d.cls) "__init__" = f at e h2 ⊢
  cases q : K.lookup f with
  | none => rw [q] at e; cases e
  | some o =>
    obtain ⟨oc, od, dt, osl⟩ := o
    rw [q] at e h2
    cases dt with
    | func fd =>
      have ef : fdAt K f = fd := by unfold fdAt; rw [q]
      obtain ⟨n1, n2, n3, n4, n5, n6, n7, n8, n9, n10, n11, n12, n13, n14, n15⟩ := fd
      have e2 : (some (n1, n3, n4, n5, n6, n7.map (·.1), n15) : XW) = (some ("__init__", d.params, .stmts d.body, d.scope, mainGlobals, ["__class__"], builtinsNs) : XW) := e
      simp only [Option.some.injEq, Prod.mk.injEq] at e2
      obtain ⟨g1, g3, g4, g5, g6, g7, g15⟩ := e2
      subst g1 g3 g4 g5 g6 g15
      obtain ⟨k1, h2⟩ := Bool.and_eq_true_iff.mp h2
      obtain ⟨k2, h2⟩ := Bool.and_eq_true_iff.mp h2
      obtain ⟨k3, k4⟩ := Bool.and_eq_true_iff.mp h2
      dsimp only at k1 k3 k4
      clear e h2 h1 h3 h4 h5 h6 h7 h8
      cases n8 with
      | none =>
        match n7, g7, k3, q, ef with
        | [(nm, cc)], g7, k3, q, ef =>
          have e7 : nm = ("__class__" : Str) := by simpa using g7
          subst e7
          dsimp only at k3
          cases hcc : K.lookup cc with
          | none => rw [hcc] at k3; cases k3
          | some oc1 =>
            obtain ⟨cl, cld, cdt, csl⟩ := oc1
            rw [hcc] at k3
            split at k3
            · rename_i C' hC'
              have e8 := of_decide_eq_true k3
              cases n13 with
              | ref cda =>
                dsimp only at k4
                cases hcd : K.lookup cda with
                | none => rw [hcd] at k4; cases k4
                | some oc2 =>
                  obtain ⟨ccl, cdd, cdt2, ccs⟩ := oc2
                  rw [hcd] at k4
                  cases cdt2 with
                  | fields vs =>
                    dsimp only at k4
                    cases hz : (vs[2]? : Option Value) with
                    | none => rw [hz] at k4; cases k4
                    | some z =>
                      rw [hz] at k4
                      cases z with
                      | str z tf =>
                        have e9 : z = P.main.file := of_decide_eq_true k4
                        subst e9
                        simp only [Option.some.injEq, Obj.mk.injEq] at hC'
                        obtain ⟨rfl, rfl, rfl, rfl⟩ := hC'
                        subst e8
                        exact ⟨n2, n9, n10, n11, n14, oc, n12, od, osl, cc, cda, _, _, _, ccl, cdd, vs, ccs, tf, ef, by rw [ef], k2, hcc, hcd, hz⟩
                      | _ => cases k4
                  | _ => cases k4
              | _ => cases k4
            · cases k3
      | _ => cases k1
    | _ => cases e
/-- a law lets nothing out -/
theorem law_CX0 {P : Program} {w : World} {K : Frag} {mg : Str → Option Value} {base : Heap} {k : Nat} {f : Addr} {fd : FuncData} {ps : List Str} (F : FnOk P w K mg base (L2N.CX P w) k f fd ps (spLaw K)) : FnOk P w K mg base L2.CX0 k f fd ps (spLaw K) :=
  ⟨F.len, fun A outer s H args us vs Q E a b c d h => PySem.codeAny_mono (F.run A outer s H args us vs Q (fun _ _ _ => False) a b c d h) fun r s' hq => by
    cases r with
    | error e =>
      obtain ⟨_, _, _, _, _, _, _, _, _, _, _, _, z⟩ := hq
      exact z.elim
    | ok fl => cases fl <;> exact hq⟩
end AM
set_option Elab.async false
set_option linter.all false
set_option maxRecDepth 100000
set_option maxHeartbeats 4000000
namespace AM
open PySem L2
/-! ### the readings of AMobj and behind, as they run -/
def fldQ (cs : List Str) (f : Str) (q : D → S → Prop) (d : D) (s : S) : Prop := ∃ v, fldAt cs f (vw s d) = some v ∧ q v s
def zipQ (q : List D → Gd → S → Prop) (x y : D) (s : S) : Prop := ∃ l m, itemsD (vw s x) = some l ∧ itemsD (vw s y) = some m ∧ q (zipD l m) (gdOf s x ++ gdOf s y) s
def itQ (q : List D → S → Prop) (x : D) (s : S) : Prop := ∃ l, itemsD (vw s x) = some l ∧ q l s
def ownInQ (neg : Bool) (q : D → S → Prop) (r : Rs) (s : S) : Prop := ∃ k, r = .d (.bl k) ∧ q (.bl (k != neg)) s
def newQ (cn : Str) (k : Nat) (q : D → S → Prop) (r : Rs) (s2 : S) : Prop := r = .d .non ∧ ∃ fs, s2[k]? = some (.obj cn fs) ∧ ltF k fs ∧ ltS k (s2.take k) ∧ q (.obj cn fs) (s2.take k)
def newX (k : Nat) (er : QX) : QX := fun e s2 => e.lt k ∧ ltS k (s2.take k) ∧ er e (s2.take k)
def oAtQ (q : Option Int → S → Prop) (d : D) (s : S) : Prop := ∃ i, d = .int i ∧ q (some i) s
section
variable {env : List A} {st : S} {q : D → S → Prop} {qt : Bool → S → Prop} {ql : List D → S → Prop} {er : QX} {k : AK} {a b c : AE} {as : AEs} {s u : AS} {t v : AT} {g : AG} {gs : AGs} {f f2 : O2} {i j : Nat} {d : D} {x y w : D} {xs : List D} {it it1 : AI} {qi : List D → Gd → S → Prop} {af bf : AFr} {z : List A → Prop} {o : O1} {fn : ON} {vs vs1 : List Nat} {gd : Gd} {g1 : AG} {t1 : AT} {m : AF} {dd : List D} {ix : List Nat} {cs : List Str} {cn fd mn : Str} {P : D → Prop} {neg : Bool} {lo hi : AO} {fdc : AFd} {qd : List (D × D) → S → Prop} {qo : Option Int → S → Prop} {xd : List (D × D)}
theorem fldQ_of (e : fldAt cs fd (vw st d) = some x) : fldQ cs fd q d st = q x st := propext ⟨fun ⟨_, e2, w⟩ => by rw [e] at e2; cases e2; exact w, fun w => ⟨_, e, w⟩⟩
theorem itQ_of (e : itemsD (vw st d) = some xs) : itQ ql d st = ql xs st := propext ⟨fun ⟨_, e2, w⟩ => by rw [e] at e2; cases e2; exact w, fun w => ⟨_, e, w⟩⟩
theorem zipQ_of {ys : List D} (e : itemsD (vw st x) = some xs) (e2 : itemsD (vw st y) = some ys) : zipQ qi x y st = qi (zipD xs ys) (gdOf st x ++ gdOf st y) st := propext ⟨fun ⟨_, _, e3, e4, w⟩ => by rw [e] at e3; cases e3; rw [e2] at e4; cases e4; exact w, fun w => ⟨_, _, e, e2, w⟩⟩
@[simp] theorem zipQ_ll {l r : List D} : zipQ qi (.lst l) (.lst r) st = qi (zipD l r) [] st := zipQ_of rfl rfl
@[simp] theorem zipQ_lt {l r : List D} : zipQ qi (.lst l) (.tup r) st = qi (zipD l r) [] st := zipQ_of rfl rfl
@[simp] theorem zipQ_tl {l r : List D} : zipQ qi (.tup l) (.lst r) st = qi (zipD l r) [] st := zipQ_of rfl rfl
@[simp] theorem zipQ_tt {l r : List D} : zipQ qi (.tup l) (.tup r) st = qi (zipD l r) [] st := zipQ_of rfl rfl
@[simp] theorem itQ_lst {l : List D} : itQ ql (.lst l) st = ql l st := itQ_of rfl
@[simp] theorem itQ_tup {l : List D} : itQ ql (.tup l) st = ql l st := itQ_of rfl
@[simp] theorem ownInQ_bl {h : Bool} : ownInQ neg q (.d (.bl h)) st = q (.bl (h != neg)) st := propext ⟨fun ⟨_, e, w⟩ => by cases e; exact w, fun w => ⟨_, rfl, w⟩⟩
@[simp] theorem oAtQ_int {h : Int} : oAtQ qo (.int h) st = qo (some h) st := propext ⟨fun ⟨_, e, w⟩ => by cases e; exact w, fun w => ⟨_, rfl, w⟩⟩
@[simp ↓] theorem ev_aFld : aFld cs fd a env st q er = a env st (fldQ cs fd q) er := propext Iff.rfl
@[simp ↓] theorem ev_aMeth : aMeth cn mn m a as dd env st q er = a env st (fun d s1 => isObj cn mn (vw s1 d) ∧ as env s1 (fun ds s2 => m (d :: (ds ++ dd)) s2 (rsQ q) er) er) er := propext Iff.rfl
@[simp ↓] theorem ev_fMeth : fMeth cn mn m a as dd env st ql er = a env st (fun d s1 => isObj cn mn (vw s1 d) ∧ as env s1 (fun ds s2 => m (d :: (ds ++ dd)) s2 (rsF ql) er) er) er := propext Iff.rfl
@[simp ↓] theorem ev_aNew : aNew cn m as dd env st q er = as env st (fun ds s1 => ltL s1.length ds → ltS s1.length s1 → m (.ref s1.length :: (ds ++ dd)) (s1 ++ [.obj cn []]) (newQ cn s1.length q) (newX s1.length er)) er := propext Iff.rfl
@[simp ↓] theorem ev_aNewM : aNewM cn m as dd env st q er = as env st (fun ds s1 => m (.ref s1.length :: (ds ++ dd)) (s1 ++ [.obj cn []]) (fun r s2 => r = .d .non ∧ q (.ref s1.length) s2) er) er := propext Iff.rfl
@[simp ↓] theorem ev_sFldSet : sFldSet cn fd a b env st k = b env st (fun d s1 => a env s1 (fun x s2 => ∃ n fs, x = .ref n ∧ s2[n]? = some (.obj cn fs) ∧ fs.length < 1000 ∧ k.nx env (s2.set n (.obj cn (putD fd d fs)))) (fun e s => k.er e env s)) (fun e s => k.er e env s) := propext Iff.rfl
@[simp ↓] theorem ev_aOwn2 : aOwn2 cn m P a b env st q er = a env st (fun x s1 => b env s1 (fun y s2 => isCls cn (vw s2 x) ∧ P (vw s2 y) ∧ m [x, y] s2 (rsQ q) er) er) er := propext Iff.rfl
@[simp ↓] theorem ev_aOwn1 : aOwn1 cn m a env st q er = a env st (fun x s1 => isCls cn (vw s1 x) ∧ m [x] s1 (rsQ q) er) er := propext Iff.rfl
@[simp ↓] theorem ev_aOwnIn : aOwnIn cn neg m a b env st q er = a env st (fun x s1 => b env s1 (fun y s2 => isCls cn (vw s2 y) ∧ m [y, x] s2 (ownInQ neg q) er) er) er := propext Iff.rfl
@[simp ↓] theorem ev_aZip : aZip a b env st qi er = a env st (fun x s1 => b env s1 (zipQ qi x) er) er := propext Iff.rfl
@[simp ↓] theorem ev_aEnum : aEnum a env st qi er = a env st (fun x s1 => ∃ l, itemsD (vw s1 x) = some l ∧ qi (enumD l) (gdOf s1 x) s1) er := propext Iff.rfl
@[simp ↓] theorem ev_aStar : aStar a as env st ql er = a env st (itQ fun l s1 => as env s1 (fun xs s2 => ql (l ++ xs) s2) er) er := propext Iff.rfl
@[simp ↓] theorem ev_oNo : oNo env st qo er = qo none st := propext Iff.rfl
@[simp ↓] theorem ev_oAt : oAt a env st qo er = a env st (oAtQ qo) er := propext Iff.rfl
@[simp ↓] theorem ev_aSl : aSl a lo hi env st q er = a env st (fun x s1 => lo env s1 (fun l s2 => hi env s2 (fun h s3 => slD (vw s3 x) l h fun d => q d s3) er) er) er := propext Iff.rfl
@[simp ↓] theorem ev_aFd : aFd fdc env st q er = fdc env st (fun l s1 => q (.dic l) s1) er := propext Iff.rfl
@[simp ↓] theorem ev_fDc : fDc it g t a b vs env st qd er = it env st (fun ds gd s1 => aDcL gd g t a b (wA vs env) qd ds [] s1) er := propext Iff.rfl
@[simp ↓] theorem ev_fDNew : fDNew env st qd er = qd [] st := propext Iff.rfl
@[simp] theorem ev_oIxA_lst {l : List D} {q : D → Prop} {h : Int} : oIxA (.lst l) (.int h) q = ∃ d, atI l h = some d ∧ q d := propext Iff.rfl
@[simp] theorem ev_oIxA_tup {l : List D} {q : D → Prop} {h : Int} : oIxA (.tup l) (.int h) q = ∃ d, atI l h = some d ∧ q d := propext Iff.rfl
@[simp] theorem ev_oIxA_dic {q : D → Prop} : oIxA (.dic xd) x q = ∃ d, DLook xd x d ∧ q d := propext Iff.rfl
theorem oIxA_at {l : List D} {q : D → Prop} {h : Int} (e : atI l h = some d) (hq : q d) : oIxA (.lst l) (.int h) q := ⟨_, e, hq⟩
@[simp] theorem isCls_obj {fs : List (Str × D)} : isCls cn (.obj cn fs) = True := propext ⟨fun _ => trivial, fun _ => rfl⟩
@[simp] theorem isInt_int {h : Int} : isInt (.int h) = True := propext Iff.rfl
@[simp] theorem anyD_t : anyD x = True := propext Iff.rfl
@[simp] theorem ev_oIs {q : D → Prop} : oIs x .non q = ∃ b, nonD x = some b ∧ q (.bl b) := propext ⟨fun h => h.2, fun h => ⟨rfl, h⟩⟩
@[simp] theorem ev_oIsNot {q : D → Prop} : oIsNot x .non q = ∃ b, nonD x = some b ∧ q (.bl (!b)) := propext ⟨fun h => h.2, fun h => ⟨rfl, h⟩⟩
theorem dc_nil : aDcL gd g t a b env qd [] xd st = (gdOk gd st ∧ qd xd st) := propext Iff.rfl
theorem dc_cons {acc : List (D × D)} : aDcL gd g t a b env qd (x :: xs) acc st = (gdOk gd st ∧ g x env st fun e1 => t e1 st (fun c s2 => if c = true then a e1 s2 (fun kk s3 => b e1 s3 (fun y s4 => isKeyT kk ∧ acc.length < 100000 ∧ ∃ acc', DPutD acc kk y acc' ∧ aDcL gd g t a b env qd xs acc' s4) (fun _ _ => False)) (fun _ _ => False) else aDcL gd g t a b env qd xs acc s2) (fun _ _ => False)) := propext Iff.rfl
theorem lc2_nil : aLc2L gd g t it1 g1 t1 a vs1 env ql [] xs st = (gdOk gd st ∧ ql xs st) := propext Iff.rfl
theorem lc2_cons {acc : List D} : aLc2L gd g t it1 g1 t1 a vs1 env ql (x :: xs) acc st = (gdOk gd st ∧ g x env st fun e1 => t e1 st (fun b s2 => if b = true then it1 e1 s2 (fun ds1 gd1 s3 => aLcL gd1 g1 t1 a (wA vs1 e1) (fun acc' s4 => aLc2L gd g t it1 g1 t1 a vs1 env ql xs acc' s4) ds1 acc s3) (fun _ _ => False) else aLc2L gd g t it1 g1 t1 a vs1 env ql xs acc s2) (fun _ _ => False)) := propext Iff.rfl
/-- a comprehension whose items come without a change of the store -/
theorem lc_imp {G : D → D} {p : D → Bool} (hg : gdOk gd st) : ∀ (ds acc : List D), (∀ x ∈ ds, ∀ (P1 : D → S → Prop) (P2 : S → Prop), (if p x = true then P1 (G x) st else P2 st) → g x env st fun e1 => t e1 st (fun b s2 => if b = true then a e1 s2 P1 (fun _ _ => False) else P2 s2) (fun _ _ => False)) → acc.length + ds.length ≤ 100000 → ql (acc ++ (ds.filter p).map G) st → aLcL gd g t a env ql ds acc st
  | [], acc, _, _, hq => by rw [lc_nil]; simpa [hg] using hq
  | x :: xs, acc, h, hl, hq => by
    rw [lc_cons]
    refine ⟨hg, h x (by simp) _ _ ?_⟩
    have hl' : acc.length < 100000 := by simp at hl; omega
    by_cases hp : p x = true
    · rw [if_pos hp]
      exact ⟨hl', lc_imp hg xs _ (fun y hy => h y (by simp [hy])) (by simp at hl ⊢; omega) (by simpa [List.filter_cons, hp] using hq)⟩
    · rw [if_neg hp]
      exact lc_imp hg xs _ (fun y hy => h y (by simp [hy])) (by simp at hl ⊢; omega) (by simpa [List.filter_cons, hp] using hq)
theorem lc_all {G : D → D} (hg : gdOk gd st) {ds acc : List D} (h : ∀ x ∈ ds, ∀ (P1 : D → S → Prop) (P2 : S → Prop), P1 (G x) st → g x env st fun e1 => t e1 st (fun b s2 => if b = true then a e1 s2 P1 (fun _ _ => False) else P2 s2) (fun _ _ => False)) (hl : acc.length + ds.length ≤ 100000) (hq : ql (acc ++ ds.map G) st) : aLcL gd g t a env ql ds acc st :=
  lc_imp (G := G) (p := fun _ => true) hg ds acc (fun x hx P1 P2 hh => h x hx P1 P2 (by simpa using hh)) hl (by rw [List.filter_eq_self.mpr (fun _ _ => rfl)]; exact hq)
/-- the items are tellings of a list -/
theorem lc_of {α : Type} {T : α → D} {G : α → D} (hg : gdOk gd st) : ∀ (l : List α) {acc : List D}, (∀ x ∈ l, ∀ (P1 : D → S → Prop) (P2 : S → Prop), P1 (G x) st → g (T x) env st fun e1 => t e1 st (fun b s2 => if b = true then a e1 s2 P1 (fun _ _ => False) else P2 s2) (fun _ _ => False)) → acc.length + l.length ≤ 100000 → ql (acc ++ l.map G) st → aLcL gd g t a env ql (l.map T) acc st
  | [], acc, _, _, hq => by rw [List.map_nil, lc_nil]; simpa [hg] using hq
  | x :: xs, acc, h, hl, hq => by
    rw [List.map_cons, lc_cons]
    refine ⟨hg, h x (by simp) _ _ ⟨by simp at hl; omega, lc_of hg xs (fun y hy => h y (by simp [hy])) (by simp at hl ⊢; omega) (by simpa using hq)⟩⟩
theorem lc_ofP {α : Type} {T : α → D} {G : α → D} {p : α → Bool} (hg : gdOk gd st) : ∀ (l : List α) {acc : List D}, (∀ x ∈ l, ∀ (P1 : D → S → Prop) (P2 : S → Prop), (if p x = true then P1 (G x) st else P2 st) → g (T x) env st fun e1 => t e1 st (fun b s2 => if b = true then a e1 s2 P1 (fun _ _ => False) else P2 s2) (fun _ _ => False)) → acc.length + l.length ≤ 100000 → ql (acc ++ (l.filter p).map G) st → aLcL gd g t a env ql (l.map T) acc st
  | [], acc, _, _, hq => by rw [List.map_nil, lc_nil]; simpa [hg] using hq
  | x :: xs, acc, h, hl, hq => by
    rw [List.map_cons, lc_cons]
    refine ⟨hg, h x (by simp) _ _ ?_⟩
    by_cases hp : p x = true
    · rw [if_pos hp]
      exact ⟨by simp at hl; omega, lc_ofP hg xs (fun y hy => h y (by simp [hy])) (by simp at hl ⊢; omega) (by simpa [List.filter_cons, hp] using hq)⟩
    · rw [if_neg hp]
      exact lc_ofP hg xs (fun y hy => h y (by simp [hy])) (by simp at hl ⊢; omega) (by simpa [List.filter_cons, hp] using hq)
/-- with a change of the store: by what holds ahead of the items that are left -/
theorem lc_ind {P : List D → List D → S → Prop} (h0 : ∀ acc st, P [] acc st → gdOk gd st ∧ ql acc st) (h1 : ∀ x xs acc st, P (x :: xs) acc st → ∀ (P1 : D → S → Prop) (P2 : S → Prop), (∀ y s, P xs (acc ++ [y]) s → P1 y s) → (∀ s, P xs acc s → P2 s) → gdOk gd st ∧ acc.length < 100000 ∧ g x env st fun e1 => t e1 st (fun b s2 => if b = true then a e1 s2 P1 (fun _ _ => False) else P2 s2) (fun _ _ => False)) : ∀ ds acc st, P ds acc st → aLcL gd g t a env ql ds acc st
  | [], acc, st, h => by rw [lc_nil]; exact h0 acc st h
  | x :: xs, acc, st, h => by
    rw [lc_cons]
    have hl : acc.length < 100000 := (h1 x xs acc st h (fun _ _ => True) (fun _ => True) (fun _ _ _ => trivial) (fun _ _ => trivial)).2.1
    obtain ⟨h2, _, h3⟩ := h1 x xs acc st h (fun y s3 => acc.length < 100000 ∧ aLcL gd g t a env ql xs (acc ++ [y]) s3) (fun s2 => aLcL gd g t a env ql xs acc s2) (fun y s hp => ⟨hl, lc_ind h0 h1 xs _ s hp⟩) (fun s hp => lc_ind h0 h1 xs _ s hp)
    exact ⟨h2, h3⟩
/-- two rows of for -/
theorem lc2_of {α : Type} {T : α → D} {F : α → List D} (hg : gdOk gd st) : ∀ (l : List α) {acc : List D}, (∀ x ∈ l, ∀ (acc : List D) (q2 : List D → S → Prop) (P2 : S → Prop), acc.length + (F x).length ≤ 100000 → q2 (acc ++ F x) st → g (T x) env st fun e1 => t e1 st (fun b s2 => if b = true then it1 e1 s2 (fun ds1 gd1 s3 => aLcL gd1 g1 t1 a (wA vs1 e1) q2 ds1 acc s3) (fun _ _ => False) else P2 s2) (fun _ _ => False)) → acc.length + (l.flatMap F).length ≤ 100000 → ql (acc ++ l.flatMap F) st → aLc2L gd g t it1 g1 t1 a vs1 env ql (l.map T) acc st
  | [], acc, _, _, hq => by rw [List.map_nil, lc2_nil]; simpa [hg] using hq
  | x :: xs, acc, h, hl, hq => by
    rw [List.map_cons, lc2_cons]
    simp only [List.flatMap_cons, List.length_append] at hl
    exact ⟨hg, h x (by simp) acc _ _ (by omega) (lc2_of hg xs (fun y hy => h y (by simp [hy])) (by rw [List.length_append]; omega) (by simpa using hq))⟩
theorem dput_new : ∀ {acc : List (D × D)}, (∀ p ∈ acc, p.1 ≠ x) → DPutD acc x y (acc ++ [(x, y)])
  | [], _ => .nil
  | (k', w) :: r, h => .there (h (k', w) (by simp)) (dput_new fun p hp => h p (by simp [hp]))
theorem dc_of {α : Type} {T KK V : α → D} (hg : gdOk gd st) : ∀ (l : List α) {acc : List (D × D)}, (∀ x ∈ l, ∀ (P1 : D → D → S → Prop) (P2 : S → Prop), P1 (KK x) (V x) st → g (T x) env st fun e1 => t e1 st (fun c s2 => if c = true then a e1 s2 (fun kk s3 => b e1 s3 (fun y s4 => P1 kk y s4) (fun _ _ => False)) (fun _ _ => False) else P2 s2) (fun _ _ => False)) → (∀ x ∈ l, isKeyT (KK x)) → (∀ x ∈ l, ∀ p ∈ acc, p.1 ≠ KK x) → (l.map KK).Nodup → acc.length + l.length ≤ 100000 → qd (acc ++ l.map fun x => (KK x, V x)) st → aDcL gd g t a b env qd (l.map T) acc st
  | [], acc, _, _, _, _, _, hq => by rw [List.map_nil, dc_nil]; simpa [hg] using hq
  | x :: xs, acc, h, hk, hn, hd, hl, hq => by
    rw [List.map_cons, dc_cons]
    rw [List.map_cons, List.nodup_cons] at hd
    refine ⟨hg, h x (by simp) _ _ ⟨hk x (by simp), by simp at hl; omega, _, dput_new (hn x (by simp)), ?_⟩⟩
    refine dc_of hg xs (fun y hy => h y (by simp [hy])) (fun y hy => hk y (by simp [hy])) (fun y hy p hp => ?_) hd.2 (by simp at hl ⊢; omega) (by simpa using hq)
    rcases List.mem_append.mp hp with hp | hp
    · exact hn y (by simp [hy]) p hp
    · have : p = (KK x, V x) := by simpa using hp
      subst this
      exact fun e => hd.1 (show KK x ∈ _ from (show KK x = KK y from e) ▸ List.mem_map_of_mem hy)
theorem dlook_zip {α : Type} {KK V : α → D} : ∀ (l : List α) {x : α}, (l.map KK).Nodup → x ∈ l → DLook (l.map fun x => (KK x, V x)) (KK x) (V x)
  | [], _, _, h => by cases h
  | y :: ys, x, hd, h => by
    rw [List.map_cons, List.nodup_cons] at hd
    rw [List.map_cons]
    rcases List.mem_cons.mp h with rfl | h
    · exact .here
    · exact .there (fun e => hd.1 (show KK y ∈ _ from (show KK y = KK x from e) ▸ List.mem_map_of_mem h)) (dlook_zip ys hd.2 h)
theorem dlook_one {l : List (D × D)} {k v v' : D} (a : DLook l k v) (b : DLook l k v') : v = v' := by
  induction a with
  | here => cases b with
    | here => rfl
    | there h _ => exact (h rfl).elim
  | there h _ ih => cases b with
    | here => exact (h rfl).elim
    | there _ b => exact ih b
end
end AM
set_option Elab.async false
set_option linter.all false
set_option maxRecDepth 100000
set_option maxHeartbeats 4000000
namespace AM
open PySem L2
section
variable {env : List A} {st : S} {k : AK} {s : AS} {cs : List AClause} {xm : Str → Option Bool} {o : Option Nat} {su : Addr → Value → Option Addr → AS} {e : Er} {i : Nat} {c : Str} {a : Addr} {v : Value} {dx : Option Addr} {f : Str} {x : D} {q : D → S → Prop} {er : QX}
@[simp ↓] theorem ev_sTryMix : sTryMix s cs env st k = s env st { k with er := erMix cs k } := propext Iff.rfl
theorem erMix_nil : erMix [] k e env st = k.er e env st := propext Iff.rfl
theorem erMix_yes (h : xm e.cls = some true) : erMix ((xm, o, su) :: cs) k e env st = ∀ a c dx, su a c dx (eAt env (.exc a c dx e) o) st (kAt k o) := propext ⟨fun ⟨b, h1, h2, _⟩ => by rw [h] at h1; cases h1; exact h2 rfl, fun h2 => ⟨true, h, fun _ => h2, fun z => by cases z⟩⟩
theorem erMix_no (h : xm e.cls = some false) : erMix ((xm, o, su) :: cs) k e env st = erMix cs k e env st := propext ⟨fun ⟨b, h1, _, h2⟩ => by rw [h] at h1; cases h1; exact h2 rfl, fun h2 => ⟨false, h, fun z => (by cases z), fun _ => h2⟩⟩
@[simp] theorem kAt_none : kAt k none = { k with er := fun _ _ _ => False } := rfl
@[simp] theorem kAt_some : kAt k (some i) = { nx := fun env' s => k.nx (env'.set i .no) s, rt := k.rt, bk := fun env' s => k.bk (env'.set i .no) s, ct := fun env' s => k.ct (env'.set i .no) s, er := fun _ _ _ => False } := rfl
@[simp] theorem eAt_none {y : A} : eAt env y none = env := rfl
@[simp] theorem eAt_some {y : A} : eAt env y (some i) = env.set i y := rfl
theorem ev_aXf (h : env[i]? = some (.exc a v dx ⟨c, some (f, x)⟩)) : aXf a v dx c i f env st q er = q x st := by
  unfold aXf
  rw [h]
  exact propext ⟨fun ⟨_, _, _, _, x', e, w⟩ => by cases e; exact w, fun w => ⟨rfl, rfl, rfl, rfl, _, rfl, w⟩⟩
end
end AM
set_option Elab.async false
set_option linter.all false
set_option maxRecDepth 100000
set_option maxHeartbeats 4000000
namespace AM
open PySem L2
def dzQ (q : List (D × D) → S → Prop) (x y : D) (s : S) : Prop := ∃ l m, vw s x = .lst l ∧ vw s y = .lst m ∧ l.length = m.length ∧ (∀ k ∈ l, isKeyT k) ∧ l.Nodup ∧ q (l.zip m) s
def lzQ (q : List D → S → Prop) (x y : D) (s : S) : Prop := ∃ l m, vw s x = .lst l ∧ vw s y = .lst m ∧ l.length = m.length ∧ q (zipD l m) s
section
variable {env : List A} {st : S} {q : D → S → Prop} {ql : List D → S → Prop} {er : QX} {k : AK} {a b c : AE} {qd : List (D × D) → S → Prop}
@[simp ↓] theorem ev_fDZip : fDZip a b env st qd er = a env st (fun x s1 => b env s1 (dzQ qd x) er) er := propext Iff.rfl
@[simp ↓] theorem ev_fLZip : fLZip a b env st ql er = a env st (fun x s1 => b env s1 (lzQ ql x) er) er := propext Iff.rfl
@[simp] theorem lzQ_ll {l r : List D} : lzQ ql (.lst l) (.lst r) st = (l.length = r.length ∧ ql (zipD l r) st) := propext ⟨fun ⟨_, _, e1, e2, h1, h2⟩ => by cases e1; cases e2; exact ⟨h1, h2⟩, fun ⟨h1, h2⟩ => ⟨_, _, rfl, rfl, h1, h2⟩⟩
@[simp] theorem dzQ_ll {l r : List D} : dzQ qd (.lst l) (.lst r) st = (l.length = r.length ∧ (∀ k ∈ l, isKeyT k) ∧ l.Nodup ∧ qd (l.zip r) st) := propext ⟨fun ⟨_, _, e1, e2, h1, h2, h3, h4⟩ => by cases e1; cases e2; exact ⟨h1, h2, h3, h4⟩, fun ⟨h1, h2, h3, h4⟩ => ⟨_, _, rfl, rfl, h1, h2, h3, h4⟩⟩
@[simp ↓] theorem ev_sAugIx : sAugIx a b c env st k = a env st (fun x s1 => b env s1 (fun j s2 => ∃ n i l v, x = .ref n ∧ j = .int i ∧ s2[n]? = some (.lst l) ∧ atI l i = some (.int v) ∧ c env s2 (fun y s3 => ∃ w l' j', y = .int w ∧ s3[n]? = some (.lst l') ∧ ixN l'.length i = some j' ∧ k.nx env (s3.set n (.lst (l'.set j' (.int (v + w)))))) (fun e s => k.er e env s)) (fun e s => k.er e env s)) (fun e s => k.er e env s) := propext Iff.rfl
@[simp ↓] theorem ev_sAugDx : sAugDx a b c env st k = a env st (fun x s1 => b env s1 (fun j s2 => ∃ n l v, x = .ref n ∧ isKeyT (vw s2 j) ∧ s2[n]? = some (.dic l) ∧ DLook l (vw s2 j) (.int v) ∧ c env s2 (fun y s3 => ∃ w l' l2, y = .int w ∧ s3[n]? = some (.dic l') ∧ keysT l' ∧ l'.length < 100000 ∧ vw s3 j = vw s2 j ∧ DPutD l' (vw s3 j) (.int (v + w)) l2 ∧ k.nx env (s3.set n (.dic l2))) (fun e s => k.er e env s)) (fun e s => k.er e env s)) (fun e s => k.er e env s) := propext Iff.rfl
end
end AM
set_option Elab.async false
set_option linter.all false
set_option maxRecDepth 100000
set_option maxHeartbeats 4000000
namespace AM
open PySem L2
def revQ (q : D → S → Prop) (x : D) (s : S) : Prop := ∃ l, vw s x = .lst l ∧ q (.lst l.reverse) s
def dpQ (q : List (D × D) → S → Prop) (x : D) (s : S) : Prop := ∃ ps : List (D × D), vw s x = .lst (ps.map fun p => D.tup [p.1, p.2]) ∧ (∀ p ∈ ps, isKeyT p.1) ∧ (ps.map (·.1)).Nodup ∧ q ps s
def idxQ (q : D → S → Prop) (x y : D) (s : S) : Prop := ∃ l j z, vw s x = .lst l ∧ (D.lst l).shp ∧ (vw s y).shp ∧ l[j]? = some z ∧ D.eqv z (vw s y) = true ∧ (∀ (m : Nat) (z' : D), m < j → l[m]? = some z' → D.eqv z' (vw s y) = false) ∧ q (.int (j : Nat)) s
section
variable {env : List A} {st : S} {q : D → S → Prop} {er : QX} {k : AK} {a b c : AE} {qd : List (D × D) → S → Prop}
@[simp ↓] theorem ev_aRev : aRev a env st q er = a env st (revQ q) er := propext Iff.rfl
@[simp] theorem revQ_l {l : List D} : revQ q (.lst l) st = q (.lst l.reverse) st := propext ⟨fun ⟨_, e1, h⟩ => by cases e1; exact h, fun h => ⟨_, rfl, h⟩⟩
@[simp ↓] theorem ev_oRep {l : List D} {i : Int} {q : D → Prop} : oRep (.lst l) (.int i) q = (0 ≤ i ∧ i ≤ 100000 ∧ l.length * i.toNat ≤ 100000 ∧ q (.lst (List.replicate i.toNat l).flatten)) := propext ⟨fun ⟨_, _, e1, e2, h⟩ => by cases e1; cases e2; exact h, fun h => ⟨_, _, rfl, rfl, h⟩⟩
@[simp ↓] theorem ev_fDPairs : fDPairs a env st qd er = a env st (dpQ qd) er := propext Iff.rfl
@[simp ↓] theorem ev_aIdx : aIdx a b env st q er = a env st (fun x s1 => (∃ l, vw s1 x = .lst l) ∧ b env s1 (idxQ q x) er) er := propext Iff.rfl
theorem dpQ_of {ps : List (D × D)} (h1 : ∀ p ∈ ps, isKeyT p.1) (h2 : (ps.map (·.1)).Nodup) (h : qd ps st) : dpQ qd (.lst (ps.map fun p => D.tup [p.1, p.2])) st := ⟨ps, rfl, h1, h2, h⟩
end
end AM
set_option Elab.async false
set_option linter.all false
set_option maxRecDepth 100000
set_option maxHeartbeats 4000000
namespace AM
open PySem L2
section
variable {env : List A} {st : S} {k : AK} {a : AE}
@[simp ↓] theorem ev_sExt {i : Nat} : sExt i a env st k = ∃ n, env[i]? = some (.d (.ref n)) ∧ a env st (fun y s1 => ∃ l l2, s1[n]? = some (.lst l) ∧ vw s1 y = .lst l2 ∧ l.length + l2.length ≤ 100000 ∧ k.nx (env.set i (.d (.ref n))) (s1.set n (.lst (l ++ l2)))) (fun e s1 => k.er e env s1) := propext Iff.rfl
end
section
variable {env : List A} {st : S} {q : D → S → Prop} {qt : Bool → S → Prop} {ql : List D → S → Prop} {er : QX} {k : AK} {a b c : AE} {as : AEs} {s u : AS} {t v : AT} {g : AG} {gs : AGs} {f f2 : O2} {i j : Nat} {d : D} {x y w : D} {xs : List D} {it it1 : AI} {qi : List D → Gd → S → Prop} {af bf : AFr} {z : List A → Prop} {o : O1} {fn : ON} {vs vs1 : List Nat} {gd : Gd} {g1 : AG} {t1 : AT} {m : AF} {dd : List D} {ix : List Nat} {cs : List Str} {cn fd mn : Str} {P : D → Prop} {neg : Bool} {lo hi : AO} {fdc : AFd} {qd : List (D × D) → S → Prop} {qo : Option Int → S → Prop} {xd : List (D × D)}
theorem lc_ofQ {α : Type} {T : α → D} {G : α → D} {p : α → Bool} (hg : gdOk gd st) : ∀ (l : List α) {acc : List D}, (∀ x ∈ l, ∀ (P1 : D → S → Prop) (P2 : S → Prop), (if p x = true then P1 (G x) st else P2 st) → g (T x) env st fun e1 => t e1 st (fun b s2 => if b = true then a e1 s2 P1 (fun _ _ => False) else P2 s2) (fun _ _ => False)) → acc.length + (l.filter p).length ≤ 100000 → ql (acc ++ (l.filter p).map G) st → aLcL gd g t a env ql (l.map T) acc st
  | [], acc, _, _, hq => by rw [List.map_nil, lc_nil]; simpa [hg] using hq
  | x :: xs, acc, h, hl, hq => by
    rw [List.map_cons, lc_cons]
    refine ⟨hg, h x (by simp) _ _ ?_⟩
    by_cases hp : p x = true
    · rw [if_pos hp]
      rw [List.filter_cons_of_pos hp, List.length_cons] at hl
      exact ⟨by omega, lc_ofQ hg xs (fun y hy => h y (by simp [hy])) (by rw [List.length_append, List.length_singleton]; omega) (by simpa [List.filter_cons, hp] using hq)⟩
    · rw [if_neg hp]
      rw [List.filter_cons_of_neg hp] at hl
      exact lc_ofQ hg xs (fun y hy => h y (by simp [hy])) hl (by simpa [List.filter_cons, hp] using hq)
end
end AM
set_option Elab.async false
set_option linter.all false
set_option maxRecDepth 100000
set_option maxHeartbeats 2000000
namespace AM
open PySem L2 Evl
section
variable {c f : Str} {a : AE} {env : List A} {st : S} {qi : List D → Gd → S → Prop} {er : QX}
@[simp ↓] theorem ev_aIterO : aIterO c f a env st qi er = a env st (fun d s1 => ∃ l, itemsO c f d = some l ∧ qi l [] s1) er := propext Iff.rfl
theorem itemsO_obj {c f : Str} {fs : List (Str × D)} {l : List D} (h : fs.lookup f = some (.lst l)) : itemsO c f (.obj c fs) = some l := by
  show (if c = c then (match fs.lookup f with
    | some (.lst l) => some l
    | _ => none) else none) = some l
  rw [if_pos rfl, h]
end
end AM
set_option Elab.async false
set_option linter.all false
set_option maxRecDepth 100000
set_option maxHeartbeats 2000000
namespace AM
open PySem L2 Evl
section
variable {env : List A} {st : S} {q : D → S → Prop} {er : QX} {k : AK} {a b c : AE} {af : AFr} {fd : AFd} {qd : List (D × D) → S → Prop} {i : Nat}
@[simp ↓] theorem ev_sRetD : sRetD fd env st k = fd env st (fun l s1 => k.rt (.ownD l) s1) (fun e s1 => k.er e env s1) := propext Iff.rfl
@[simp ↓] theorem ev_aCellL : aCellL af env st q er = af env st (fun l s1 => q (.ref s1.length) (s1 ++ [.lst l])) er := propext Iff.rfl
@[simp ↓] theorem ev_aCellD : aCellD fd env st q er = fd env st (fun l s1 => q (.ref s1.length) (s1 ++ [.dic l])) er := propext Iff.rfl
@[simp ↓] theorem ev_aClrD : aClrD a env st q er = a env st (fun x s1 => ∃ n l, x = .ref n ∧ s1[n]? = some (.dic l) ∧ q .non (s1.set n (.dic []))) er := propext Iff.rfl
@[simp ↓] theorem ev_aClrL : aClrL a env st q er = a env st (fun x s1 => ∃ n l, x = .ref n ∧ s1[n]? = some (.lst l) ∧ q .non (s1.set n (.lst []))) er := propext Iff.rfl
@[simp ↓] theorem ev_aPopL : aPopL a env st q er = a env st (fun x s1 => ∃ n l y, x = .ref n ∧ s1[n]? = some (.lst l) ∧ l[l.length - 1]? = some y ∧ q y (s1.set n (.lst l.dropLast))) er := propext Iff.rfl
@[simp ↓] theorem ev_aPopI : aPopI a b env st q er = a env st (fun x s1 => ∃ n l0, x = .ref n ∧ s1[n]? = some (.lst l0) ∧ b env s1 (fun j s2 => ∃ (i : Nat) (l : List D) (y : D), j = .int (i : Int) ∧ i < 2 ^ 63 ∧ s2[n]? = some (.lst l) ∧ l[i]? = some y ∧ q y (s2.set n (.lst (l.eraseIdx i)))) er) er := propext Iff.rfl
@[simp ↓] theorem ev_aGetD : aGetD a b c env st q er = a env st (fun x s1 => (∃ l0, vw s1 x = .dic l0) ∧ b env s1 (fun y s2 => c env s2 (fun z s3 => ∃ l r, vw s3 x = .dic l ∧ isKeyT (vw s3 y) ∧ DGetD l (vw s3 y) r ∧ q (r.getD z) s3) er) er) er := propext Iff.rfl
@[simp ↓] theorem ev_sSetDx : sSetDx a b c env st k = c env st (fun d s1 => a env s1 (fun x s2 => b env s2 (fun j s3 => ∃ n l l2, x = .ref n ∧ s3[n]? = some (.dic l) ∧ isKeyT (vw s3 j) ∧ l.length < 100000 ∧ DPutD l (vw s3 j) d l2 ∧ k.nx env (s3.set n (.dic l2))) (fun e s => k.er e env s)) (fun e s => k.er e env s)) (fun e s => k.er e env s) := propext Iff.rfl
@[simp ↓] theorem ev_sCellD : sCellD fd i env st k = fd env st (fun l s1 => k.nx (env.set i (.d (.ref s1.length))) (s1 ++ [.dic l])) (fun e s1 => k.er e env s1) := propext Iff.rfl
end
/-- a dict is as it is -/
theorem hits_self {α : Type} {KK V : α → D} {m : List (D × D)} : ∀ {L : List α}, (∀ t ∈ L, DLook m (KK t) (V t)) → (∀ t ∈ L, (V t).shp ∧ D.eqv (V t) (V t) = true) → DHits m (L.map fun t => (KK t, V t)) true
  | [], _, _ => .nil
  | t :: L, h, hs => by
    have h1 := hs t (by simp)
    have := DHits.hit (h t (by simp)) h1.1 h1.1 (hits_self (L := L) (fun x hx => h x (by simp [hx])) fun x hx => hs x (by simp [hx]))
    rw [h1.2, Bool.true_and] at this
    exact this
theorem neD_self {α : Type} {KK V : α → D} {L : List α} (hn : (L.map KK).Nodup) (hs : ∀ t ∈ L, (V t).shp ∧ D.eqv (V t) (V t) = true) {q : D → Prop} (h : q (.bl false)) : oNeD (.dic (L.map fun t => (KK t, V t))) (.dic (L.map fun t => (KK t, V t))) q :=
  ⟨_, _, true, rfl, rfl, fun _ => hits_self (fun t ht => dlook_zip L hn ht) hs, by simpa using h⟩
theorem eqD_self {α : Type} {KK V : α → D} {L : List α} (hn : (L.map KK).Nodup) (hs : ∀ t ∈ L, (V t).shp ∧ D.eqv (V t) (V t) = true) {q : D → Prop} (h : q (.bl true)) : oEqD (.dic (L.map fun t => (KK t, V t))) (.dic (L.map fun t => (KK t, V t))) q :=
  ⟨_, _, true, rfl, rfl, fun _ => hits_self (fun t ht => dlook_zip L hn ht) hs, by simpa using h⟩
end AM
set_option Elab.async false
set_option linter.all false
set_option maxRecDepth 100000
set_option maxHeartbeats 2000000
namespace AM
open PySem L2 Evl
section
variable {env : List A} {st : S} {q : D → S → Prop} {er : QX} {k : AK} {a b c : AE} {af : AFr} {i : Nat}
/-- what x[:] = e asks behind its operands -/
def setWQ (env : List A) (k : AK) (d x : D) (s2 : S) : Prop := match x, d with
  | .ref n, .lst ys => ∃ l, s2[n]? = some (.lst l) ∧ l.length + ys.length < 100000 ∧ k.nx env (s2.set n (.lst ys))
  | _, _ => False
@[simp ↓] theorem ev_sSetW : sSetW b a env st k = a env st (fun d s1 => b env s1 (setWQ env k d) (fun e s => k.er e env s)) (fun e s => k.er e env s) := propext Iff.rfl
@[simp ↓] theorem setWQ_ref {n : Nat} {ys : List D} {s2 : S} : setWQ env k (.lst ys) (.ref n) s2 = ∃ l, s2[n]? = some (.lst l) ∧ l.length + ys.length < 100000 ∧ k.nx env (s2.set n (.lst ys)) := propext Iff.rfl
@[simp ↓] theorem ev_oRepT {l : List D} {n : Int} {q : D → Prop} : oRepT (.tup l) (.int n) q = (l ≠ [] ∧ 1 ≤ n ∧ n ≤ 1000 ∧ l.length ≤ 1000 ∧ q (.tup (List.replicate n.toNat l).flatten)) :=
  propext ⟨fun ⟨l', n', e1, e2, h⟩ => by cases e1; cases e2; exact h, fun h => ⟨l, n, rfl, rfl, h⟩⟩
@[simp] theorem isLst_lst {l : List D} : isLst (.lst l) = True := propext Iff.rfl
@[simp] theorem isNon_non : isNon .non = True := propext Iff.rfl
end
end AM
set_option Elab.async false
set_option linter.all false
set_option maxRecDepth 100000
set_option maxHeartbeats 2000000
namespace AM
open PySem L2 Evl
section
variable {env : List A} {st : S} {k : AK} {s : AS} {i : Nat}
@[simp ↓] theorem ev_sFrzIn : sFrzIn i s env st k = ∃ n st2, env[i]? = some (.d (.ref n)) ∧ FrzS n st st2 ∧ s env st2 k := propext Iff.rfl
end
end AM
set_option Elab.async false
set_option linter.all false
set_option maxRecDepth 100000
set_option maxHeartbeats 2000000
namespace AM
open PySem L2 Evl
section
variable {env : List A} {st : S} {q : D → S → Prop} {er : QX} {a b : AE} {c : Str} {m : AF}
def lenQ (q : D → S → Prop) (r : Rs) (s : S) : Prop := ∃ n : Nat, r = .d (.int (n : Int)) ∧ n < 2 ^ 62 ∧ q (.int (n : Int)) s
@[simp] theorem lenQ_int {n : Nat} : lenQ q (.d (.int (n : Int))) st = (n < 2 ^ 62 ∧ q (.int (n : Int)) st) := propext ⟨fun ⟨k, e, h1, h2⟩ => by
  have : (n : Int) = k := by injection e with e; injection e
  have : n = k := by omega
  subst this; exact ⟨h1, h2⟩, fun h => ⟨n, rfl, h⟩⟩
def cntQ (q : D → S → Prop) (x y : D) (s2 : S) : Prop := ∃ l, vw s2 x = .lst l ∧ (D.lst l).shp ∧ (vw s2 y).shp ∧ q (.int ((l.countP fun z => D.eqv z (vw s2 y) : Nat) : Int)) s2
@[simp ↓] theorem ev_aOwnLen : aOwnLen c m a env st q er = a env st (fun x s1 => isCls c (vw s1 x) ∧ m [x] s1 (lenQ q) er) er := propext Iff.rfl
@[simp ↓] theorem ev_aCnt : aCnt a b env st q er = a env st (fun x s1 => (∃ l, vw s1 x = .lst l) ∧ b env s1 (cntQ q x) er) er := propext Iff.rfl
end
end AM
set_option Elab.async false
set_option linter.all false
set_option maxRecDepth 100000
set_option maxHeartbeats 2000000
namespace AM
open PySem L2 Evl
section
variable {env : List A} {st : S} {ql : List D → S → Prop} {er : QX} {a b : AE} {k : AK} {i j : Nat}
def rng2Q (ql : List D → S → Prop) (x y : D) (s2 : S) : Prop := ∃ m n : Int, x = .int m ∧ y = .int n ∧ 0 ≤ m ∧ m ≤ 100000 ∧ 0 ≤ n ∧ n ≤ 100000 ∧ ql ((List.range (n - m).toNat).map fun (i : Nat) => D.int (m + (i : Int))) s2
@[simp] theorem rng2Q_int {m n : Int} : rng2Q ql (.int m) (.int n) st = (0 ≤ m ∧ m ≤ 100000 ∧ 0 ≤ n ∧ n ≤ 100000 ∧ ql ((List.range (n - m).toNat).map fun (i : Nat) => D.int (m + (i : Int))) st) := propext ⟨fun ⟨_, _, e1, e2, h⟩ => by cases e1; cases e2; exact h, fun h => ⟨_, _, rfl, rfl, h⟩⟩
@[simp ↓] theorem ev_fLRng2 : fLRng2 a b env st ql er = a env st (fun x s1 => b env s1 (rng2Q ql x) er) er := propext Iff.rfl
def unpQ (k : AK) (i j : Nat) (env : List A) (d : D) (s1 : S) : Prop := ∃ x t, vw s1 d = .lst (x :: t) ∧ k.nx ((env.set i (.d x)).set j (.d (.lst t))) s1
@[simp] theorem unpQ_cons {x : D} {t : List D} : unpQ k i j env (.lst (x :: t)) st = k.nx ((env.set i (.d x)).set j (.d (.lst t))) st := propext ⟨fun ⟨_, _, e, h⟩ => by cases e; exact h, fun h => ⟨_, _, rfl, h⟩⟩
@[simp ↓] theorem ev_sUnp1 : sUnp1 i j a env st k = a env st (unpQ k i j env) (fun e s1 => k.er e env s1) := propext Iff.rfl
end
end AM
set_option Elab.async false
set_option linter.all false
set_option maxRecDepth 100000
set_option maxHeartbeats 2000000
namespace AM
open PySem L2 Evl
section
variable {c f : Str} {a b : AE} {env : List A} {st : S} {qi : List D → Gd → S → Prop} {er : QX} {k : AK}
@[simp ↓] theorem ev_aEnumO : aEnumO c f a env st qi er = a env st (fun d s1 => ∃ l, itemsO c f d = some l ∧ qi (enumD l) [] s1) er := propext Iff.rfl
@[simp ↓] theorem ev_aZipO : aZipO c f a b env st qi er = a env st (fun x s1 => b env s1 (fun y s2 => ∃ l m, itemsO c f x = some l ∧ itemsD (vw s2 y) = some m ∧ qi (zipD l m) (gdOf s2 y) s2) er) er := propext Iff.rfl
@[simp ↓] theorem ev_sNo : sNo env st k = False := propext Iff.rfl
end
end AM
set_option Elab.async false
set_option linter.all false
set_option maxRecDepth 100000
set_option maxHeartbeats 2000000
namespace AM
open PySem L2 Evl
section
variable {q : D → Prop} {x : D} {l : List (D × D)}
@[simp ↓] theorem ev_oInD : oInD x (.dic l) q = (isKeyT x ∧ ∃ r, DGetD l x r ∧ q (.bl r.isSome)) := propext ⟨fun ⟨_, e, w⟩ => by cases e; exact w, fun w => ⟨_, rfl, w⟩⟩
@[simp ↓] theorem ev_oNotInD : oNotInD x (.dic l) q = (isKeyT x ∧ ∃ r, DGetD l x r ∧ q (.bl (!r.isSome))) := propext ⟨fun ⟨_, e, w⟩ => by cases e; exact w, fun w => ⟨_, rfl, w⟩⟩
end
end AM
set_option Elab.async false
set_option linter.all false
set_option maxRecDepth 100000
set_option maxHeartbeats 2000000
namespace AM
open PySem L2 Evl
section
variable {a b : AE} {env : List A} {st : S} {q : D → S → Prop} {qr : Rs → S → Prop} {qi : List D → Gd → S → Prop} {er : QX} {k : AK} {d : D} {ds : List D} {l : List (D × D)} {r r2 : AR} {t : AT} {m : AF} {as : AEs} {af : AFr} {ad : AFd} {f g : O2} {x y : D} {qd : D → Prop} {dd : List D}
/-- what is walked -/
def keyQ (qi : List D → Gd → S → Prop) (d : D) (s : S) : Prop := ∃ l g, lkD s d = some (l, g) ∧ qi (l.map Prod.fst) g s
def itmQ (qi : List D → Gd → S → Prop) (d : D) (s : S) : Prop := ∃ l g, lkD s d = some (l, g) ∧ qi (itemsT l) g s
@[simp ↓] theorem ev_aKeys : aKeys a env st qi er = a env st (keyQ qi) er := propext Iff.rfl
@[simp ↓] theorem ev_aItems : aItems a env st qi er = a env st (itmQ qi) er := propext Iff.rfl
@[simp] theorem keyQ_dic : keyQ qi (.dic l) st = qi (l.map Prod.fst) [] st := propext ⟨fun ⟨_, _, e, w⟩ => by cases e; exact w, fun w => ⟨_, _, rfl, w⟩⟩
@[simp] theorem itmQ_dic : itmQ qi (.dic l) st = qi (itemsT l) [] st := propext ⟨fun ⟨_, _, e, w⟩ => by cases e; exact w, fun w => ⟨_, _, rfl, w⟩⟩
theorem keyQ_of {gd : Gd} (e : lkD st d = some (l, gd)) : keyQ qi d st = qi (l.map Prod.fst) gd st := propext ⟨fun ⟨_, _, e2, w⟩ => by rw [e] at e2; cases e2; exact w, fun w => ⟨_, _, e, w⟩⟩
theorem itmQ_of {gd : Gd} (e : lkD st d = some (l, gd)) : itmQ qi d st = qi (itemsT l) gd st := propext ⟨fun ⟨_, _, e2, w⟩ => by rw [e] at e2; cases e2; exact w, fun w => ⟨_, _, e, w⟩⟩
@[simp ↓] theorem ev_rV : rV a env st qr er = a env st (fun d s => qr (.d d) s) er := propext Iff.rfl
@[simp ↓] theorem ev_rF : rF af env st qr er = af env st (fun l s => qr (.own l) s) er := propext Iff.rfl
@[simp ↓] theorem ev_rD : rD ad env st qr er = ad env st (fun l s => qr (.ownD l) s) er := propext Iff.rfl
@[simp ↓] theorem ev_rIf : rIf t r r2 env st qr er = t env st (fun c s1 => if c = true then r env s1 qr er else r2 env s1 qr er) er := propext Iff.rfl
@[simp ↓] theorem ev_rCall : rCall m as dd env st qr er = as env st (fun ds s1 => m (ds ++ dd) s1 qr er) er := propext Iff.rfl
@[simp ↓] theorem ev_aCellR : aCellR r env st q er = r env st (cellQ q) er := propext Iff.rfl
@[simp ↓] theorem ev_sRetR : sRetR r env st k = r env st (fun x s1 => k.rt x s1) (fun e s1 => k.er e env s1) := propext Iff.rfl
@[simp] theorem cellQ_d : cellQ q (.d d) st = q d st := propext Iff.rfl
@[simp] theorem cellQ_own : cellQ q (.own ds) st = q (.ref st.length) (st ++ [.lst ds]) := propext Iff.rfl
@[simp] theorem cellQ_ownD : cellQ q (.ownD l) st = q (.ref st.length) (st ++ [.dic l]) := propext Iff.rfl
theorem alt_l (h : f x y qd) : oAlt f g x y qd := .inl h
theorem alt_r (h : g x y qd) : oAlt f g x y qd := .inr h
end
/-! ### a dict at hand: frozen, a cell, a locked cell; a piece that runs while it is locked -/
def DicS (d : D) (x : List (D × D)) (s : S) : Prop := d = .dic x ∨ ∃ n, d = .ref n ∧ (s[n]? = some (.dic x) ∨ ∃ t, s[n]? = some (.dicL t x))
theorem DicS.vw {d : D} {x : List (D × D)} {s : S} (h : DicS d x s) : AM.vw s d = .dic x := by
  rcases h with rfl | ⟨n, rfl, h | ⟨t, h⟩⟩
  · rfl
  · unfold AM.vw; simp only [h]
  · unfold AM.vw; simp only [h]
structure LkF (d : D) (x : List (D × D)) (f : S → S) (g : Gd) (st : S) : Prop where
  at_ : ∀ s, (∀ n, d = .ref n → s[n]? = st[n]?) → lkD (f s) d = some (x, g) ∧ AM.vw (f s) d = .dic x ∧ gdOk g (f s)
  len : ∀ s, (f s).length = s.length
  ne : ∀ s m, d ≠ .ref m → (f s)[m]? = s[m]?
  set : ∀ s m c, d ≠ .ref m → (f s).set m c = f (s.set m c)
  app : ∀ s c, (∀ n, d = .ref n → n < s.length) → f s ++ [c] = f (s ++ [c])
theorem sLk_of {i : Nat} {js : List Nat} {a : AS} {env : List A} {st : S} {k : AK} {d0 d : D} {x : List (D × D)} (e : env[i]? = some (.d d0)) (p : pathD st d0 js = some d) (hd : DicS d x st)
    (h : ∀ (f : S → S) (g : Gd) (k' : AK), LkF d x f g st → (∀ s env', (∀ n, d = .ref n → s[n]? = st[n]?) → k.nx env' s → k'.nx env' (f s)) → (∀ s r, (∀ n, d = .ref n → s[n]? = st[n]?) → k.rt r s → k'.rt r (f s)) → (∀ s env', (∀ n, d = .ref n → s[n]? = st[n]?) → k.bk env' s → k'.bk env' (f s)) → (∀ s env', (∀ n, d = .ref n → s[n]? = st[n]?) → k.ct env' s → k'.ct env' (f s)) → k'.er = k.er → a env (f st) k') : sLk i js a env st k := by
  refine ⟨d0, d, e, p, ?_⟩
  rcases hd with rfl | ⟨n, rfl, hn | ⟨t, hn⟩⟩
  · exact h id [] k ⟨fun s _ => ⟨rfl, rfl, fun _ z => nomatch z⟩, fun _ => rfl, fun _ _ _ => rfl, fun _ _ _ _ => rfl, fun _ _ _ => rfl⟩ (fun _ _ _ w => w) (fun _ _ _ w => w) (fun _ _ _ w => w) (fun _ _ _ w => w) rfl
  · show lkS n a env st k
    unfold lkS
    rw [hn]
    intro t
    have hl : n < st.length := (List.getElem?_eq_some_iff.mp hn).1
    have back : ∀ s : S, s[n]? = st[n]? → (s.set n (.dicL t x)).set n (.dic x) = s := fun s hs => by
      rw [List.set_set]
      refine List.ext_getElem? fun m => ?_
      by_cases hm : m = n
      · subst hm
        rw [List.getElem?_set_self (by rw [hn] at hs; exact (List.getElem?_eq_some_iff.mp hs).1), hs, hn]
      · rw [List.getElem?_set_ne (Ne.symm hm)]
    have at9 : ∀ s : S, s[n]? = st[n]? → (s.set n (.dicL t x))[n]? = some (.dicL t x) := fun s hs => List.getElem?_set_self (by rw [hn] at hs; exact (List.getElem?_eq_some_iff.mp hs).1)
    refine h (fun s => s.set n (.dicL t x)) [(n, .dicL t x)] _ ⟨fun s hs => ?_, fun s => by simp, fun s m hm => List.getElem?_set_ne (fun z => hm (by rw [z])), fun s m c hm => ?_, fun s c hl2 => ?_⟩ (fun s env' hs w => ⟨at9 s (hs n rfl), by show k.nx env' ((s.set n (.dicL t x)).set n (.dic x)); rw [back s (hs n rfl)]; exact w⟩) (fun s r hs w => ⟨at9 s (hs n rfl), by show k.rt r ((s.set n (.dicL t x)).set n (.dic x)); rw [back s (hs n rfl)]; exact w⟩) (fun s env' hs w => ⟨at9 s (hs n rfl), by show k.bk env' ((s.set n (.dicL t x)).set n (.dic x)); rw [back s (hs n rfl)]; exact w⟩) (fun s env' hs w => ⟨at9 s (hs n rfl), by show k.ct env' ((s.set n (.dicL t x)).set n (.dic x)); rw [back s (hs n rfl)]; exact w⟩) rfl
    · have z := at9 s (hs n rfl)
      refine ⟨?_, ?_, fun y hy => ?_⟩
      · unfold lkD; simp only [z]
      · unfold AM.vw; simp only [z]
      · have : y = (n, C.dicL t x) := by simpa using hy
        subst this
        exact z
    · rw [List.set_comm]; exact fun z => hm (by rw [z])
    · rw [List.set_append_left _ _ (hl2 n rfl)]
  · show lkS n a env st k
    unfold lkS
    rw [hn]
    refine h id [(n, .dicL t x)] k ⟨fun s hs => ?_, fun _ => rfl, fun _ _ _ => rfl, fun _ _ _ _ => rfl, fun _ _ _ => rfl⟩ (fun _ _ _ w => w) (fun _ _ _ w => w) (fun _ _ _ w => w) (fun _ _ _ w => w) rfl
    have z : s[n]? = some (.dicL t x) := (hs n rfl).trans hn
    refine ⟨?_, ?_, fun y hy => ?_⟩
    · unfold lkD; simp only [id, z]
    · unfold AM.vw; simp only [id, z]
    · have : y = (n, C.dicL t x) := by simpa using hy
      subst this
      exact z
/-- a dict comprehension with a test -/
theorem dc_ofP {gd : Gd} {g : AG} {t : AT} {a b : AE} {env : List A} {st : S} {qd : List (D × D) → S → Prop} {α : Type} {T KK V : α → D} {p : α → Bool} (hg : gdOk gd st) : ∀ (l : List α) {acc : List (D × D)}, (∀ x ∈ l, ∀ (P1 : D → D → S → Prop) (P2 : S → Prop), (if p x = true then P1 (KK x) (V x) st else P2 st) → g (T x) env st fun e1 => t e1 st (fun c s2 => if c = true then a e1 s2 (fun kk s3 => b e1 s3 (fun y s4 => P1 kk y s4) (fun _ _ => False)) (fun _ _ => False) else P2 s2) (fun _ _ => False)) → (∀ x ∈ l, isKeyT (KK x)) → (∀ x ∈ l, ∀ z ∈ acc, z.1 ≠ KK x) → (l.map KK).Nodup → acc.length + l.length ≤ 100000 → qd (acc ++ (l.filter p).map fun x => (KK x, V x)) st → aDcL gd g t a b env qd (l.map T) acc st
  | [], acc, _, _, _, _, _, hq => by rw [List.map_nil, dc_nil]; simpa [hg] using hq
  | x :: xs, acc, h, hk, hn, hd, hl, hq => by
    rw [List.map_cons, dc_cons]
    rw [List.map_cons, List.nodup_cons] at hd
    refine ⟨hg, h x (by simp) _ _ ?_⟩
    by_cases hp : p x = true
    · rw [if_pos hp]
      rw [List.filter_cons_of_pos hp] at hq
      refine ⟨hk x (by simp), by simp at hl; omega, _, dput_new (hn x (by simp)), ?_⟩
      refine dc_ofP hg xs (fun y hy => h y (by simp [hy])) (fun y hy => hk y (by simp [hy])) (fun y hy z hz => ?_) hd.2 (by simp at hl ⊢; omega) (by simpa using hq)
      rcases List.mem_append.mp hz with hz | hz
      · exact hn y (by simp [hy]) z hz
      · have : z = (KK x, V x) := by simpa using hz
        subst this
        exact fun e => hd.1 (show KK x ∈ _ from (show KK x = KK y from e) ▸ List.mem_map_of_mem hy)
    · rw [if_neg hp]
      rw [List.filter_cons_of_neg hp] at hq
      exact dc_ofP hg xs (fun y hy => h y (by simp [hy])) (fun y hy => hk y (by simp [hy])) (fun y hy z hz => hn y (by simp [hy]) z hz) hd.2 (by simp at hl ⊢; omega) hq
end AM
set_option Elab.async false
set_option linter.all false
set_option maxRecDepth 100000
set_option maxHeartbeats 2000000
namespace AM
open PySem L2 Evl
section
variable {a b c d : AE} {env : List A} {st : S} {q : D → S → Prop} {qf : List D → S → Prop} {qi : List D → Gd → S → Prop} {er : QX} {x y z : D} {xs ys zs : List D} {f f2 f3 : O2} {it : AI} {g : AG} {t : AT} {vs : List Nat} {gd : Gd} {acc : List Int} {qs : List Int → S → Prop}
def sortIQ (qf : List D → S → Prop) (x : D) (s : S) : Prop := ∃ ns : List Int, vw s x = .lst (ns.map .int) ∧ ∀ ns' : List Int, ns'.Perm ns → ns'.Pairwise (· ≤ ·) → qf (ns'.map .int) s
def sortTQ (qf : List D → S → Prop) (x : D) (s : S) : Prop := ∃ (d : Nat) (B : Int) (l : List (List Int)), vw s x = .lst (l.map tupD) ∧ 1 ≤ d ∧ l.length < 64 ∧ (∀ ns ∈ l, ns.length = d ∧ TS.Bd B ns) ∧
  ∀ l' : List (List Int), l'.Perm l → l'.Pairwise (fun x y => TS.code B x ≤ TS.code B y) → qf (l'.map tupD) s
def keysLQ (qf : List D → S → Prop) (x : D) (s : S) : Prop := ∃ l, vw s x = .dic l ∧ qf (l.map Prod.fst) s
def ssQ (g : AG) (t : AT) (a : AE) (vs : List Nat) (env : List A) (qf : List D → S → Prop) (ds : List D) (gd : Gd) (s1 : S) : Prop := aScL gd g t a (wA vs env) (fun acc s2 => ∀ ns : List Int, ns.Pairwise (· < ·) → (∀ k, k ∈ ns ↔ k ∈ acc) → qf (ns.map .int) s2) ds [] s1
def eqVQ (neg : Bool) (q : D → S → Prop) (x y : D) (s : S) : Prop := (vwN s 4 x).shp ∧ (vwN s 4 y).shp ∧ q (.bl (neg != D.eqv (vwN s 4 x) (vwN s 4 y))) s
def remQ (q : D → S → Prop) (n : Nat) (y : D) (s : S) : Prop := ∃ (ns : List Int) (c : Int), y = .int c ∧ s[n]? = some (.lst (ns.map .int)) ∧ c ∈ ns ∧ q .non (s.set n (.lst ((ns.erase c).map .int)))
def zip3Q (q : List D → Gd → S → Prop) (x y z : D) (s : S) : Prop := ∃ l m n, itemsD (vw s x) = some l ∧ itemsD (vw s y) = some m ∧ itemsD (vw s z) = some n ∧ q (zipT l m n) (gdOf s x ++ (gdOf s y ++ gdOf s z)) s
@[simp ↓] theorem ev_fSortI : fSortI a env st qf er = a env st (sortIQ qf) er := propext Iff.rfl
@[simp ↓] theorem ev_fSortT : fSortT a env st qf er = a env st (sortTQ qf) er := propext Iff.rfl
@[simp ↓] theorem ev_fKeysL : fKeysL a env st qf er = a env st (keysLQ qf) er := propext Iff.rfl
@[simp ↓] theorem ev_fSs : fSs it g t a vs env st qf er = it env st (ssQ g t a vs env qf) er := propext Iff.rfl
@[simp ↓] theorem ev_aEqV {neg : Bool} : aEqV neg a b env st q er = a env st (fun x s1 => b env s1 (eqVQ neg q x) er) er := propext Iff.rfl
@[simp ↓] theorem ev_aRem : aRem a b env st q er = a env st (fun x s1 => ∃ n l, x = .ref n ∧ s1[n]? = some (.lst l) ∧ b env s1 (remQ q n) er) er := propext Iff.rfl
@[simp ↓] theorem ev_aZip3 : aZip3 a b c env st qi er = a env st (fun x s1 => b env s1 (fun y s2 => c env s2 (zip3Q qi x y) er) er) er := propext Iff.rfl
@[simp ↓] theorem ev_aChain3 : aChain3 f f2 f3 a b c d env st q er = a env st (fun x s1 => b env s1 (fun y s2 => f (vw s2 x) (vw s2 y) fun z => bq z fun k => if k = true then c env s2 (fun w s3 => f2 (vw s3 y) (vw s3 w) fun z => bq z fun k => if k = true then d env s3 (fun u s4 => f3 (vw s4 w) (vw s4 u) fun z => q z s4) er else q (.bl false) s3) er else q (.bl false) s2) er) er := propext Iff.rfl
theorem sortIQ_of {ns : List Int} (e : vw st x = .lst (ns.map .int)) (h : ∀ ns' : List Int, ns'.Perm ns → ns'.Pairwise (· ≤ ·) → qf (ns'.map .int) st) : sortIQ qf x st := ⟨ns, e, h⟩
theorem keysLQ_of {l : List (D × D)} (e : vw st x = .dic l) : keysLQ qf x st = qf (l.map Prod.fst) st := propext ⟨fun ⟨_, e2, w⟩ => by rw [e] at e2; cases e2; exact w, fun w => ⟨_, e, w⟩⟩
theorem zip3Q_of (e : itemsD (vw st x) = some xs) (e2 : itemsD (vw st y) = some ys) (e3 : itemsD (vw st z) = some zs) : zip3Q qi x y z st = qi (zipT xs ys zs) (gdOf st x ++ (gdOf st y ++ gdOf st z)) st :=
  propext ⟨fun ⟨_, _, _, h1, h2, h3, w⟩ => by rw [e] at h1; cases h1; rw [e2] at h2; cases h2; rw [e3] at h3; cases h3; exact w, fun w => ⟨_, _, _, e, e2, e3, w⟩⟩
@[simp] theorem zip3Q_lll : zip3Q qi (.lst xs) (.lst ys) (.lst zs) st = qi (zipT xs ys zs) [] st := zip3Q_of rfl rfl rfl
theorem eqVQ_of {neg : Bool} {u v : D} (e1 : vwN st 4 x = u) (e2 : vwN st 4 y = v) (h1 : u.shp) (h2 : v.shp) : eqVQ neg q x y st = q (.bl (neg != D.eqv u v)) st := by
  subst e1
  subst e2
  exact propext ⟨fun h => h.2.2, fun h => ⟨h1, h2, h⟩⟩
theorem ss_nil : aScL gd g t a env qs [] acc st = (gdOk gd st ∧ qs acc st) := propext Iff.rfl
theorem ss_ofP {α : Type} {T : α → D} {G : α → Int} {p : α → Bool} (hg : gdOk gd st) : ∀ (l : List α) {acc : List Int}, (∀ x ∈ l, ∀ (P1 : D → S → Prop) (P2 : S → Prop), (if p x = true then P1 (.int (G x)) st else P2 st) → g (T x) env st fun e1 => t e1 st (fun b s2 => if b = true then a e1 s2 P1 (fun _ _ => False) else P2 s2) (fun _ _ => False)) →
    acc.length + l.length ≤ 60 → qs (acc ++ (l.filter p).map G) st → aScL gd g t a env qs (l.map T) acc st
  | [], acc, _, _, hq => ⟨hg, by simpa using hq⟩
  | x :: xs, acc, h, hl, hq => by
    refine ⟨hg, h x (by simp) (fun y s3 => ∃ c : Int, y = .int c ∧ acc.length < 60 ∧ aScL gd g t a env qs (xs.map T) (acc ++ [c]) s3) (fun s2 => aScL gd g t a env qs (xs.map T) acc s2) ?_⟩
    simp at hl
    by_cases hp : p x = true
    · rw [if_pos hp]
      rw [List.filter_cons_of_pos hp] at hq
      exact ⟨_, rfl, by omega, ss_ofP hg xs (fun y hy => h y (by simp [hy])) (by simp; omega) (by simpa using hq)⟩
    · rw [if_neg hp]
      rw [List.filter_cons_of_neg hp] at hq
      exact ss_ofP hg xs (fun y hy => h y (by simp [hy])) (by omega) hq
theorem ss_of {α : Type} {T : α → D} {G : α → Int} (hg : gdOk gd st) (l : List α) {acc : List Int} (h : ∀ x ∈ l, ∀ (P1 : D → S → Prop) (P2 : S → Prop), P1 (.int (G x)) st → g (T x) env st fun e1 => t e1 st (fun b s2 => if b = true then a e1 s2 P1 (fun _ _ => False) else P2 s2) (fun _ _ => False))
    (hl : acc.length + l.length ≤ 60) (hq : qs (acc ++ l.map G) st) : aScL gd g t a env qs (l.map T) acc st :=
  ss_ofP (p := fun _ => true) hg l (fun x hx P1 P2 hp => h x hx P1 P2 (by simpa using hp)) hl (by rw [List.filter_eq_self.mpr (by simp)]; exact hq)
/-- ascending lists with the same members are the same -/
theorem asc_ext : ∀ {l m : List Int}, l.Pairwise (· < ·) → m.Pairwise (· < ·) → (∀ k, k ∈ l ↔ k ∈ m) → l = m
  | [], [], _, _, _ => rfl
  | [], y :: m, _, _, h => absurd ((h y).mpr (by simp)) (by simp)
  | x :: l, [], _, _, h => absurd ((h x).mp (by simp)) (by simp)
  | x :: l, y :: m, h1, h2, h => by
    rw [List.pairwise_cons] at h1 h2
    have e : x = y := by
      have a1 := (h x).mp (by simp)
      have a2 := (h y).mpr (by simp)
      rcases List.mem_cons.mp a1 with z | z
      · exact z
      · rcases List.mem_cons.mp a2 with w | w
        · exact w.symm
        · have := h2.1 x z
          have := h1.1 y w
          omega
    subst e
    rw [asc_ext h1.2 h2.2 fun k => ?_]
    have hk := h k
    simp only [List.mem_cons] at hk
    constructor
    · intro z
      rcases hk.mp (.inr z) with w | w
      · subst w; exact absurd (h1.1 k z) (by omega)
      · exact w
    · intro z
      rcases hk.mpr (.inr z) with w | w
      · subst w; exact absurd (h2.1 k z) (by omega)
      · exact w
end
end AM
set_option Elab.async false
set_option linter.all false
set_option maxRecDepth 100000
set_option maxHeartbeats 2000000
namespace AM
open PySem L2 Evl
section
variable {a b c d : AE} {env : List A} {st : S} {q : D → S → Prop} {qf : List D → S → Prop} {er : QX} {x y z : D} {xs ys zs : List D}
def listOQ (c f : Str) (ml : AF) (qf : List D → S → Prop) (d : D) (s1 : S) : Prop := ∃ l, itemsO c f d = some l ∧ l.length ≤ 1000 ∧ ml [d] s1 (fun r s2 => ∃ n : Nat, r = .d (.int (n : Int)) ∧ n < 100000 ∧ qf l s2) (fun _ _ => False)
@[simp ↓] theorem ev_fListO {c f : Str} {ml : AF} : fListO c f ml a env st qf er = a env st (listOQ c f ml qf) er := propext Iff.rfl
end
end AM
set_option Elab.async false
set_option linter.all false
set_option maxRecDepth 100000
set_option maxHeartbeats 2000000
namespace AM
open PySem L2 Evl
section
variable {a b c d : AE} {env : List A} {st : S} {q : D → S → Prop} {qf : List D → S → Prop} {er : QX} {x y z : D} {xs ys zs : List D}
def niRngQ (q : D → S → Prop) (x y : D) (s2 : S) : Prop := ∃ i j : Int, x = .int i ∧ y = .int j ∧ q (.bl (!decide (0 ≤ i ∧ i < j))) s2
def lenSetQ (q : D → S → Prop) (x : D) (s1 : S) : Prop := ∃ ns : List Int, vw s1 x = .lst (ns.map .int) ∧ ns.length ≤ 60 ∧ q (.int (dstN ns : Nat)) s1
@[simp ↓] theorem ev_aNiRng : aNiRng a b env st q er = a env st (fun x s1 => b env s1 (niRngQ q x) er) er := propext Iff.rfl
@[simp ↓] theorem ev_aLenSet : aLenSet a env st q er = a env st (lenSetQ q) er := propext Iff.rfl
@[simp] theorem niRngQ_int {i j : Int} : niRngQ q (.int i) (.int j) st = q (.bl (!decide (0 ≤ i ∧ i < j))) st := propext ⟨fun ⟨_, _, e1, e2, w⟩ => by cases e1; cases e2; exact w, fun w => ⟨_, _, rfl, rfl, w⟩⟩
theorem lenSetQ_of {ns : List Int} (e : vw st x = .lst (ns.map .int)) (hl : ns.length ≤ 60) (h : q (.int (dstN ns : Nat)) st) : lenSetQ q x st := ⟨ns, e, hl, h⟩
end
end AM
set_option Elab.async false
set_option linter.all false
set_option maxRecDepth 100000
set_option maxHeartbeats 1000000
namespace AM
open PySem PySem.Spec L2 Evl
def lenSetTQ (q : D → S → Prop) (x : D) (s1 : S) : Prop := ∃ ns : List Int, vw s1 x = .tup (ns.map .int) ∧ ns.length ≤ 60 ∧ ∀ L : List Int, L.Nodup → (∀ k, k ∈ L ↔ k ∈ ns) → q (.int (L.length : Nat)) s1
section
variable {env : List A} {st : S} {q : D → S → Prop} {er : QX} {a b : AE} {m : AF} {aa : AEs} {i : Nat} {n : Str}
@[simp ↓] theorem ev_aCallL : aCallL i n m aa env st q er = (env[i]? = some (.d (.fn n)) ∧ aCall m aa [] env st q er) := propext Iff.rfl
@[simp ↓] theorem ev_aTwo : aTwo a b env st q er = (a env st q er ∨ b env st q er) := propext Iff.rfl
@[simp ↓] theorem ev_aLenSetT : aLenSetT a env st q er = a env st (lenSetTQ q) er := propext Iff.rfl
theorem lenSetTQ_of {ns : List Int} {x : D} (e : vw st x = .tup (ns.map .int)) (hl : ns.length ≤ 60) (h : q (.int ((dd ns).length : Nat)) st) : lenSetTQ q x st := ⟨ns, e, hl, fun L h1 h2 => by rw [set_len h1 h2]; exact h⟩
end
end AM
set_option Elab.async false
set_option linter.all false
namespace AM
open PySem PySem.Spec PyProof.Rows L2
@[simp ↓] theorem ev_fRep {a b : AE} {env : List A} {st : S} {q : List D → S → Prop} {er : QX} : fRep a b env st q er = a env st (fun x s1 => b env s1 (fun y s2 => ∃ l k, vw s2 x = .lst l ∧ y = .int k ∧ 0 ≤ k ∧ k ≤ 100000 ∧ l.length * k.toNat ≤ 100000 ∧ q (List.replicate k.toNat l).flatten s2) er) er := propext Iff.rfl
end AM
set_option Elab.async false
set_option linter.all false
namespace AM
open PySem PySem.Spec PyProof.Rows L2
def valsQ (q : List D → S → Prop) (x : D) (s1 : S) : Prop := ∃ l, vw s1 x = .dic l ∧ q (l.map Prod.snd) s1
@[simp ↓] theorem ev_fValsL {a : AE} {env : List A} {st : S} {q : List D → S → Prop} {er : QX} : fValsL a env st q er = a env st (valsQ q) er := propext Iff.rfl
@[simp] theorem valsQ_dic {l : List (D × D)} {q : List D → S → Prop} {s1 : S} : valsQ q (.dic l) s1 = q (l.map Prod.snd) s1 := propext ⟨fun ⟨_, e, w⟩ => by cases e; exact w, fun w => ⟨_, rfl, w⟩⟩
theorem valsQ_of {x : D} {l : List (D × D)} {q : List D → S → Prop} {s1 : S} (e : vw s1 x = .dic l) (h : q (l.map Prod.snd) s1) : valsQ q x s1 := ⟨l, e, h⟩
end AM
set_option Elab.async false
set_option linter.all false
set_option maxRecDepth 100000
set_option maxHeartbeats 2000000
namespace AM
open PySem L2 Evl
@[simp ↓] theorem ev_bLenT {l : List (D × D)} {q : D → Prop} : bLenT [.dic l] q = q (.int (l.length : Nat)) := propext ⟨fun ⟨_, e, w⟩ => by cases e; exact w, fun w => ⟨_, rfl, w⟩⟩
end AM
set_option Elab.async false
set_option linter.all false
set_option maxRecDepth 100000
set_option maxHeartbeats 2000000
namespace AM
open PySem L2 Evl
@[simp ↓] theorem ev_fDisp {a b : AE} {env : List A} {st : S} {q : List (D × D) → S → Prop} {er : QX} : fDisp a b env st q er = a env st (fun kk s1 => b env s1 (fun y s2 => isKeyT kk ∧ q [(kk, y)] s2) er) er := propext Iff.rfl
@[simp ↓] theorem ev_sFrzD {i : Nat} {s : AS} {env : List A} {st : S} {k : AK} : sFrzD i s env st k = ∃ L st2 L2, env[i]? = some (.d (.dic L)) ∧ FrzD st L st2 L2 ∧ s (env.set i (.d (.dic L2))) st2 k := propext Iff.rfl
end AM
set_option Elab.async false
set_option linter.all false
set_option maxRecDepth 100000
set_option maxHeartbeats 4000000
namespace AM
open PySem L2
def fmtQ (q : D → S → Prop) (x : D) (s1 : S) : Prop := (∃ y, x = .str y ∧ y.length ≤ 100000 ∧ q (.str y) s1) ∨ ∃ i : Int, x = .int i ∧ i.natAbs.log2 < 1920 ∧ q (.str (toString i)) s1
def jsQ (as : List AE) (acc : Str) (env : List A) (q : D → S → Prop) (er : QX) (x : D) (s1 : S) : Prop := ∃ y, x = .str y ∧ (acc ++ y).length ≤ 100000 ∧ aJs as (acc ++ y) env s1 q er
def splR (ql : List D → S → Prop) (u : Str) (y : D) (s2 : S) : Prop := ∃ v, y = .str v ∧ (v.length == 0) = false ∧ u.length ≤ 100000 ∧ ql ((Txt.split u v).map D.str) s2
def splQ (b : AE) (env : List A) (ql : List D → S → Prop) (er : QX) (x : D) (s1 : S) : Prop := ∃ u, x = .str u ∧ b env s1 (splR ql u) er
def itsQ (qi : List D → Gd → S → Prop) (d : D) (s1 : S) : Prop := ∃ x : Str, d = .str x ∧ qi (x.cps.toList.map fun c => .str ⟨#[c]⟩) [] s1
section
variable {env : List A} {st : S} {q : D → S → Prop} {qo : D → Prop} {er : QX} {a b : AE} {as : List AE} {acc u v x : Str} {ql : List D → S → Prop} {qi : List D → Gd → S → Prop} {i n : Int} {lo hi : Option Int}
@[simp ↓] theorem ev_bStr : bStr [.int i] qo = (i.natAbs.log2 < 1920 ∧ qo (.str (toString i))) := propext ⟨fun ⟨_, e, h⟩ => by cases e; exact h, fun h => ⟨_, rfl, h⟩⟩
@[simp ↓] theorem ev_bIntS : bIntS [.str u] qo = ∃ n, PySem.intText? u = some n ∧ u.length ≤ 640 ∧ qo (.int n) := propext ⟨fun ⟨_, n, e, h⟩ => by cases e; exact ⟨n, h⟩, fun ⟨n, h⟩ => ⟨_, n, rfl, h⟩⟩
@[simp ↓] theorem ev_aFmt : aFmt a env st q er = a env st (fmtQ q) er := propext Iff.rfl
@[simp] theorem fmtQ_int : fmtQ q (.int i) st = (i.natAbs.log2 < 1920 ∧ q (.str (toString i)) st) := propext ⟨fun h => by
  rcases h with ⟨_, e, _⟩ | ⟨_, e, h⟩
  · cases e
  · cases e; exact h, fun h => .inr ⟨_, rfl, h⟩⟩
@[simp ↓] theorem ev_aJs_nil : aJs [] acc env st q er = q (.str acc) st := rfl
@[simp ↓] theorem ev_aJs_cons : aJs (a :: as) acc env st q er = a env st (jsQ as acc env q er) er := rfl
@[simp] theorem jsQ_str : jsQ as acc env q er (.str x) st = ((acc ++ x).length ≤ 100000 ∧ aJs as (acc ++ x) env st q er) := propext ⟨fun ⟨_, e, h⟩ => by cases e; exact h, fun h => ⟨_, rfl, h⟩⟩
@[simp ↓] theorem ev_fSplit : fSplit a b env st ql er = a env st (splQ b env ql er) er := propext Iff.rfl
@[simp] theorem splQ_str : splQ b env ql er (.str u) st = b env st (splR ql u) er := propext ⟨fun ⟨_, e, h⟩ => by cases e; exact h, fun h => ⟨_, rfl, h⟩⟩
@[simp] theorem splR_str : splR ql u (.str v) st = ((v.length == 0) = false ∧ u.length ≤ 100000 ∧ ql ((Txt.split u v).map D.str) st) := propext ⟨fun ⟨_, e, h⟩ => by cases e; exact h, fun h => ⟨_, rfl, h⟩⟩
@[simp ↓] theorem ev_aIterS : aIterS a env st qi er = a env st (itsQ qi) er := propext Iff.rfl
@[simp] theorem itsQ_str : itsQ qi (.str x) st = qi (x.cps.toList.map fun c => .str ⟨#[c]⟩) [] st := propext ⟨fun ⟨_, e, h⟩ => by cases e; exact h, fun h => ⟨_, rfl, h⟩⟩
@[simp ↓] theorem ev_oInSg {c : Nat} : oInSg (.str ⟨#[c]⟩) (.str x) qo = qo (.bl (decide (c ∈ x.cps.toList))) := propext ⟨fun ⟨_, _, e1, e2, h⟩ => by cases e1; cases e2; exact h, fun h => ⟨_, _, rfl, rfl, h⟩⟩
@[simp ↓] theorem ev_oMulS : oMulS (.str u) (.int n) qo = (0 ≤ n ∧ n ≤ 100000 ∧ u.length ≤ 100 ∧ qo (.str (mulS u n))) := propext ⟨fun ⟨_, _, e1, e2, h⟩ => by cases e1; cases e2; exact h, fun h => ⟨_, _, rfl, rfl, h⟩⟩
@[simp ↓] theorem ev_oAddS : oAdd (.str u) (.str v) qo = (u.length + v.length ≤ 100000 ∧ qo (.str (u ++ v))) := propext Iff.rfl
@[simp ↓] theorem ev_oIxAS : oIxA (.str u) (.int i) qo = (u.length ≤ 100000 ∧ ∃ c, atI u.cps.toList i = some c ∧ qo (.str ⟨#[c]⟩)) := propext Iff.rfl
@[simp] theorem slD_str : slD (.str u) lo hi qo = (u.length ≤ 100000 ∧ qo (.str (Txt.slice u lo hi))) := propext Iff.rfl
end
end AM
set_option Elab.async false
set_option linter.all false
set_option maxRecDepth 100000
set_option maxHeartbeats 0
namespace LW
open PySem L2 AM
def xm_BadText (c : Str) : Option Bool := if c = "BadRatio" then some false else if c = "BadText" then some true else none
def a__law_pool : AS := AM.aPoolNew
def m__law_pool : AF := fnP 1 1 a__law_pool
def a__law_take : AS := AM.aTake
abbrev m__law_take : AF := mTake
def a__law_divisor : AS := sSeq (sAsg (aC (.int 0)) (agName 1))
  (sSeq (sFor (aIter (aVar 0)) (agName 2) (sSeq (sAsg (aB bAbs (aCons (aVar 2) (aNil))) (agName 3))
  (sSeq (sAsg (aVar 1) (agName 4))
  (sSeq (sWhile (aTest (aOp oNe (aVar 4) (aC (.int 0)))) (sPar 3 4 (aCons (aVar 4) (aCons (aOp oMod (aB bInt (aCons (aVar 3) (aNil))) (aVar 4)) (aNil)))))
  (sAsg (aVar 3) (agName 1))))))
  (sRet (aVar 1)))
def m__law_divisor : AF := fnP 1 5 a__law_divisor
def a__law_ratio : AS := sSeq (sAsg (aCall m__law_divisor (aCons (aLst (aCons (aVar 0) (aCons (aVar 1) (aNil)))) (aNil)) []) (agName 2))
  (sSeq (sIf (aTest (aOp oLt (aVar 1) (aC (.int 0)))) (sAsg (aUn oNeg (aVar 2)) (agName 2)) (sNext))
  (sRet (aTup (aCons (aOp oFdiv (aVar 0) (aVar 2)) (aCons (aOp oFdiv (aVar 1) (aVar 2)) (aNil))))))
def m__law_ratio : AF := fnP 2 3 a__law_ratio
def a_ratio_text : AS := sRet (aIf (aTest (aOp oEq (aOp oIxA (aVar 0) (aC (.int 1))) (aC (.int 1)))) (aB bStr (aCons (aOp oIxA (aVar 0) (aC (.int 0))) (aNil))) (aJs [aFmt (aOp oIxA (aVar 0) (aC (.int 0))), aC (.str "/"), aFmt (aOp oIxA (aVar 0) (aC (.int 1)))] Str.empty))
def m_ratio_text : AF := fnP 1 1 a_ratio_text
def a_read_integer : AS := sSeq (sAsg (aIf (aTest (aOp oEq (aSl (aVar 0) (oNo) (oAt (aC (.int 1)))) (aC (.str "-")))) (aSl (aVar 0) (oAt (aC (.int 1))) (oNo)) (aVar 0)) (agName 1))
  (sSeq (sIf (aOr (aTest (aOp oEq (aVar 1) (aC (.str "")))) (aNot (aTruth (aB bAll (aCons (aFr (fLc (aIterS (aVar 1)) (agName 2) (aYes) (aOp oInSg (aVar 2) (aC (.str "0123456789"))) [2])) (aNil)))))) (sRet (aC .non)) (sNext))
  (sRet (aIf (aAnd (aTest (aOp oEq (aOp oIxA (aVar 1) (aC (.int 0))) (aC (.str "0")))) (aTest (aOp oNe (aVar 0) (aC (.str "0"))))) (aC .non) (aB bIntS (aCons (aVar 0) (aNil))))))
def m_read_integer : AF := fnP 1 3 a_read_integer
def a_divisor : AS := sSeq (sAsg (aC (.int 0)) (agName 1))
  (sSeq (sFor (aIter (aVar 0)) (agName 2) (sSeq (sPar 3 4 (aCons (aB bAbs (aCons (aVar 2) (aNil))) (aCons (aVar 1) (aNil))))
  (sSeq (sWhile (aTruth (aVar 4)) (sPar 3 4 (aCons (aVar 4) (aCons (aOp oMod (aVar 3) (aVar 4)) (aNil)))))
  (sAsg (aVar 3) (agName 1)))))
  (sRet (aVar 1)))
def m_divisor : AF := fnP 1 5 a_divisor
def a_ratio : AS := sSeq (sIf (aTest (aOp oEq (aVar 1) (aC (.int 0)))) (sRaise1 "BadRatio" "bottom" (aVar 1)) (sNext))
  (sSeq (sAsg (aCall m_divisor (aCons (aLst (aCons (aVar 0) (aCons (aVar 1) (aNil)))) (aNil)) []) (agName 2))
  (sSeq (sIf (aTest (aOp oLt (aVar 1) (aC (.int 0)))) (sAsg (aUn oNeg (aVar 2)) (agName 2)) (sNext))
  (sRet (aTup (aCons (aOp oFdiv (aVar 0) (aVar 2)) (aCons (aOp oFdiv (aVar 1) (aVar 2)) (aNil)))))))
def m_ratio : AF := fnP 2 3 a_ratio
def a_read_ratio : AS := sSeq (sIf (aTest (aOp oGt (aB bLen (aCons (aVar 0) (aNil))) (aC (.int 60)))) (sRaise0 "BadText") (sNext))
  (sSeq (sAsg (aFr (fSplit (aVar 0) (aC (.str "/")))) (agName 1))
  (sSeq (sAsg (aFr (fLc (aIter (aVar 1)) (agName 4) (aYes) (aCall m_read_integer (aCons (aVar 4) (aNil)) []) [4])) (agName 2))
  (sSeq (sIf (aOr (aTest (aOp oGt (aB bLen (aCons (aVar 1) (aNil))) (aC (.int 2)))) (aOr (aTest (aOp oIn (aC .non) (aVar 2))) (aAnd (aTest (aOp oEq (aB bLen (aCons (aVar 1) (aNil))) (aC (.int 2)))) (aTest (aOp oLt (aOp oIxA (aVar 2) (aC (.int 1))) (aC (.int 2))))))) (sRaise0 "BadText") (sNext))
  (sSeq (sAsg (aIf (aTest (aOp oEq (aB bLen (aCons (aVar 1) (aNil))) (aC (.int 2)))) (aCall m_ratio (aCons (aOp oIxA (aVar 2) (aC (.int 0))) (aCons (aOp oIxA (aVar 2) (aUn oNeg (aC (.int 1)))) (aNil))) []) (aTup (aCons (aOp oIxA (aVar 2) (aC (.int 0))) (aCons (aC (.int 1)) (aNil))))) (agName 3))
  (sSeq (sIf (aTest (aOp oNe (aCall m_ratio_text (aCons (aVar 3) (aNil)) []) (aVar 0))) (sRaise0 "BadText") (sNext))
  (sRet (aVar 3)))))))
def m_read_ratio : AF := fnP 1 5 a_read_ratio
def a__law_read : AS := sTryOnly (sRetF (fLst (aCons (aCall m_read_ratio (aCons (aVar 0) (aNil)) []) (aNil)))) [(xm_BadText, sRet (aLst (aNil)))]
def m__law_read : AF := fnP 1 1 a__law_read
def a__law_spoiled : AS := sSeq (sAsg (aCall m__law_take (aCons (aVar 0) (aCons (aC (.int 6)) (aNil))) []) (agName 2))
  (sSeq (sAsg (aCall m__law_take (aCons (aVar 0) (aCons (aOp oAdd (aB bLen (aCons (aVar 1) (aNil))) (aC (.int 1))) (aNil))) []) (agName 3))
  (sSeq (sAsg (aOp oIxA (aC (.str "0123456789-+/. a_")) (aCall m__law_take (aCons (aVar 0) (aCons (aC (.int 17)) (aNil))) [])) (agName 4))
  (sSeq (sIf (aTest (aOp oEq (aVar 2) (aC (.int 0)))) (sRet (aOp oAdd (aOp oAdd (aSl (aVar 1) (oNo) (oAt (aVar 3))) (aVar 4)) (aSl (aVar 1) (oAt (aVar 3)) (oNo)))) (sNext))
  (sSeq (sIf (aTest (aOp oEq (aVar 2) (aC (.int 1)))) (sRet (aOp oAdd (aSl (aVar 1) (oNo) (oAt (aVar 3))) (aSl (aVar 1) (oAt (aOp oAdd (aVar 3) (aC (.int 1)))) (oNo)))) (sNext))
  (sSeq (sIf (aTest (aOp oEq (aVar 2) (aC (.int 2)))) (sRet (aOp oAdd (aOp oAdd (aSl (aVar 1) (oNo) (oAt (aVar 3))) (aVar 4)) (aSl (aVar 1) (oAt (aOp oAdd (aVar 3) (aC (.int 1)))) (oNo)))) (sNext))
  (sSeq (sIf (aTest (aOp oEq (aVar 2) (aC (.int 3)))) (sRet (aOp oAdd (aVar 1) (aOp oMulS (aC (.str "0")) (aOp oIxA (aLst (aCons (aCall m__law_take (aCons (aVar 0) (aCons (aC (.int 70)) (aNil))) []) (aCons (aC (.int 5000)) (aNil)))) (aB bInt (aCons (aOp oEq (aVar 3) (aC (.int 0))) (aNil))))))) (sNext))
  (sSeq (sAsg (aLst (aCons (aC (.str "")) (aCons (aC (.str "-")) (aCons (aC (.str "/")) (aCons (aC (.str "0")) (aCons (aC (.str "-0")) (aCons (aC (.str "00")) (aCons (aC (.str "1/1")) (aCons (aC (.str "2/4")) (aCons (aC (.str "1/-2")) (aCons (aC (.str "-1/2")) (aCons (aC (.str "1/0")) (aCons (aC (.str "0/1")) (aCons (aC (.str "0/2")) (aCons (aC (.str "1/")) (aCons (aC (.str "/2")) (aCons (aC (.str "1/2/3")) (aCons (aC (.str "+1")) (aNil))))))))))))))))))) (agName 5))
  (sSeq (sAsg (aOp oAdd (aVar 5) (aLst (aCons (aOp oAdd (aC (.str "1")) (aOp oMulS (aC (.str "0")) (aC (.int 59)))) (aCons (aOp oAdd (aC (.str "1")) (aOp oMulS (aC (.str "0")) (aC (.int 60)))) (aNil))))) (agName 5))
  (sRet (aOp oIxA (aOp oAdd (aVar 5) (aLst (aCons (aVar 1) (aCons (aOp oAdd (aC (.str " ")) (aVar 1)) (aCons (aOp oAdd (aVar 1) (aC (.str " "))) (aCons (aOp oAdd (aVar 1) (aC (.str "\n"))) (aCons (aOp oAdd (aC (.str "\n")) (aVar 1)) (aNil)))))))) (aCall m__law_take (aCons (aVar 0) (aCons (aC (.int 24)) (aNil))) [])))))))))))
def m__law_spoiled : AF := fnP 2 6 a__law_spoiled
def a__law_plain : AS := sSeq (sAsg (aVar 0) (agName 1))
  (sSeq (sIf (aTest (aOp oEq (aSl (aVar 0) (oNo) (oAt (aC (.int 1)))) (aC (.str "-")))) (sAsg (aSl (aVar 0) (oAt (aC (.int 1))) (oNo)) (agName 1)) (sNext))
  (sSeq (sIf (aOr (aTest (aOp oEq (aVar 1) (aC (.str "")))) (aNot (aTruth (aB bAll (aCons (aFr (fLc (aIterS (aVar 1)) (agName 2) (aYes) (aOp oInSg (aVar 2) (aC (.str "0123456789"))) [2])) (aNil)))))) (sRet (aC (.bl false))) (sNext))
  (sRet (aOrV (aOp oEq (aVar 0) (aC (.str "0"))) (aOp oNe (aOp oIxA (aVar 1) (aC (.int 0))) (aC (.str "0")))))))
def m__law_plain : AF := fnP 1 3 a__law_plain
def a__law_due : AS := sSeq (sAsg (aFr (fSplit (aVar 0) (aC (.str "/")))) (agName 1))
  (sSeq (sIf (aOr (aTest (aOp oGt (aB bLen (aCons (aVar 0) (aNil))) (aC (.int 60)))) (aOr (aTest (aOp oGt (aB bLen (aCons (aVar 1) (aNil))) (aC (.int 2)))) (aNot (aTruth (aB bAll (aCons (aFr (fLc (aIter (aVar 1)) (agName 4) (aYes) (aCall m__law_plain (aCons (aVar 4) (aNil)) []) [4])) (aNil))))))) (sRetF (fLst (aNil))) (sNext))
  (sSeq (sIf (aTest (aOp oEq (aB bLen (aCons (aVar 1) (aNil))) (aC (.int 1)))) (sRetF (fLst (aCons (aTup (aCons (aB bIntS (aCons (aVar 0) (aNil))) (aCons (aC (.int 1)) (aNil)))) (aNil)))) (sNext))
  (sSeq (sAsg (aB bIntS (aCons (aOp oIxA (aVar 1) (aC (.int 0))) (aNil))) (agName 2))
  (sSeq (sAsg (aB bIntS (aCons (aOp oIxA (aVar 1) (aC (.int 1))) (aNil))) (agName 3))
  (sSeq (sIf (aOr (aTest (aOp oLt (aVar 3) (aC (.int 2)))) (aTest (aOp oNe (aCall m__law_divisor (aCons (aLst (aCons (aVar 2) (aCons (aVar 3) (aNil)))) (aNil)) []) (aC (.int 1))))) (sRetF (fLst (aNil))) (sNext))
  (sRetF (fLst (aCons (aTup (aCons (aVar 2) (aCons (aVar 3) (aNil)))) (aNil)))))))))
def m__law_due : AF := fnP 1 5 a__law_due
def a_law : AS := sSeq (sAsg (aOp oIxA (aLst (aCons (aC (.int 9)) (aCons (aOp oPow (aC (.int 10)) (aC (.int 29))) (aNil)))) (aCall m__law_take (aCons (aVar 1) (aCons (aC (.int 2)) (aNil))) [])) (agName 2))
  (sSeq (sAsg (aOp oSub (aCall m__law_take (aCons (aVar 1) (aCons (aOp oAdd (aOp oMul (aC (.int 2)) (aVar 2)) (aC (.int 1))) (aNil))) []) (aVar 2)) (agName 3))
  (sSeq (sAsg (aCall m__law_ratio (aCons (aVar 3) (aCons (aOp oAdd (aC (.int 1)) (aCall m__law_take (aCons (aVar 1) (aCons (aOp oIxA (aLst (aCons (aC (.int 9)) (aCons (aOp oPow (aC (.int 10)) (aC (.int 20))) (aNil)))) (aCall m__law_take (aCons (aVar 1) (aCons (aC (.int 2)) (aNil))) [])) (aNil))) [])) (aNil))) []) (agName 4))
  (sSeq (sAsg (aB bStr (aCons (aOp oIxA (aVar 4) (aC (.int 0))) (aNil))) (agName 5))
  (sSeq (sIf (aTest (aOp oNe (aOp oIxA (aVar 4) (aC (.int 1))) (aC (.int 1)))) (sAsg (aOp oAdd (aOp oAdd (aVar 5) (aC (.str "/"))) (aB bStr (aCons (aOp oIxA (aVar 4) (aC (.int 1))) (aNil)))) (agName 5)) (sNext))
  (sSeq (sIf (aOr (aTest (aOp oNe (aCall m_ratio_text (aCons (aVar 4) (aNil)) []) (aVar 5))) (aTest (aOp oNe (aCall m__law_read (aCons (aVar 5) (aNil)) []) (aLst (aCons (aVar 4) (aNil)))))) (sRet (aC (.bl false))) (sNext))
  (sSeq (sAsg (aVar 5) (agName 6))
  (sSeq (sFor (aRng1 (aCall m__law_take (aCons (aVar 1) (aCons (aC (.int 3)) (aNil))) [])) (agName 7) (sAsg (aCall m__law_spoiled (aCons (aVar 1) (aCons (aVar 6) (aNil))) []) (agName 6)))
  (sSeq (sAsg (aCall m__law_read (aCons (aVar 6) (aNil)) []) (agName 8))
  (sRet (aAndV (aOp oEq (aVar 8) (aCall m__law_due (aCons (aVar 6) (aNil)) [])) (aOrV (aOp oEq (aVar 8) (aLst (aNil))) (aOp oEq (aCall m_ratio_text (aCons (aOp oIxA (aVar 8) (aC (.int 0))) (aNil)) []) (aVar 6)))))))))))))
end LW
set_option Elab.async false
set_option linter.all false
set_option maxRecDepth 100000
set_option maxHeartbeats 1000000
namespace LW
open PySem L2 AM
theorem gdOk_of {st : S} {d : D} : gdOk (gdOf st d) st := by
  cases d with
  | ref n =>
    cases h : st[n]? with
    | none => unfold gdOf; simp [h]
    | some c => rw [gdOf_ref h]; simp [h]
  | _ => simp
theorem gdOk_app {a b : Gd} {st : S} (h : gdOk a st) (h2 : gdOk b st) : gdOk (a ++ b) st := by
  unfold gdOk at *
  intro p hp
  rcases List.mem_append.mp hp with hp | hp
  · exact h p hp
  · exact h2 p hp
theorem for_of {α : Type} {T : α → D} {gd : Gd} {g : AG} {s : AS} {k : AK} {P : List α → List A → S → Prop} (h0 : ∀ env st, P [] env st → gdOk gd st ∧ k.nx env st) (h1 : ∀ x xs env st, P (x :: xs) env st → ∀ nx : List A → S → Prop, (∀ e s, P xs e s → nx e s) → gdOk gd st ∧ g (T x) env st fun e1 => s e1 st { k with nx := nx, ct := nx, bk := k.nx }) : ∀ l env st, P l env st → sForL gd g s (l.map T) env st k
  | [], env, st, h => h0 env st h
  | x :: xs, env, st, h => h1 x xs env st h _ fun e s hp => for_of h0 h1 xs e s hp
theorem for_rng {gd : Gd} {g : AG} {s : AS} {k : AK} {N : Nat} {P : Nat → List A → S → Prop} (h0 : ∀ env st, P N env st → gdOk gd st ∧ k.nx env st) (h1 : ∀ i env st, i < N → P i env st → ∀ nx : List A → S → Prop, (∀ e s, P (i + 1) e s → nx e s) → gdOk gd st ∧ g (.int (i : Int)) env st fun e1 => s e1 st { k with nx := nx, ct := nx, bk := k.nx }) (env : List A) (st : S) (h : P 0 env st) : sForL gd g s ((List.range N).map fun (i : Nat) => D.int (i : Int)) env st k := by
  refine for_of (T := fun (i : Nat) => D.int (i : Int)) (P := fun l env st => ∃ i, i ≤ N ∧ l = List.range' i (N - i) ∧ P i env st) ?_ ?_ _ _ _ ⟨0, by omega, by rw [List.range_eq_range']; rfl, h⟩
  · rintro env st ⟨i, hi, hl, hp⟩
    have : N - i = 0 := by have := congrArg List.length hl; simpa using this.symm
    have : i = N := by omega
    subst this
    exact h0 env st hp
  · rintro x xs env st ⟨i, hi, hl, hp⟩ nx hnx
    have hlt : i < N := by
      have := congrArg List.length hl
      simp at this; omega
    rw [show N - i = (N - (i + 1)) + 1 by omega, List.range'_succ] at hl
    injection hl with h2 h3
    subst h2
    exact h1 x env st hlt hp nx fun e s hp => hnx e s ⟨x + 1, by omega, h3, hp⟩
/-! ### kinds -/
def isIntB : D → Bool
  | .int _ => true
  | _ => false
def okK : D → Prop
  | .non => True | .bl _ => True | .int _ => True | .str _ => True | .lst _ => True | .tup _ => True | .dic _ => True
  | _ => False
theorem vw_okK {st : S} {x : D} (h : okK x) : vw st x = x := by
  cases x <;> first | rfl | exact h.elim
def intsB (st : S) (d : D) : Bool := match vw st d with
  | .lst l => l.all fun x => isIntB (vw st x)
  | .tup l => l.all fun x => isIntB (vw st x)
  | _ => false
section
variable {st : S} {q : Rs → S → Prop} {er : QX} {d : D}
end
/-! ### rows of integers as they are seen -/
def isInts (st : S) (d : D) (ns : List Int) : Prop := itemsD (vw st d) = some (ns.map .int)
theorem isInts_lst {st : S} {ns : List Int} : isInts st (.lst (ns.map .int)) ns := rfl
theorem isInts_tup {st : S} {ns : List Int} : isInts st (.tup (ns.map .int)) ns := rfl
theorem isInts_k {st : S} {d : D} {ns : List Int} (h : isInts st d ns) : okK (vw st d) ∧ intsB st d = true ∧ lenD (vw st d) = some ns.length := by
  unfold isInts at h
  unfold intsB
  cases hv : vw st d <;> rw [hv] at h <;> simp [itemsD] at h
  · subst h; simp [okK, isIntB, lenD]
  · subst h; simp [okK, isIntB, lenD]
/-! ### shapes -/
def prodN (sh : List Nat) : Nat := sh.foldl (· * ·) 1
structure ShapeOk (sh : List Nat) : Prop where
  l1 : 1 ≤ sh.length
  l3 : sh.length ≤ 3
  each : ∀ n ∈ sh, 1 ≤ n ∧ n ≤ 4
  all : prodN sh ≤ 16
abbrev iN (l : List Nat) : List Int := l.map fun (i : Nat) => (i : Int)
abbrev iD (l : List Int) : List D := l.map D.int
theorem prod_le {sh : List Nat} : ∀ {p : Nat}, (∀ n ∈ sh, n ≤ 4) → sh.foldl (· * ·) p ≤ p * 4 ^ sh.length := by
  induction sh with
  | nil => intro p _; simp
  | cons n ns ih =>
    intro p h
    have h1 := h n (by simp)
    have := ih (p := p * n) (fun m hm => h m (by simp [hm]))
    simp only [List.foldl_cons, List.length_cons]
    refine Nat.le_trans this ?_
    rw [Nat.pow_succ, Nat.mul_comm (4 ^ _) 4, ← Nat.mul_assoc]
    exact Nat.mul_le_mul_right _ (Nat.mul_le_mul_left _ h1)
theorem cmul_small {a b : Int} (ha : a.natAbs < 2 ^ 8000) (hb : b.natAbs < 2 ^ 8000) : CMulW a b := by
  have l : ∀ x : Int, x.natAbs < 2 ^ 8000 → x.natAbs.log2 < 8001 := fun x hx => by
    by_cases hz : x.natAbs = 0
    · rw [hz]; decide
    · exact (Nat.log2_lt hz).mpr (Nat.lt_of_lt_of_le hx (Nat.pow_le_pow_right (by decide) (by decide)))
  have := l a ha
  have := l b hb
  show a.natAbs.log2 + b.natAbs.log2 < 1000000
  omega
theorem small_lt {n : Nat} (h : n < 2 ^ 100) : n < 2 ^ 8000 := Nat.lt_of_lt_of_le h (Nat.pow_le_pow_right (by decide) (by decide))
theorem cmul_nat {a b : Nat} (ha : a < 2 ^ 100) (hb : b < 2 ^ 100) : CMulW (a : Int) (b : Int) := cmul_small (small_lt (by simpa using ha)) (small_lt (by simpa using hb))
section
variable {st : S} {q : Rs → S → Prop} {er : QX} {d : D} {sh : List Nat}
/-! ### cells -/
def nextC (acc : List (List Nat)) (n : Nat) : List (List Nat) := acc.flatMap fun c => (List.range n).map fun i => c ++ [i]
def cellsN (sh : List Nat) : List (List Nat) := sh.foldl nextC [[]]
def cD (c : List Nat) : D := .tup (iD (iN c))
theorem nextC_len {acc : List (List Nat)} {n : Nat} : (nextC acc n).length = acc.length * n := by
  unfold nextC
  induction acc with
  | nil => simp
  | cons x xs ih => rw [List.flatMap_cons, List.length_append, ih]; simp [Nat.succ_mul]; omega
theorem cellsN_len' {sh : List Nat} : ∀ {acc : List (List Nat)}, (sh.foldl nextC acc).length = sh.foldl (· * ·) acc.length := by
  induction sh with
  | nil => intro acc; rfl
  | cons n ns ih => intro acc; rw [List.foldl_cons, ih, List.foldl_cons, nextC_len]
theorem cellsN_len : (cellsN sh).length = prodN sh := cellsN_len'
end
end LW
set_option Elab.async false
set_option linter.all false
set_option maxRecDepth 100000
set_option maxHeartbeats 1000000
namespace LW
open PySem L2 AM
def gcdL (ns : List Int) : Int := (ns.foldl (fun (g : Nat) n => Nat.gcd n.natAbs g) 0 : Nat)
theorem gcd_step (a b : Nat) (h : b ≠ 0) : Nat.gcd a b = Nat.gcd b (a % b) := by rw [Nat.gcd_comm a b, Nat.gcd_rec b a, Nat.gcd_comm]
/- Euclid's loop, either form of its test -/
theorem euclid {t : AT} {b : AS} {k : AK} {e0 e1 e2 : A} {st : S}
    (ht : ∀ (x y : Int) (q : Bool → S → Prop) (er : QX), t [e0, e1, e2, .d (.int x), .d (.int y)] st q er = q (y != 0) st)
    (hb : ∀ (x y : Int) (k : AK), y ≠ 0 → b [e0, e1, e2, .d (.int x), .d (.int y)] st k = k.nx [e0, e1, e2, .d (.int y), .d (.int (x.fmod y))] st)
    (n m : Nat) (h : k.nx [e0, e1, e2, .d (.int (Nat.gcd n m)), .d (.int 0)] st) : sWhile t b [e0, e1, e2, .d (.int n), .d (.int m)] st k := by
  refine ⟨m + 1, ?_⟩
  induction m using Nat.strongRecOn generalizing n with
  | _ m ih =>
    rw [wh_succ, ht]
    by_cases hm : m = 0
    · subst hm
      simpa using h
    · have hm' : (m : Int) ≠ 0 := by omega
      rw [if_pos (by simpa using hm), hb _ _ _ hm']
      have e : (n : Int).fmod (m : Int) = ((n % m : Nat) : Int) := by
        rw [Int.fmod_eq_emod_of_nonneg _ (by omega)]; rfl
      rw [e]
      have hlt : n % m < m := Nat.mod_lt _ (by omega)
      have := ih (n % m) hlt m (by rw [← gcd_step n m hm]; exact h)
      -- more turns do no harm
      have mono : ∀ (j i : Nat) (x y : Int), i ≤ j → sWhN t b i [e0, e1, e2, .d (.int x), .d (.int y)] st k → sWhN t b j [e0, e1, e2, .d (.int x), .d (.int y)] st k := by
        intro j
        induction j with
        | zero => intro i x y hi h; have : i = 0 := by omega
                  subst this; exact h
        | succ j ihj =>
          intro i x y hi h
          cases i with
          | zero => exact h.elim
          | succ i =>
            rw [wh_succ, ht] at h ⊢
            by_cases hy : y = 0
            · subst hy; simpa using h
            · rw [if_pos (by simpa using hy), hb _ _ _ hy] at h ⊢
              exact ihj i _ _ (by omega) h
      exact mono m (n % m + 1) _ _ (by omega) this
theorem abs_int (n : Int) : (if n < 0 then -n else n) = (n.natAbs : Int) := by omega
/- the loop over the numbers -/
theorem div_loop {b : AS} {k : AK} {d : D} {st : S} {gd : Gd} (hg : gdOk gd st)
    (hb : ∀ (n : Int) (g : Nat) (e3 e4 : A) (k : AK), k.nx [.d d, .d (.int (Nat.gcd n.natAbs g)), .d (.int n), .d (.int (Nat.gcd n.natAbs g)), .d (.int 0)] st → b [.d d, .d (.int g), .d (.int n), e3, e4] st k) :
    ∀ (ns : List Int) (g : Nat) (e2 e3 e4 : A), (∀ e2 e3 e4, k.nx [.d d, .d (.int (ns.foldl (fun (g : Nat) n => Nat.gcd n.natAbs g) g : Nat)), e2, e3, e4] st) → sForL gd (agName 2) b (ns.map .int) [.d d, .d (.int g), e2, e3, e4] st k
  | [], g, e2, e3, e4, h => ⟨hg, h e2 e3 e4⟩
  | n :: ns, g, e2, e3, e4, h => by
    rw [List.map_cons, for_cons]
    exact ⟨hg, hb n g e3 e4 _ (div_loop hg hb ns _ _ _ _ h)⟩
theorem divisor_spec {d : D} {ns : List Int} {st : S} {q : Rs → S → Prop} {er : QX} (hd : isInts st d ns) (h : q (.d (.int (gcdL ns))) st) : m_divisor [d] st q er := by
  refine ⟨rfl, ?_⟩
  show a_divisor [.d d, .no, .no, .no, .no] st _
  unfold a_divisor
  simp
  refine ⟨_, hd, ?_⟩
  refine div_loop gdOk_of (fun n g e3 e4 k hk => ?_) ns 0 _ _ _ (fun e2 e3 e4 => by simp; exact h)
  simp [abs_int]
  refine euclid (fun x y q er => by simp) (fun x y k hy => by simp [hy]) _ _ ?_
  simpa using hk
theorem law_divisor_spec {d : D} {ns : List Int} {st : S} {q : Rs → S → Prop} {er : QX} (hd : isInts st d ns) (h : q (.d (.int (gcdL ns))) st) : m__law_divisor [d] st q er := by
  refine ⟨rfl, ?_⟩
  show a__law_divisor [.d d, .no, .no, .no, .no] st _
  unfold a__law_divisor
  simp
  refine ⟨_, hd, ?_⟩
  refine div_loop gdOk_of (fun n g e3 e4 k hk => ?_) ns 0 _ _ _ (fun e2 e3 e4 => by simp; exact h)
  simp [abs_int]
  refine euclid (fun x y q er => by simp; rfl) (fun x y k hy => by simp [hy]) _ _ ?_
  simpa using hk
/-! ### ratios -/
def gsg (a b : Int) : Int := if b < 0 then -gcdL [a, b] else gcdL [a, b]
def rt (a b : Int) : Int := a.fdiv (gsg a b)
def rb (a b : Int) : Int := b.fdiv (gsg a b)
def ratD (a b : Int) : D := .tup [.int (rt a b), .int (rb a b)]
theorem gcdL_two (a b : Int) : gcdL [a, b] = (Nat.gcd b.natAbs a.natAbs : Nat) := by
  unfold gcdL
  simp
theorem gcdL_pos {a b : Int} (hb : b ≠ 0) : 0 < gcdL [a, b] := by
  rw [gcdL_two]
  have : 0 < Nat.gcd b.natAbs a.natAbs := Nat.gcd_pos_of_pos_left _ (by omega)
  omega
theorem gcdL_dvdL (a b : Int) : gcdL [a, b] ∣ a := by
  rw [gcdL_two]
  exact Int.ofNat_dvd_left.mpr (Nat.gcd_dvd_right _ _)
theorem gcdL_dvdR (a b : Int) : gcdL [a, b] ∣ b := by
  rw [gcdL_two]
  exact Int.ofNat_dvd_left.mpr (Nat.gcd_dvd_left _ _)
theorem gcdL_le {a b : Int} (hb : b ≠ 0) : (gcdL [a, b]).natAbs ≤ b.natAbs := by
  rw [gcdL_two]
  exact Nat.le_of_dvd (by omega) (Nat.gcd_dvd_left _ _)
theorem gsg_ne {a b : Int} (hb : b ≠ 0) : gsg a b ≠ 0 := by
  have := gcdL_pos (a := a) hb
  unfold gsg
  split <;> omega
theorem gsg_le {a b : Int} (hb : b ≠ 0) : (gsg a b).natAbs ≤ b.natAbs := by
  have := gcdL_le (a := a) hb
  unfold gsg
  split
  · rw [Int.natAbs_neg]; exact this
  · exact this
theorem gsg_dvdL (a b : Int) : gsg a b ∣ a := by
  unfold gsg
  split
  · exact Int.neg_dvd.mpr (gcdL_dvdL a b)
  · exact gcdL_dvdL a b
theorem gsg_dvdR (a b : Int) : gsg a b ∣ b := by
  unfold gsg
  split
  · exact Int.neg_dvd.mpr (gcdL_dvdR a b)
  · exact gcdL_dvdR a b
theorem rt_mul {a b : Int} : rt a b * gsg a b = a := Int.fdiv_mul_cancel (gsg_dvdL a b)
theorem rb_mul {a b : Int} : rb a b * gsg a b = b := Int.fdiv_mul_cancel (gsg_dvdR a b)
theorem gsg_sign {a b : Int} (hb : b ≠ 0) : (0 < b → 0 < gsg a b) ∧ (b < 0 → gsg a b < 0) := by
  have := gcdL_pos (a := a) hb
  unfold gsg
  constructor
  · intro h; rw [if_neg (by omega)]; exact this
  · intro h; rw [if_pos h]; omega
theorem rb_pos {a b : Int} (hb : b ≠ 0) : 0 < rb a b := by
  have e := rb_mul (a := a) (b := b)
  have s := gsg_sign (a := a) hb
  rcases Int.lt_or_lt_of_ne hb with h | h
  · have g := s.2 h
    rcases Int.lt_trichotomy (rb a b) 0 with z | z | z
    · have := Int.mul_pos_of_neg_of_neg z g; omega
    · rw [z] at e; omega
    · exact z
  · have g := s.1 h
    rcases Int.lt_trichotomy (rb a b) 0 with z | z | z
    · have := Int.mul_neg_of_neg_of_pos z g; omega
    · rw [z] at e; omega
    · exact z
theorem le_of_mul {x g a : Int} (e : x * g = a) (hg : g ≠ 0) : x.natAbs ≤ a.natAbs := by
  rw [← e, Int.natAbs_mul]
  exact Nat.le_mul_of_pos_right _ (by omega)
theorem rt_le {a b : Int} (hb : b ≠ 0) : (rt a b).natAbs ≤ a.natAbs := le_of_mul rt_mul (gsg_ne hb)
theorem rb_le {a b : Int} (hb : b ≠ 0) : (rb a b).natAbs ≤ b.natAbs := le_of_mul rb_mul (gsg_ne hb)
/-! ### sizes -/
theorem logN_lt {n k : Nat} (h : n < 2 ^ k) (hk : 0 < k) : n.log2 < k := by
  by_cases hz : n = 0
  · subst hz; simpa using hk
  · exact (Nat.log2_lt hz).mpr h
theorem cfd_of {x y : Int} (h0 : y ≠ 0) (h : y.natAbs < 2 ^ 8000) : CFd x y := ⟨h0, Nat.lt_of_lt_of_le (logN_lt h (by decide)) (by decide)⟩
theorem cmul_of {x y : Int} (hx : x.natAbs < 2 ^ 8000) (hy : y.natAbs < 2 ^ 8000) : CMulW x y := by
  have h1 := logN_lt hx (by decide)
  have h2 := logN_lt hy (by decide)
  show x.natAbs.log2 + y.natAbs.log2 < 1000000
  omega
theorem mul_bd {x y : Int} {a b : Nat} (hx : x.natAbs < 2 ^ a) (hy : y.natAbs < 2 ^ b) : (x * y).natAbs < 2 ^ (a + b) := by
  rw [Int.natAbs_mul, Nat.pow_add]
  exact Nat.mul_lt_mul_of_lt_of_le hx (Nat.le_of_lt hy) (Nat.lt_of_le_of_lt (Nat.zero_le _) hy)
theorem bd_le {x : Int} {a b : Nat} (hx : x.natAbs < 2 ^ a) (h : a ≤ b) : x.natAbs < 2 ^ b := Nat.lt_of_lt_of_le hx (Nat.pow_le_pow_right (by decide) h)
/-! ### the defs -/
section
variable {st : S} {q : Rs → S → Prop} {er : QX}
theorem ratio_spec {a b : Int} (hb : b ≠ 0) (hs : b.natAbs < 2 ^ 8000) (h : q (.d (ratD a b)) st) : m_ratio [.int a, .int b] st q er := by
  refine ⟨rfl, ?_⟩
  show a_ratio [.d (.int a), .d (.int b), .no] st _
  unfold a_ratio
  have hc : ∀ x, CFd x (gsg a b) := fun x => cfd_of (gsg_ne hb) (Nat.lt_of_le_of_lt (gsg_le hb) hs)
  simp [hb]
  refine divisor_spec (ns := [a, b]) rfl ?_
  have e : gsg a b = if b < 0 then -gcdL [a, b] else gcdL [a, b] := rfl
  by_cases hlt : b < 0
  · rw [if_pos hlt] at e
    have hc' := hc
    rw [e] at hc'
    simp [hlt, hc']
    rw [← e]; exact h
  · rw [if_neg hlt] at e
    have hc' := hc
    rw [e] at hc'
    simp [hlt, hc']
    rw [← e]; exact h
theorem ratio_zero {a : Int} (h : er ⟨"BadRatio", some ("bottom", .int 0)⟩ st) : m_ratio [.int a, .int 0] st q er := by
  refine ⟨rfl, ?_⟩
  show a_ratio [.d (.int a), .d (.int 0), .no] st _
  unfold a_ratio
  simp
  exact h
theorem law_ratio_spec {a b : Int} (hb : b ≠ 0) (hs : b.natAbs < 2 ^ 8000) (h : q (.d (ratD a b)) st) : m__law_ratio [.int a, .int b] st q er := by
  refine ⟨rfl, ?_⟩
  show a__law_ratio [.d (.int a), .d (.int b), .no] st _
  unfold a__law_ratio
  have hc : ∀ x, CFd x (gsg a b) := fun x => cfd_of (gsg_ne hb) (Nat.lt_of_le_of_lt (gsg_le hb) hs)
  simp
  refine law_divisor_spec (ns := [a, b]) rfl ?_
  have e : gsg a b = if b < 0 then -gcdL [a, b] else gcdL [a, b] := rfl
  by_cases hlt : b < 0
  · rw [if_pos hlt] at e
    have hc' := hc
    rw [e] at hc'
    simp [hlt, hc']
    rw [← e]; exact h
  · rw [if_neg hlt] at e
    have hc' := hc
    rw [e] at hc'
    simp [hlt, hc']
    rw [← e]; exact h
end
@[simp] theorem atI0 {α : Type} {x : α} {l : List α} : atI (x :: l) 0 = some x := by
  have e : ixN (x :: l).length 0 = some 0 := by unfold ixN; rw [if_pos (by decide), if_pos (by simp)]; rfl
  unfold atI; rw [e]; rfl
@[simp] theorem atI1 {α : Type} {x y : α} {l : List α} : atI (x :: y :: l) 1 = some y := by
  have e : ixN (x :: y :: l).length 1 = some 1 := by unfold ixN; rw [if_pos (by decide), if_pos (by simp only [List.length_cons]; omega)]; rfl
  unfold atI; rw [e]; rfl
theorem eqv_pair {a b : Int} : D.eqv (.tup [.int a, .int b]) (.tup [.int a, .int b]) = true := by simp [D.eqv, D.eqvs]
theorem shp_pair {a b : Int} : (D.tup [.int a, .int b]).shp := by
  unfold D.shp
  simp [D.plain, D.plains, D.dep, D.deps]
theorem eq_pair {a b : Int} {q : D → Prop} : oEq (.tup [.int a, .int b]) (.tup [.int a, .int b]) q = q (.bl true) := by
  unfold oEq
  simp [shp_pair, eqv_pair]
theorem ne_pair {a b : Int} {q : D → Prop} : oNe (.tup [.int a, .int b]) (.tup [.int a, .int b]) q = q (.bl false) := by
  unfold oNe
  simp [shp_pair, eqv_pair]
theorem gcd_fold_dvd : ∀ (ns : List Int) (x : Nat), (ns.foldl (fun (g : Nat) n => Nat.gcd n.natAbs g) x ∣ x) ∧ ∀ n ∈ ns, ns.foldl (fun (g : Nat) n => Nat.gcd n.natAbs g) x ∣ n.natAbs
  | [], x => ⟨Nat.dvd_refl _, by simp⟩
  | m :: ns, x => by
    obtain ⟨h1, h2⟩ := gcd_fold_dvd ns (Nat.gcd m.natAbs x)
    rw [List.foldl_cons]
    refine ⟨Nat.dvd_trans h1 (Nat.gcd_dvd_right _ _), fun n hn => ?_⟩
    rcases List.mem_cons.mp hn with rfl | hn
    · exact Nat.dvd_trans h1 (Nat.gcd_dvd_left _ _)
    · exact h2 n hn
theorem gcdL_dvd_mem {ns : List Int} {n : Int} (hn : n ∈ ns) : gcdL ns ∣ n := by
  unfold gcdL
  exact Int.ofNat_dvd_left.mpr ((gcd_fold_dvd ns 0).2 n hn)
def intF (f : Int → Int) : D → D
  | .int i => .int (f i)
  | d => d
theorem map_intF (f : Int → Int) (ns : List Int) : (ns.map D.int).map (intF f) = (ns.map f).map D.int := by
  rw [List.map_map, List.map_map]; rfl
def lowL (ns : List Int) : List Int := if gcdL ns = 0 then ns else ns.map fun n => n.fdiv (gcdL ns)
theorem gcd_fold_lt {B : Nat} : ∀ (ns : List Int) (g : Nat), g < B → (∀ n ∈ ns, n.natAbs < B) → ns.foldl (fun (g : Nat) n => Nat.gcd n.natAbs g) g < B
  | [], g, hg, _ => hg
  | n :: ns, g, hg, h => by
    refine gcd_fold_lt ns _ ?_ (fun x hx => h x (by simp [hx]))
    show Nat.gcd n.natAbs g < B
    by_cases hn : n.natAbs = 0
    · rw [hn, Nat.gcd_zero_left]; exact hg
    · exact Nat.lt_of_le_of_lt (Nat.gcd_le_left _ (by omega)) (h n (by simp))
theorem gcdL_lt {B : Nat} {ns : List Int} (hB : 0 < B) (h : ∀ n ∈ ns, n.natAbs < B) : (gcdL ns).natAbs < B := by
  unfold gcdL
  rw [Int.natAbs_natCast]
  exact gcd_fold_lt ns 0 hB h
theorem two_pos {k : Nat} : 0 < 2 ^ k := Nat.pow_pos (by decide)
section
variable {st : S} {q : Rs → S → Prop} {er : QX}
theorem divs {d : D} {g : Int} {ns : List Int} {gd : Gd} {ql : List D → S → Prop} (hg : gdOk gd st) (hl : ns.length ≤ 100000) (hc : ∀ x, CFd x g) (h : ql ((ns.map fun n => n.fdiv g).map .int) st) : aLcL gd (agName 2) aYes (aOp oFdiv (aVar 2) (aVar 1)) [.d d, .d (.int g), .no] ql (ns.map .int) [] st := by
  rw [lc_map (G := intF fun i => i.fdiv g) hg _ _ (fun x hx P1 P2 => ?_) (by simpa using hl)]
  · rw [map_intF]; simpa using h
  · obtain ⟨n, _, rfl⟩ := List.mem_map.mp hx
    simp [hc, intF]
end
end LW
set_option Elab.async false
set_option linter.all false
set_option maxRecDepth 100000
set_option maxHeartbeats 1000000
namespace LW
open PySem PySem.Spec PyProof.Rows L2 AM TL
/-! ### decimal texts -/
def decS (n : Int) : Str := toString n
def decL (n : Int) : List Nat := if n < 0 then 45 :: numL n.natAbs else numL n.natAbs
theorem tl_dec (n : Int) : tl (decS n) = decL n := by
  unfold decL decS
  cases n with
  | ofNat m =>
    rw [if_neg (show ¬ (Int.ofNat m < 0) from Int.not_lt.mpr (Int.natCast_nonneg m))]
    exact tl_num m
  | negSucc m =>
    rw [if_pos (by omega)]
    show tl (Str.ofString (toString (Int.negSucc m))) = _
    rw [tl_ofString]
    have e : toString (Int.negSucc m) = "-" ++ toString (m + 1) := rfl
    have e2 : (toString (m + 1)).toList.map Char.toNat = numL (m + 1) := by
      have := tl_num (m + 1)
      rw [tl_ofString] at this
      exact this
    rw [e, String.toList_append, List.map_append, e2]
    rfl
theorem digitsVal_snoc (p : List Nat) (c : Nat) : NumText.digitsVal (p ++ [c]) = NumText.digitsVal p * 10 + (c - 48) := by
  unfold NumText.digitsVal
  rw [List.foldl_append]
  rfl
theorem numL_back : ∀ (k : Nat) (l : List Nat), l.length = k → NumText.AllDigits l → l ≠ [] → (l.length = 1 ∨ l.head? ≠ some 48) → numL (NumText.digitsVal l) = l := by
  intro k
  induction k with
  | zero => intro l h _ h2; exact absurd (List.length_eq_zero_iff.mp h) h2
  | succ k ih =>
    intro l hk hd hne hh
    have e := List.dropLast_concat_getLast hne
    have hpl : l.dropLast.length = k := by rw [List.length_dropLast]; omega
    have hdp : NumText.AllDigits l.dropLast := fun c hc => hd c ((List.dropLast_sublist l).subset hc)
    have hc := hd _ (List.getLast_mem hne)
    generalize l.getLast hne = c at e hc
    generalize l.dropLast = p at e hpl hdp
    subst e
    rw [digitsVal_snoc]
    cases p with
    | nil =>
      have e0 : NumText.digitsVal [] = 0 := rfl
      rw [e0, numL_lt (by omega), List.nil_append]
      congr 1
      omega
    | cons x p =>
      have h48 : x ≠ 48 := by
        rcases hh with hh | hh
        · simp at hh
        · simpa using hh
      have i := ih (x :: p) hpl hdp (by simp) (.inr (by simpa using h48))
      have pos : 1 ≤ NumText.digitsVal (x :: p) := by
        by_cases h0 : NumText.digitsVal (x :: p) = 0
        · rw [h0, numL_lt (by omega)] at i
          injection i with i1 _
          exact absurd i1.symm h48
        · omega
      rw [numL_step (by omega)]
      have e1 : (NumText.digitsVal (x :: p) * 10 + (c - 48)) / 10 = NumText.digitsVal (x :: p) := by omega
      have e2 : 48 + (NumText.digitsVal (x :: p) * 10 + (c - 48)) % 10 = c := by omega
      rw [e1, e2, i]
def figsL (l : List Nat) : List Nat := if l.take 1 = [45] then l.drop 1 else l
def plainL (l : List Nat) : Prop := NumText.AllDigits (figsL l) ∧ figsL l ≠ [] ∧ (l = [48] ∨ (figsL l).head? ≠ some 48)
theorem numL_head {n : Nat} (h : 1 ≤ n) : (numL n).head? ≠ some 48 := by
  induction n using Nat.strongRecOn with
  | _ n ih =>
    by_cases h1 : n < 10
    · rw [numL_lt h1]; simp; omega
    · rw [numL_step (by omega), List.head?_append]
      have i := ih (n / 10) (by omega) (by omega)
      cases hn : numL (n / 10) with
      | nil => exact absurd hn (numL_ne _)
      | cons a b => rw [hn] at i; simpa using i
theorem figs_num (n : Nat) : figsL (numL n) = numL n := by
  unfold figsL
  rw [if_neg]
  intro h
  cases hn : numL n with
  | nil => exact absurd hn (numL_ne _)
  | cons a b =>
    rw [hn] at h
    have := numL_digits n a (by rw [hn]; simp)
    simp at h
    omega
theorem figs_neg (l : List Nat) : figsL (45 :: l) = l := by unfold figsL; simp
theorem plain_dec (n : Int) : plainL (decL n) := by
  unfold decL plainL
  split
  · rw [figs_neg]
    exact ⟨numL_digits _, numL_ne _, .inr (numL_head (by omega))⟩
  · rw [figs_num]
    refine ⟨numL_digits _, numL_ne _, ?_⟩
    by_cases h : n.natAbs = 0
    · rw [h, numL_lt (by omega)]; exact .inl rfl
    · exact .inr (numL_head (by omega))
theorem dec_plain {l : List Nat} (h : plainL l) : ∃ n, decL n = l := by
  obtain ⟨h1, h2, h3⟩ := h
  by_cases hm : l.take 1 = [45]
  · cases l with
    | nil => cases hm
    | cons a b =>
      have : a = 45 := by simpa using hm
      subst this
      rw [figs_neg] at h1 h2 h3
      have h4 : b.head? ≠ some 48 := by
        rcases h3 with h3 | h3
        · injection h3 with h3 _; omega
        · exact h3
      have e := numL_back _ b rfl h1 h2 (.inr h4)
      refine ⟨-(NumText.digitsVal b : Nat), ?_⟩
      have pos : 1 ≤ NumText.digitsVal b := by
        by_cases h0 : NumText.digitsVal b = 0
        · rw [h0, numL_lt (by omega)] at e
          rw [← e] at h4
          exact absurd rfl h4
        · omega
      unfold decL
      rw [if_pos (by omega)]
      rw [show (-(NumText.digitsVal b : Int)).natAbs = NumText.digitsVal b by omega, e]
  · have ef : figsL l = l := by unfold figsL; rw [if_neg hm]
    rw [ef] at h1 h2 h3
    have e := numL_back _ l rfl h1 h2 (by rcases h3 with h3 | h3; exact .inl (by rw [h3]; rfl); exact .inr h3)
    refine ⟨(NumText.digitsVal l : Nat), ?_⟩
    unfold decL
    rw [if_neg (by omega)]
    rw [show ((NumText.digitsVal l : Int)).natAbs = NumText.digitsVal l by omega, e]
theorem int_dec {n : Int} (hl : (decL n).length ≤ 640) : intText? (decS n) = some n := by
  have et := tl_dec n
  have len : (decS n).length = (decL n).length := by rw [len_tl, et]
  by_cases h : n < 0
  · have ed : decL n = 45 :: numL n.natAbs := by unfold decL; rw [if_pos h]
    rw [intText_neg (cs := numL n.natAbs) (et.trans ed) (numL_digits _) (numL_ne _) (by omega), numL_val]
    congr 1
    omega
  · have ed : decL n = numL n.natAbs := by unfold decL; rw [if_neg h]
    have et : (decS n).cps.toList = numL n.natAbs := et.trans ed
    rw [intText_digits (by rw [et]; exact numL_digits _) (by rw [et]; exact numL_ne _) (by omega), et, numL_val]
    congr 1
    omega
theorem decL_inj {m n : Int} (h : decL m = decL n) : m = n := by
  have digits : ∀ k c l, numL k = c :: l → 48 ≤ c := fun k c l e => (numL_digits k c (by rw [e]; simp)).1
  unfold decL at h
  split at h <;> split at h
  · injection h with _ h
    have := numL_inj h
    omega
  · have := digits _ _ _ h.symm
    omega
  · have := digits _ _ _ h
    omega
  · have := numL_inj h
    omega
theorem decS_inj {m n : Int} (h : decS m = decS n) : m = n := decL_inj (by rw [← tl_dec, ← tl_dec, h])
theorem decL_free (n : Int) : 47 ∉ decL n := by
  unfold decL
  split
  · simp only [List.mem_cons, not_or]
    exact ⟨by decide, numL_free (by omega)⟩
  · exact numL_free (by omega)
theorem cut_inj : ∀ {a b c d : List Nat}, 47 ∉ a → 47 ∉ c → a ++ 47 :: b = c ++ 47 :: d → a = c ∧ b = d
  | [], b, [], d, _, _, h => ⟨rfl, by simpa using h⟩
  | [], b, x :: c, d, _, h2, h => by
    injection h with h _
    subst h
    exact absurd (by simp) h2
  | x :: a, b, [], d, h1, _, h => by
    injection h with h _
    subst h
    exact absurd (by simp) h1
  | x :: a, b, y :: c, d, h1, h2, h => by
    injection h with e h
    obtain ⟨e1, e2⟩ := cut_inj (fun z => h1 (List.mem_cons_of_mem _ z)) (fun z => h2 (List.mem_cons_of_mem _ z)) h
    exact ⟨by rw [e, e1], e2⟩
theorem spl_ne : ∀ (l acc : List Nat), spl [47] 0 acc l ≠ []
  | [], acc => by rw [spl_nil]; simp
  | c :: r, acc => by
    cases h : pre [47] (c :: r)
    · rw [spl_miss h]; exact spl_ne r _
    · rw [spl_hit h]; simp
theorem spl_back : ∀ (l acc : List Nat), joinL [47] (spl [47] 0 acc l) = acc ++ l
  | [], acc => by rw [spl_nil]; simp [joinL]
  | c :: r, acc => by
    cases h : pre [47] (c :: r)
    · rw [spl_miss h, spl_back r]; simp
    · rw [spl_hit h]
      have hc : c = 47 := by unfold pre at h; simpa using h
      show joinL [47] (acc :: spl [47] 0 [] r) = _
      have i := spl_back r []
      cases hs : spl [47] 0 [] r with
      | nil => exact absurd hs (spl_ne _ _)
      | cons q qs =>
        rw [hs] at i
        show acc ++ ([47] ++ joinL [47] (q :: qs)) = _
        rw [i, hc]
        simp
end LW
set_option Elab.async false
set_option linter.all false
set_option maxRecDepth 100000
set_option maxHeartbeats 1000000
namespace LW
open PySem PySem.Spec PyProof.Rows L2 AM TL
/-! ### slices and equality of texts -/
theorem pick_range {α : Type} (xs : List α) (p : Nat) : ∀ m, ((List.range m).map (fun k => p + k)).filterMap (fun i => xs[i]?) = (xs.drop p).take m
  | 0 => rfl
  | m + 1 => by
    rw [List.range_succ, List.map_append, List.filterMap_append, pick_range xs p m, List.take_add_one, List.getElem?_drop]
    congr 1
theorem tl_slice (x : Str) (lo hi : Option Int) : tl (Txt.slice x lo hi) = ((tl x).drop (HT.sIx x.length 0 lo)).take (HT.sIx x.length x.length hi - HT.sIx x.length 0 lo) := by
  have h1 : HT.sIx x.length 0 lo ≤ x.length := HT.sIx_le _ _ (Nat.zero_le _) _
  have h2 : HT.sIx x.length x.length hi ≤ x.length := HT.sIx_le _ _ (Nat.le_refl _) _
  have hl : x.length = (tl x).length := len_tl x
  unfold Txt.slice
  rw [sidx]
  split
  · rename_i h
    have h : HT.sIx x.length x.length hi - HT.sIx x.length 0 lo = x.length := by simpa using h
    have e0 : HT.sIx x.length 0 lo = 0 := by omega
    rw [h, e0, List.drop_zero, hl, List.take_length]
  · rw [tl_mk]
    have e := pick_range (tl x) (HT.sIx x.length 0 lo) (HT.sIx x.length x.length hi - HT.sIx x.length 0 lo)
    rw [← e]
    congr 1
    funext i
    exact (Array.getElem?_toList ..).symm
theorem tl_headS (x : Str) : tl (Txt.slice x none (some 1)) = (tl x).take 1 := by
  rw [tl_slice]
  have hl : x.length = (tl x).length := len_tl x
  have e : HT.sIx x.length 0 none = 0 := rfl
  have e2 : HT.sIx x.length x.length (some 1) = min 1 x.length := rfl
  rw [e, e2, List.drop_zero, Nat.sub_zero, hl]
  cases tl x <;> simp
theorem tl_tailS (x : Str) : tl (Txt.slice x (some 1) none) = (tl x).drop 1 := by
  rw [tl_slice]
  have hl : x.length = (tl x).length := len_tl x
  have e : HT.sIx x.length x.length none = x.length := rfl
  have e2 : HT.sIx x.length 0 (some 1) = min 1 x.length := rfl
  rw [e, e2, hl]
  cases tl x <;> simp
def okS (u : Str) : Prop := ∀ c ∈ tl u, c < 0x110000
theorem okS_shp {u : Str} (h : okS u) : (D.str u).shp := by
  refine ⟨?_, by show (0 : Nat) ≤ 64; decide⟩
  show u.cps.all (· < 0x110000) = true
  rw [Array.all_eq_true']
  intro c hc
  exact decide_eq_true (h c (by show c ∈ u.cps.toList; exact Array.mem_toList_iff.mpr hc))
theorem beq_tl {u v : Str} : (u == v) = decide (tl u = tl v) := by
  by_cases h : tl u = tl v
  · rw [decide_eq_true h, ext_tl h]
    exact beq_self_eq_true v
  · rw [decide_eq_false h]
    exact beq_false_of_ne fun e => h (by rw [e])
theorem eq_str {u v : Str} {q : D → Prop} (hu : okS u) (hv : okS v) : oEq (.str u) (.str v) q = q (.bl (decide (tl u = tl v))) := propext ⟨fun h => by
  have := h.2.2
  simp only [D.eqv, beq_tl] at this
  exact this, fun h => ⟨okS_shp hu, okS_shp hv, by simp only [D.eqv, beq_tl]; exact h⟩⟩
theorem ne_str {u v : Str} {q : D → Prop} (hu : okS u) (hv : okS v) : oNe (.str u) (.str v) q = q (.bl (!decide (tl u = tl v))) := propext ⟨fun h => by
  have := h.2.2
  simp only [D.eqv, beq_tl] at this
  exact this, fun h => ⟨okS_shp hu, okS_shp hv, by simp only [D.eqv, beq_tl]; exact h⟩⟩
theorem okS_of {u : Str} {l : List Nat} (e : tl u = l) (h : ∀ c ∈ l, c < 0x110000) : okS u := fun c hc => h c (e ▸ hc)
theorem okS_head {u : Str} (h : okS u) : okS (Txt.slice u none (some 1)) := okS_of (tl_headS u) fun c hc => h c (List.mem_of_mem_take hc)
theorem okS_tail {u : Str} (h : okS u) : okS (Txt.slice u (some 1) none) := okS_of (tl_tailS u) fun c hc => h c (List.mem_of_mem_drop hc)
theorem okS_app {u v : Str} (h : okS u) (h' : okS v) : okS (u ++ v) := okS_of (tl_append u v) fun c hc => by
  rcases List.mem_append.mp hc with hc | hc
  · exact h c hc
  · exact h' c hc
theorem okS_dec (n : Int) : okS (decS n) := okS_of (tl_dec n) fun c hc => by
  unfold decL at hc
  split at hc
  · rcases List.mem_cons.mp hc with rfl | hc
    · decide
    · have := numL_digits _ c hc; omega
  · have := numL_digits _ c hc; omega
/-! ### the digits of a word -/
def figS (u : Str) : Str := if (tl u).take 1 = [45] then Txt.slice u (some 1) none else u
theorem tl_fig (u : Str) : tl (figS u) = figsL (tl u) := by
  unfold figS figsL
  split
  · exact tl_tailS u
  · rfl
theorem okS_fig {u : Str} (h : okS u) : okS (figS u) := by
  unfold figS
  split
  · exact okS_tail h
  · exact h
def digB (c : Nat) : Bool := decide (c ∈ ([48, 49, 50, 51, 52, 53, 54, 55, 56, 57] : List Nat))
theorem digB_iff (c : Nat) : digB c = true ↔ 48 ≤ c ∧ c ≤ 57 := by
  unfold digB
  simp
  omega
end LW
set_option Elab.async false
set_option linter.all false
set_option maxRecDepth 100000
set_option maxHeartbeats 1000000
namespace LW
open PySem PySem.Spec PyProof.Rows L2 AM TL
theorem okS_lit : okS "-" ∧ okS "" ∧ okS "0" ∧ okS "/" ∧ tl "-" = [45] ∧ tl "" = [] ∧ tl "0" = [48] ∧ tl "/" = [47] := by
  refine ⟨?_, ?_, ?_, ?_, by decide, by decide, by decide, by decide⟩ <;> (intro c hc; revert c; decide)
theorem digs_dec (c : Nat) : decide (c ∈ (Str.ofString "0123456789").cps) = digB c := by
  unfold digB
  rw [show (Str.ofString "0123456789").cps = (#[48, 49, 50, 51, 52, 53, 54, 55, 56, 57] : Array Nat) from by decide]
  simp
theorem all_digs {l : List Nat} : ((l.map digB).all id = true) ↔ NumText.AllDigits l := by
  rw [List.all_eq_true]
  constructor
  · intro h c hc
    exact (digB_iff c).mp (h _ (List.mem_map.mpr ⟨c, hc, rfl⟩))
  · intro h b hb
    obtain ⟨c, hc, rfl⟩ := List.mem_map.mp hb
    exact (digB_iff c).mpr (h c hc)
theorem read_integer_spec {u : Str} {st : S} {q : Rs → S → Prop} {er : QX} (hl : u.length ≤ 640) (hu : okS u) (h1 : ∀ n, u = decS n → q (.d (.int n)) st) (h0 : ¬ plainL (tl u) → q (.d .non) st) : m_read_integer [.str u] st q er := by
  obtain ⟨k1, k2, k3, k4, t1, t2, t3, t4⟩ := okS_lit
  refine ⟨rfl, ?_⟩
  show a_read_integer [.d (.str u), .no, .no] st _
  unfold a_read_integer
  simp
  refine ⟨by omega, ?_⟩
  rw [eq_str (okS_head hu) k1, tl_headS, t1]
  simp
  have fin : NumText.AllDigits (figsL (tl u)) → figsL (tl u) ≠ [] → (tl u = [48] ∨ (figsL (tl u)).head? ≠ some 48) → ∃ n, intText? u = some n ∧ u.length ≤ 640 ∧ q (.d (.int n)) st := fun a1 a2 a3 => by
    obtain ⟨n, hn⟩ := dec_plain (l := tl u) ⟨a1, a2, a3⟩
    have hn : u = decS n := ext_tl (by rw [tl_dec, hn])
    refine ⟨n, ?_, hl, h1 n hn⟩
    rw [hn]
    exact int_dec (by rw [← tl_dec, ← hn, ← len_tl]; exact hl)
  have hf : tl (figS u) = figsL (tl u) := tl_fig u
  have hfo := okS_fig hu
  have hfl : (figS u).length ≤ 640 := by
    unfold figS
    split
    · exact Nat.le_trans (Txt.slice_le ..) hl
    · exact hl
  unfold figS at hf hfo hfl
  split
  all_goals
    rename_i hc
    first | rw [if_pos hc] at hf hfo hfl | rw [if_neg hc] at hf hfo hfl
    try refine ⟨by omega, ?_⟩
    rw [eq_str hfo k2, hf, t2]
    simp
    split
    · rename_i hz
      exact h0 fun z => z.2.1 hz
    · rename_i hz
      refine lc_of (T := fun c => D.str ⟨#[c]⟩) (G := fun c => D.bl (digB c)) (by intro x h; cases h) _ (fun c _ P1 P2 h => ?_) ?_ ?_
      · simp
        rw [digs_dec]
        exact h
      · have := hfl
        rw [len_tl] at this
        simp only [List.length_nil]
        unfold tl at this
        omega
      · refine ⟨(figsL (tl u)).map digB, by rw [← hf]; simp [tl], ?_⟩
        simp only [trQ_bl]
        split
        · rename_i ha
          have had := all_digs.mp ha
          refine ⟨by omega, ?_⟩
          obtain ⟨c, r, hcr⟩ : ∃ c r, figsL (tl u) = c :: r := by
            cases hh : figsL (tl u) with
            | nil => exact absurd hh hz
            | cons c r => exact ⟨c, r, rfl⟩
          have hcd := had c (by rw [hcr]; simp)
          refine ⟨c, ?_, ?_⟩
          · have e := hf.trans hcr
            unfold tl at e
            rw [e]
            unfold atI ixN
            simp
          have tc : tl (⟨#[c]⟩ : Str) = [c] := rfl
          rw [eq_str (okS_of tc (by intro x hx; simp at hx; omega)) k3, tc, t3]
          simp
          split
          · rename_i h48
            rw [ne_str hu k3, t3]
            simp
            split
            · rename_i hn
              exact fin had hz (.inl (by simpa using hn))
            · rename_i hn
              refine h0 fun z => ?_
              rcases z.2.2 with z | z
              · exact absurd z (by simpa using hn)
              · rw [hcr] at z
                simp [h48] at z
          · rename_i h48
            exact fin had hz (.inr (by rw [hcr]; simpa using h48))
        · rename_i ha
          exact h0 fun z => ha (all_digs.mpr z.1)
end LW
set_option Elab.async false
set_option linter.all false
set_option maxRecDepth 100000
set_option maxHeartbeats 1000000
namespace LW
open PySem PySem.Spec PyProof.Rows L2 AM TL
theorem plain_spec {u : Str} {st : S} {q : Rs → S → Prop} {er : QX} (hl : u.length ≤ 100000) (hu : okS u) (h1 : plainL (tl u) → q (.d (.bl true)) st) (h0 : ¬ plainL (tl u) → q (.d (.bl false)) st) : m__law_plain [.str u] st q er := by
  obtain ⟨k1, k2, k3, k4, t1, t2, t3, t4⟩ := okS_lit
  refine ⟨rfl, ?_⟩
  show a__law_plain [.d (.str u), .no, .no] st _
  unfold a__law_plain
  simp
  refine ⟨by omega, ?_⟩
  rw [eq_str (okS_head hu) k1, tl_headS, t1]
  simp
  have hf : tl (figS u) = figsL (tl u) := tl_fig u
  have hfo := okS_fig hu
  have hfl : (figS u).length ≤ 100000 := by
    unfold figS
    split
    · exact Nat.le_trans (Txt.slice_le ..) hl
    · exact hl
  unfold figS at hf hfo hfl
  split
  all_goals
    rename_i hc
    first | rw [if_pos hc] at hf hfo hfl | rw [if_neg hc] at hf hfo hfl
    try refine ⟨by omega, ?_⟩
    rw [eq_str hfo k2, hf, t2]
    simp
    split
    · rename_i hz
      exact h0 fun z => z.2.1 hz
    · rename_i hz
      refine lc_of (T := fun c => D.str ⟨#[c]⟩) (G := fun c => D.bl (digB c)) (by intro x h; cases h) _ (fun c _ P1 P2 h => ?_) ?_ ?_
      · simp
        rw [digs_dec]
        exact h
      · have := hfl
        rw [len_tl] at this
        simp only [List.length_nil]
        unfold tl at this
        omega
      · refine ⟨(figsL (tl u)).map digB, by rw [← hf]; simp [tl], ?_⟩
        simp only [trQ_bl]
        split
        · rename_i ha
          have had := all_digs.mp ha
          rw [eq_str hu k3, t3]
          simp
          split
          · rename_i h48
            exact h1 ⟨had, hz, .inl h48⟩
          · rename_i h48
            refine ⟨by omega, ?_⟩
            obtain ⟨c, r, hcr⟩ : ∃ c r, figsL (tl u) = c :: r := by
              cases hh : figsL (tl u) with
              | nil => exact absurd hh hz
              | cons c r => exact ⟨c, r, rfl⟩
            have hcd := had c (by rw [hcr]; simp)
            refine ⟨c, ?_, ?_⟩
            · have e := hf.trans hcr
              unfold tl at e
              rw [e]
              unfold atI ixN
              simp
            have tc : tl (⟨#[c]⟩ : Str) = [c] := rfl
            rw [ne_str (okS_of tc (by intro x hx; simp at hx; omega)) k3, tc, t3]
            by_cases hc8 : c = 48
            · subst hc8
              simp
              exact h0 fun z => by
                rcases z.2.2 with z | z
                · exact h48 z
                · rw [hcr] at z; simp at z
            · simp [hc8]
              exact h1 ⟨had, hz, .inr (by rw [hcr]; simpa using hc8)⟩
        · rename_i ha
          exact h0 fun z => ha (all_digs.mpr z.1)
end LW
set_option Elab.async false
set_option linter.all false
set_option maxRecDepth 100000
set_option maxHeartbeats 1000000
namespace LW
open PySem PySem.Spec PyProof.Rows L2 AM TL
def rtS (a b : Int) : Str := if b = 1 then decS a else Str.empty ++ decS a ++ "/" ++ decS b
theorem decL_len {n : Int} (h : n.natAbs < 10 ^ 100) : (decL n).length ≤ 101 := by
  have := numL_len (k := 100) (by decide) h
  unfold decL
  split
  · simp; omega
  · omega
theorem decS_len {n : Int} (h : n.natAbs < 10 ^ 100) : (decS n).length ≤ 101 := by
  rw [len_tl, tl_dec]; exact decL_len h
theorem dec_log {n : Int} (h : n.natAbs < 10 ^ 100) : n.natAbs.log2 < 1920 := logN_lt (Nat.lt_of_lt_of_le h (by decide)) (by decide)
theorem ratio_text_spec {a b : Int} {st : S} {q : Rs → S → Prop} {er : QX} (ha : a.natAbs < 10 ^ 100) (hb : b.natAbs < 10 ^ 100) (h : q (.d (.str (rtS a b))) st) : m_ratio_text [.tup [.int a, .int b]] st q er := by
  refine ⟨rfl, ?_⟩
  show a_ratio_text [.d (.tup [.int a, .int b])] st _
  unfold a_ratio_text
  have i0 : ixN 2 0 = some 0 := rfl
  have i1 : ixN 2 1 = some 1 := rfl
  have la := decS_len ha
  have lb := decS_len hb
  have ga := dec_log ha
  have gb := dec_log hb
  unfold rtS at h
  simp [i0, i1]
  have e1 : Str.ofString a.repr = decS a := rfl
  have e2 : Str.ofString b.repr = decS b := rfl
  rw [e1, e2]
  have len : ∀ u v : Str, (u ++ v).length = u.length + v.length := fun u v => by rw [len_tl, len_tl u, len_tl v, tl_append, List.length_append]
  have l0 : Str.empty.length = 0 := rfl
  have l1 : (Str.ofString "/").length = 1 := by decide
  split
  · rename_i hb1
    rw [if_pos hb1] at h
    exact ⟨ga, h⟩
  · rename_i hb1
    rw [if_neg hb1] at h
    simp only [len, l0, l1]
    exact ⟨ga, by omega, by omega, gb, by omega, h⟩
end LW
set_option Elab.async false
set_option linter.all false
set_option maxRecDepth 100000
set_option maxHeartbeats 1000000
namespace LW
open PySem PySem.Spec PyProof.Rows L2 AM TL
theorem split_tl (t : Str) : (Txt.split t "/").map tl = spl [47] 0 [] (tl t) := by
  obtain ⟨k1, k2, k3, k4, t1, t2, t3, t4⟩ := okS_lit
  have e := split_spl t "/" (by rw [t4]; simp) (kind_ok (by rw [show (Str.ofString "/").cps = (#[47] : Array Nat) from by decide]; simp))
  rw [t4] at e
  exact e
theorem split_join (t : Str) : joinL [47] ((Txt.split t "/").map tl) = tl t := by
  rw [split_tl, spl_back, List.nil_append]
theorem split_ne (t : Str) : Txt.split t "/" ≠ [] := fun h => by
  have e := split_tl t
  rw [h] at e
  exact spl_ne _ _ e.symm
theorem split_one {t p : Str} (h : Txt.split t "/" = [p]) : p = t := by
  have e := split_join t
  rw [h] at e
  exact ext_tl e
theorem split_two {t p r : Str} (h : Txt.split t "/" = [p, r]) : tl t = tl p ++ 47 :: tl r := by
  have e := split_join t
  rw [h] at e
  rw [← e]
  rfl
end LW
set_option Elab.async false
set_option linter.all false
set_option maxRecDepth 100000
set_option maxHeartbeats 1000000
namespace LW
open PySem PySem.Spec PyProof.Rows L2 AM TL
/- t is the text of the ratio a / b -/
def Rd (t : Str) (a b : Int) : Prop := t.length ≤ 60 ∧ ((b = 1 ∧ t = decS a ∧ Txt.split t "/" = [t]) ∨ (2 ≤ b ∧ Int.gcd a b = 1 ∧ Txt.split t "/" = [decS a, decS b]))
theorem Rd.uni {t : Str} {a b c d : Int} (h : Rd t a b) (h' : Rd t c d) : a = c ∧ b = d := by
  rcases h.2 with ⟨h1, h2, h3⟩ | ⟨h1, h2, h3⟩ <;> rcases h'.2 with ⟨k1, k2, k3⟩ | ⟨k1, k2, k3⟩
  · exact ⟨decS_inj (h2.symm.trans k2), h1.trans k1.symm⟩
  · rw [h3] at k3; simp at k3
  · rw [k3] at h3; simp at h3
  · rw [h3] at k3
    injection k3 with e1 e2
    injection e2 with e2 _
    exact ⟨decS_inj e1, decS_inj e2⟩
theorem split_free {t : Str} (h : 47 ∉ tl t) : Txt.split t "/" = [t] := by
  apply map_tl_inj
  rw [split_tl, spl_last1 h]
  rfl
theorem split_dec (a : Int) : Txt.split (decS a) "/" = [decS a] := split_free (by rw [tl_dec]; exact decL_free a)
theorem rtS_tl {a b : Int} (h : b ≠ 1) : tl (rtS a b) = decL a ++ 47 :: decL b := by
  unfold rtS
  rw [if_neg h]
  simp only [tl_append, tl_dec]
  show [] ++ decL a ++ [47] ++ decL b = _
  simp
theorem split_rt {a b : Int} (h : b ≠ 1) : Txt.split (rtS a b) "/" = [decS a, decS b] := by
  apply map_tl_inj
  rw [split_tl, rtS_tl h]
  have e := spl_part1 (s := 47) (S := []) (p := decL a) (rest := decL b) (acc := []) (decL_free a)
  have e2 : decL a ++ 47 :: decL b = decL a ++ ([47] ++ decL b) := by simp
  rw [e2, e, spl_last1 (decL_free b)]
  simp [tl_dec]
end LW
set_option Elab.async false
set_option linter.all false
set_option maxRecDepth 100000
set_option maxHeartbeats 1000000
namespace LW
open PySem PySem.Spec PyProof.Rows L2 AM TL
theorem joinL_mem : ∀ (l : List (List Nat)) (w : List Nat), w ∈ l → ∀ c ∈ w, c ∈ joinL [47] l
  | [p], w, h, c, hc => by
    have : w = p := by simpa using h
    subst this; exact hc
  | p :: r :: l, w, h, c, hc => by
    show c ∈ p ++ ([47] ++ joinL [47] (r :: l))
    rcases List.mem_cons.mp h with rfl | h
    · simp [hc]
    · have := joinL_mem (r :: l) w h c hc
      simp [this]
theorem joinL_len : ∀ (l : List (List Nat)) (w : List Nat), w ∈ l → w.length ≤ (joinL [47] l).length
  | [p], w, h => by
    have : w = p := by simpa using h
    subst this; exact Nat.le_refl _
  | p :: r :: l, w, h => by
    show _ ≤ (p ++ ([47] ++ joinL [47] (r :: l))).length
    rcases List.mem_cons.mp h with rfl | h
    · simp
    · have := joinL_len (r :: l) w h
      simp; omega
theorem part_ok {t p : Str} (h : okS t) (hp : p ∈ Txt.split t "/") : okS p := fun c hc => h c (by
  rw [← split_join t]
  exact joinL_mem _ _ (List.mem_map.mpr ⟨p, hp, rfl⟩) c hc)
theorem part_len {t p : Str} (hp : p ∈ Txt.split t "/") : p.length ≤ t.length := by
  rw [len_tl, len_tl t, ← split_join t]
  exact joinL_len _ _ (List.mem_map.mpr ⟨p, hp, rfl⟩)
end LW
set_option Elab.async false
set_option linter.all false
set_option maxRecDepth 100000
set_option maxHeartbeats 1000000
namespace LW
open PySem PySem.Spec PyProof.Rows L2 AM TL
open Classical in
noncomputable def numD (u : Str) : D := if h : ∃ n, u = decS n then .int h.choose else .non
theorem numD_dec (n : Int) : numD (decS n) = .int n := by
  unfold numD
  have h : ∃ m, decS n = decS m := ⟨n, rfl⟩
  rw [dif_pos h, ← decS_inj h.choose_spec]
theorem numD_non {u : Str} (h : ∀ n, u ≠ decS n) : numD u = .non := by
  unfold numD
  rw [dif_neg fun ⟨n, e⟩ => h n e]
theorem read_num {u : Str} {st : S} {q : Rs → S → Prop} {er : QX} (hl : u.length ≤ 640) (hu : okS u) (h : q (.d (numD u)) st) : m_read_integer [.str u] st q er :=
  read_integer_spec hl hu (fun n e => by rw [e, numD_dec] at h; exact h) fun z => by
    rw [numD_non fun n e => z (by rw [e, tl_dec]; exact plain_dec n)] at h
    exact h
end LW
set_option Elab.async false
set_option linter.all false
set_option maxRecDepth 100000
set_option maxHeartbeats 1000000
namespace LW
open PySem PySem.Spec PyProof.Rows L2 AM TL
theorem dv_lt : ∀ (k : Nat) (l : List Nat), l.length = k → NumText.AllDigits l → NumText.digitsVal l < 10 ^ k
  | 0, l, h, _ => by
    have := List.length_eq_zero_iff.mp h
    subst this
    decide
  | k + 1, l, hk, hd => by
    have hne : l ≠ [] := by intro h; subst h; simp at hk
    have e := List.dropLast_concat_getLast hne
    have hpl : l.dropLast.length = k := by rw [List.length_dropLast]; omega
    have hdp : NumText.AllDigits l.dropLast := fun c hc => hd c ((List.dropLast_sublist l).subset hc)
    have hc := hd _ (List.getLast_mem hne)
    generalize l.getLast hne = c at e hc
    generalize l.dropLast = p at e hpl hdp
    subst e
    rw [digitsVal_snoc, Nat.pow_succ]
    have := dv_lt k p hpl hdp
    omega
theorem decS_lt {n : Int} (h : (decS n).length ≤ 60) : n.natAbs < 10 ^ 60 := by
  rw [len_tl, tl_dec] at h
  have hn : (numL n.natAbs).length ≤ 60 := by
    unfold decL at h
    split at h
    · simp at h; omega
    · exact h
  have := dv_lt _ _ rfl (numL_digits n.natAbs)
  rw [numL_val] at this
  exact Nat.lt_of_lt_of_le this (Nat.pow_le_pow_right (by decide) hn)
theorem gcd_one {a b : Int} (hb : 2 ≤ b) (h : Int.gcd a b = 1) : rt a b = a ∧ rb a b = b := by
  have g : gsg a b = 1 := by
    unfold gsg
    rw [if_neg (by omega), gcdL_two]
    have : Nat.gcd b.natAbs a.natAbs = 1 := by rw [Nat.gcd_comm]; exact h
    rw [this]; rfl
  have e1 := rt_mul (a := a) (b := b)
  have e2 := rb_mul (a := a) (b := b)
  rw [g] at e1 e2
  exact ⟨by omega, by omega⟩
theorem one_gcd {a b : Int} (hb : 2 ≤ b) (h : rb a b = b) : Int.gcd a b = 1 := by
  have e2 := rb_mul (a := a) (b := b)
  rw [h] at e2
  have g : gsg a b = 1 := by
    have : b * gsg a b = b * 1 := by omega
    exact Int.eq_of_mul_eq_mul_left (by omega) this
  unfold gsg at g
  rw [if_neg (by omega), gcdL_two] at g
  show Nat.gcd a.natAbs b.natAbs = 1
  rw [Nat.gcd_comm]; omega
theorem rd_same {t : Str} {n m : Int} (hl : t.length ≤ 60) (hs : Txt.split t "/" = [decS n, decS m]) (hm : 2 ≤ m) (he : tl (rtS (rt n m) (rb n m)) = tl t) : rt n m = n ∧ rb n m = m ∧ Rd t n m := by
  have et := split_two hs
  rw [tl_dec, tl_dec] at et
  have hb : rb n m ≠ 1 := fun h => by
    unfold rtS at he
    rw [if_pos h, tl_dec, et] at he
    have := decL_free (rt n m)
    rw [he] at this
    simp at this
  rw [rtS_tl hb, et] at he
  obtain ⟨e1, e2⟩ := cut_inj (decL_free _) (decL_free _) he
  have e1 := decL_inj e1
  have e2 := decL_inj e2
  exact ⟨e1, e2, hl, .inr ⟨hm, one_gcd hm e2, hs⟩⟩
theorem rd_other {t : Str} {n m : Int} (hs : Txt.split t "/" = [decS n, decS m]) (he : m < 2 ∨ tl (rtS (rt n m) (rb n m)) ≠ tl t) : ∀ a b, ¬ Rd t a b := fun a b h => by
  rcases h.2 with ⟨h1, h2, h3⟩ | ⟨h1, h2, h3⟩
  · rw [hs] at h3; simp at h3
  · rw [hs] at h3
    injection h3 with e1 e2
    injection e2 with e2 _
    have e1 := decS_inj e1
    have e2 := decS_inj e2
    subst e1; subst e2
    rcases he with he | he
    · omega
    · obtain ⟨g1, g2⟩ := gcd_one h1 h2
      rw [g1, g2, rtS_tl (by omega)] at he
      have et := split_two hs
      rw [tl_dec, tl_dec] at et
      exact he et.symm
theorem num_or (u : Str) : numD u = .non ∨ ∃ n, u = decS n ∧ numD u = .int n := by
  by_cases h : ∃ n, u = decS n
  · obtain ⟨n, rfl⟩ := h
    exact .inr ⟨n, rfl, numD_dec n⟩
  · exact .inl (numD_non fun n e => h ⟨n, e⟩)
theorem nums_shp : ∀ (l : List Str), D.plains (l.map numD) = true ∧ D.deps (l.map numD) ≤ 1
  | [] => by simp [D.plains, D.deps]
  | u :: l => by
    obtain ⟨h1, h2⟩ := nums_shp l
    simp only [List.map_cons, D.plains, D.deps, h1]
    rcases num_or u with h | ⟨n, _, h⟩ <;> rw [h] <;> simp [D.plain, D.dep] <;> omega
theorem nums_lst (l : List Str) : (D.lst (l.map numD)).shp := by
  obtain ⟨h1, h2⟩ := nums_shp l
  unfold D.shp
  simp only [D.plain, D.dep, h1]
  exact ⟨trivial, by omega⟩
theorem okS_rt (a b : Int) : okS (rtS a b) := by
  by_cases h : b = 1
  · unfold rtS; rw [if_pos h]; exact okS_dec a
  · refine okS_of (rtS_tl h) fun c hc => ?_
    rcases List.mem_append.mp hc with hc | hc
    · exact okS_dec a c (by rw [tl_dec]; exact hc)
    · rcases List.mem_cons.mp hc with rfl | hc
      · decide
      · exact okS_dec b c (by rw [tl_dec]; exact hc)
theorem joinL_count : ∀ (l : List (List Nat)), l.length ≤ (joinL [47] l).length + 1
  | [] => by simp
  | [p] => by simp
  | p :: r :: l => by
    have := joinL_count (r :: l)
    show _ ≤ (p ++ ([47] ++ joinL [47] (r :: l))).length + 1
    simp at this ⊢
    omega
theorem split_count (t : Str) : (Txt.split t "/").length ≤ t.length + 1 := by
  have := joinL_count ((Txt.split t "/").map tl)
  rw [split_join, List.length_map, ← len_tl] at this
  exact this
end LW
set_option Elab.async false
set_option linter.all false
set_option maxRecDepth 100000
set_option maxHeartbeats 1000000
namespace LW
open PySem PySem.Spec PyProof.Rows L2 AM TL
theorem p60 {n : Int} (h : n.natAbs < 10 ^ 60) : n.natAbs < 10 ^ 100 ∧ n.natAbs < 2 ^ 8000 := ⟨Nat.lt_of_lt_of_le h (by decide), Nat.lt_of_lt_of_le h (by decide)⟩
theorem len_str {t : Str} (h : t.length ≤ 100000) : lenD (.str t) = some t.length := by
  show (if t.length ≤ 100000 then some t.length else none) = _
  rw [if_pos h]
theorem read_ratio_spec {t : Str} {st : S} {q : Rs → S → Prop} {er : QX} (hl : t.length ≤ 99999) (ht : okS t) (h1 : ∀ a b, Rd t a b → q (.d (.tup [.int a, .int b])) st) (h0 : (∀ a b, ¬ Rd t a b) → er ⟨"BadText", none⟩ st) : m_read_ratio [.str t] st q er := by
  obtain ⟨k1, k2, k3, k4, t1, t2, t3, t4⟩ := okS_lit
  refine ⟨rfl, ?_⟩
  show a_read_ratio [.d (.str t), .no, .no, .no, .no] st _
  unfold a_read_ratio
  simp
  refine ⟨t.length, len_str (by omega), ?_⟩
  have hlen : (Txt.split t "/").length ≤ 100000 := Nat.le_trans (split_count t) (by omega)
  by_cases hlt : 60 < (t.length : Int)
  · rw [if_pos hlt]
    exact h0 fun a b h => by have := h.1; omega
  rw [if_neg hlt]
  have hlt : t.length ≤ 60 := by omega
  refine ⟨by decide, by omega, ?_⟩
  have pl : ∀ u ∈ Txt.split t "/", u.length ≤ 60 := fun u hu => Nat.le_trans (part_len hu) hlt
  have po : ∀ u ∈ Txt.split t "/", okS u := fun u hu => part_ok ht hu
  refine lc_of (T := D.str) (G := numD) (by intro x h; cases h) _ (fun u hu P1 P2 h => ?_) (by simpa using hlen) ?_
  · simp
    refine read_num (Nat.le_trans (pl u hu) (by omega)) (po u hu) ?_
    simpa using h
  rw [List.nil_append]
  have gone : ∀ u ∈ Txt.split t "/", numD u = .non → ∀ a b, ¬ Rd t a b := fun u hu hz a b h => by
    rcases h.2 with ⟨e1, e2, e3⟩ | ⟨e1, e2, e3⟩ <;> rw [e3] at hu
    · have : u = t := by simpa using hu
      rw [this, e2, numD_dec] at hz
      cases hz
    · have : u = decS a ∨ u = decS b := by simpa using hu
      rcases this with rfl | rfl <;> rw [numD_dec] at hz <;> cases hz
  have hin : ∀ {Q : D → Prop}, oIn .non (.lst ((Txt.split t "/").map numD)) Q = Q (.bl (((Txt.split t "/").map numD).any fun z => D.eqv z .non)) := fun {Q} => propext ⟨fun ⟨_, _, l, e, w⟩ => by cases e; exact w, fun w => ⟨by unfold D.shp; simp [D.plain, D.dep], nums_lst _, _, rfl, w⟩⟩
  cases hP : Txt.split t "/" with
  | nil => exact absurd hP (split_ne t)
  | cons p P =>
  rw [hP] at pl po gone hin
  cases P with
  | nil =>
    have ep := split_one hP
    subst ep
    rcases num_or p with hz | ⟨n, hn, hz⟩
    · rw [if_neg (by simp), hin]
      simp [hz, D.eqv]
      exact h0 (gone p (by simp) hz)
    · have sz := p60 (decS_lt (n := n) (by rw [← hn]; exact hlt))
      rw [if_neg (by simp), hin]
      simp [hz, D.eqv]
      refine ratio_text_spec sz.1 (by decide) ?_
      simp
      rw [ne_str (okS_rt _ _) ht]
      have e : rtS n 1 = p := by unfold rtS; rw [if_pos rfl, hn]
      rw [e]
      simp
      exact h1 n 1 ⟨hlt, .inl ⟨rfl, hn, hP⟩⟩
  | cons r P =>
  cases P with
  | cons s P =>
    rw [if_pos (by simp; omega)]
    refine h0 fun a b h => ?_
    rcases h.2 with ⟨e1, e2, e3⟩ | ⟨e1, e2, e3⟩ <;> rw [hP] at e3 <;> simp at e3
  | nil =>
    rw [if_neg (by simp), hin]
    rcases num_or p with hz | ⟨n, hn, hz⟩
    · simp [hz, D.eqv]
      exact h0 (gone p (by simp) hz)
    rcases num_or r with hy | ⟨m, hm, hy⟩
    · simp [hz, hy, D.eqv]
      exact h0 (gone r (by simp) hy)
    subst hn; subst hm
    have s1 := p60 (decS_lt (n := n) (pl _ (by simp)))
    have s2 := p60 (decS_lt (n := m) (pl _ (by simp)))
    simp [hz, hy, D.eqv]
    by_cases h2 : m < 2
    · simp [h2]
      exact h0 (rd_other hP (.inl h2))
    simp [h2]
    have e : atI [D.int n, D.int m] (-1) = some (.int m) := rfl
    refine ⟨_, e, ?_⟩
    have hm0 : m ≠ 0 := by omega
    refine ratio_spec hm0 s2.2 ?_
    simp
    refine ratio_text_spec (Nat.lt_of_le_of_lt (rt_le hm0) s1.1) (Nat.lt_of_le_of_lt (rb_le hm0) s2.1) ?_
    simp
    rw [ne_str (okS_rt _ _) ht]
    by_cases he : tl (rtS (rt n m) (rb n m)) = tl t
    · simp [he]
      obtain ⟨e1, e2, e3⟩ := rd_same hlt hP (by omega) he
      have := h1 n m e3
      unfold ratD
      rw [e1, e2]; exact this
    · simp [he]
      exact h0 (rd_other hP (.inr he))
end LW
set_option Elab.async false
set_option linter.all false
set_option maxRecDepth 100000
set_option maxHeartbeats 1000000
namespace LW
open PySem PySem.Spec PyProof.Rows L2 AM TL
open Classical in
noncomputable def plB (u : Str) : Bool := decide (plainL (tl u))
theorem plain_or (u : Str) : (plB u = true ∧ ∃ n, u = decS n) ∨ (plB u = false ∧ ∀ n, u ≠ decS n) := by
  by_cases h : plainL (tl u)
  · obtain ⟨n, hn⟩ := dec_plain h
    exact .inl ⟨by unfold plB; simpa using h, n, ext_tl (by rw [tl_dec, hn])⟩
  · exact .inr ⟨by unfold plB; simpa using h, fun n e => h (by rw [e, tl_dec]; exact plain_dec n)⟩
theorem due_spec {t : Str} {st : S} {q : Rs → S → Prop} {er : QX} (hl : t.length ≤ 99999) (ht : okS t) (h1 : ∀ a b, Rd t a b → q (.own [.tup [.int a, .int b]]) st) (h0 : (∀ a b, ¬ Rd t a b) → q (.own []) st) : m__law_due [.str t] st q er := by
  obtain ⟨k1, k2, k3, k4, t1, t2, t3, t4⟩ := okS_lit
  refine ⟨rfl, ?_⟩
  show a__law_due [.d (.str t), .no, .no, .no, .no] st _
  unfold a__law_due
  simp
  have hlen : (Txt.split t "/").length ≤ 100000 := Nat.le_trans (split_count t) (by omega)
  refine ⟨by decide, by omega, _, len_str (by omega), ?_⟩
  by_cases hlt : 60 < (t.length : Int)
  · rw [if_pos hlt]
    exact h0 fun a b h => by have := h.1; omega
  rw [if_neg hlt]
  have hlt : t.length ≤ 60 := by omega
  have pl : ∀ u ∈ Txt.split t "/", u.length ≤ 60 := fun u hu => Nat.le_trans (part_len hu) hlt
  have po : ∀ u ∈ Txt.split t "/", okS u := fun u hu => part_ok ht hu
  have gone : ∀ u ∈ Txt.split t "/", (∀ n, u ≠ decS n) → ∀ a b, ¬ Rd t a b := fun u hu hz a b h => by
    rcases h.2 with ⟨e1, e2, e3⟩ | ⟨e1, e2, e3⟩ <;> rw [e3] at hu
    · have : u = t := by simpa using hu
      exact hz a (by rw [this, e2])
    · have : u = decS a ∨ u = decS b := by simpa using hu
      rcases this with h | h
      · exact hz _ h
      · exact hz _ h
  have hint : ∀ {n : Int}, (decS n).length ≤ 60 → intText? (decS n) = some n := fun {n} h => int_dec (by rw [← tl_dec, ← len_tl]; omega)
  have hcomp : ∀ {env : List A} {ql : List D → S → Prop}, ql ((Txt.split t "/").map fun u => D.bl (plB u)) st → aLcL [] (agName 4) aYes (aCall m__law_plain (aCons (aVar 4) aNil) []) (.d (.str t) :: .d (.lst ((Txt.split t "/").map D.str)) :: .no :: .no :: .no :: env) ql ((Txt.split t "/").map D.str) [] st := fun {env ql} h => by
    refine lc_of (T := D.str) (G := fun u => D.bl (plB u)) (by intro x h; cases h) _ (fun u hu P1 P2 h => ?_) (by simpa using hlen) (by simpa using h)
    simp
    refine plain_spec (Nat.le_trans (pl u hu) (by omega)) (po u hu) (fun z => ?_) (fun z => ?_)
    · have e : plB u = true := by unfold plB; simpa using z
      rw [e] at h
      simpa using h
    · have e : plB u = false := by unfold plB; simpa using z
      rw [e] at h
      simpa using h
  cases hP : Txt.split t "/" with
  | nil => exact absurd hP (split_ne t)
  | cons p P =>
  rw [hP] at pl po gone hcomp
  cases P with
  | nil =>
    have ep := split_one hP
    subst ep
    rw [if_neg (by simp)]
    refine hcomp (env := []) ?_
    rcases plain_or p with ⟨hz, n, hn⟩ | ⟨hz, hn⟩
    · simp [hz]
      refine ⟨[true], rfl, ?_⟩
      simp
      have hi := hint (n := n) (by rw [← hn]; exact hlt)
      rw [← hn] at hi
      refine ⟨_, hi, by omega, ?_⟩
      exact h1 n 1 ⟨hlt, .inl ⟨rfl, hn, hP⟩⟩
    · simp [hz]
      refine ⟨[false], rfl, ?_⟩
      simp
      exact h0 (gone p (by simp) hn)
  | cons r P =>
  cases P with
  | cons s P =>
    rw [if_pos (by simp; omega)]
    refine h0 fun a b h => ?_
    rcases h.2 with ⟨e1, e2, e3⟩ | ⟨e1, e2, e3⟩ <;> rw [hP] at e3 <;> simp at e3
  | nil =>
    rw [if_neg (by simp)]
    refine hcomp (env := []) ?_
    rcases plain_or p with ⟨hz, n, hn⟩ | ⟨hz, hn⟩
    · rcases plain_or r with ⟨hy, m, hm⟩ | ⟨hy, hm⟩
      · subst hn; subst hm
        have g1 := hint (pl (decS n) (by simp))
        have g2 := hint (pl (decS m) (by simp))
        have l1 := pl (decS n) (by simp)
        have l2 := pl (decS m) (by simp)
        simp [hz, hy, g1, g2]
        refine ⟨[true, true], rfl, ?_⟩
        simp [g1, g2]
        refine ⟨by omega, by omega, ?_⟩
        by_cases h2 : m < 2
        · simp [h2]
          exact h0 (rd_other hP (.inl h2))
        simp [h2]
        refine law_divisor_spec (ns := [n, m]) rfl ?_
        simp
        by_cases hg : gcdL [n, m] = 1
        · simp [hg]
          refine h1 n m ⟨hlt, .inr ⟨by omega, ?_, hP⟩⟩
          rw [gcdL_two] at hg
          show Nat.gcd n.natAbs m.natAbs = 1
          rw [Nat.gcd_comm]; omega
        · simp [hg]
          refine h0 fun a b h => ?_
          rcases h.2 with ⟨e1, e2, e3⟩ | ⟨e1, e2, e3⟩ <;> rw [hP] at e3
          · simp at e3
          · injection e3 with e4 e5
            injection e5 with e5 _
            have e4 := decS_inj e4
            have e5 := decS_inj e5
            subst e4; subst e5
            refine hg ?_
            rw [gcdL_two, Nat.gcd_comm]
            have : Nat.gcd n.natAbs m.natAbs = 1 := e2
            rw [this]; rfl
      · simp [hz, hy]
        refine ⟨[true, false], rfl, ?_⟩
        simp
        exact h0 (gone r (by simp) hm)
    · simp [hz]
      refine ⟨[false, plB r], rfl, ?_⟩
      simp
      exact h0 (gone p (by simp) hn)
end LW
set_option Elab.async false
set_option linter.all false
set_option maxRecDepth 100000
set_option maxHeartbeats 1000000
namespace LW
open PySem PySem.Spec PyProof.Rows L2 AM TL
theorem take12 {st : S} {q : Rs → S → Prop} {er : QX} {n m : Nat} {ns : List Int} {k : Int} (hn : st[n]? = some (.pool m ns)) (hk : 0 < k) (hl : k.natAbs < 2 ^ 8000) (hm : m < 10 ^ 12) (h : ∀ (x : Int) (m' : Nat), 0 ≤ x → x < k → m ≤ m' → m' ≤ m + 1 → q (.d (.int x)) (st.set n (.pool m' ns))) : mTake [.ref n, .int k] st q er :=
  ⟨n, m, ns, k, rfl, hn, hk, Nat.lt_of_lt_of_le (logN_lt hl (by decide)) (by decide), hm, h⟩
theorem okS_slice {t : Str} (h : okS t) (lo hi : Option Int) : okS (Txt.slice t lo hi) := okS_of (tl_slice t lo hi) fun c hc => h c (List.mem_of_mem_drop (List.mem_of_mem_take hc))
theorem len_app (u v : Str) : (u ++ v).length = u.length + v.length := by rw [len_tl, len_tl u, len_tl v, tl_append, List.length_append]
theorem fold_arr (a : Array Nat) : ∀ (k : Nat) (acc : Array Nat), ((List.replicate k a).foldl (· ++ ·) acc).toList = acc.toList ++ (List.replicate k a.toList).flatten
  | 0, acc => by simp
  | k + 1, acc => by
    rw [List.replicate_succ, List.foldl_cons, fold_arr a k, List.replicate_succ, List.flatten_cons, Array.toList_append, List.append_assoc]
theorem tl_mul (u : Str) (n : Int) : tl (mulS u n) = (List.replicate n.toNat (tl u)).flatten := by
  unfold mulS
  split
  · have : n.toNat = 0 := by omega
    rw [this]; rfl
  · split
    · rename_i h
      have h : n = 1 ∨ u.length = 0 := by simpa using h
      rcases h with rfl | h
      · simp
      · have e : tl u = [] := List.length_eq_zero_iff.mp (by rw [← len_tl]; exact h)
        rw [e]
        simp
    · show (Array.toList _) = _
      rw [fold_arr]
      simp [tl]
theorem mul0_len (n : Int) : (mulS "0" n).length = n.toNat := by
  rw [len_tl, tl_mul]
  have : tl "0" = [48] := okS_lit.2.2.2.2.2.2.1
  rw [this]
  simp
theorem mul0_ok (n : Int) : okS (mulS "0" n) := fun c hc => by
  have e : tl "0" = [48] := okS_lit.2.2.2.2.2.2.1
  rw [tl_mul, e] at hc
  have : c = 48 := by
    obtain ⟨l, h1, h2⟩ := List.mem_flatten.mp hc
    have := (List.mem_replicate.mp h1).2
    subst this
    simpa using h2
  omega
theorem sgn_ok (sg : Int) (h0 : 0 ≤ sg) (h1 : sg < 17) : ∃ c, atI (Str.ofString "0123456789-+/. a_").cps.toList sg = some c ∧ c < 0x110000 := by
  have e : (Str.ofString "0123456789-+/. a_").cps.toList = [48, 49, 50, 51, 52, 53, 54, 55, 56, 57, 45, 43, 47, 46, 32, 97, 95] := by decide
  rw [e]
  obtain ⟨c, h1, h2⟩ := atI_lt (l := [48, 49, 50, 51, 52, 53, 54, 55, 56, 57, 45, 43, 47, 46, 32, 97, 95]) (i := sg) h0 (by simpa using h1)
  refine ⟨c, h1, ?_⟩
  simp at h2
  omega
theorem cut_len {t : Str} {k j : Int} (hk : 0 ≤ k) (hj : k ≤ j) : (Txt.slice t none (some k)).length + (Txt.slice t (some j) none).length ≤ t.length := by
  have hl := len_tl t
  rw [len_tl, len_tl (Txt.slice t (some j) none), tl_slice, tl_slice]
  have e1 : HT.sIx t.length 0 none = 0 := rfl
  have e2 : HT.sIx t.length t.length (some k) = min k.toNat t.length := by unfold HT.sIx; simp; intro h; omega
  have e3 : HT.sIx t.length 0 (some j) = min j.toNat t.length := by unfold HT.sIx; simp; intro h; omega
  have e4 : HT.sIx t.length t.length none = t.length := rfl
  rw [e1, e2, e3, e4]
  simp only [List.length_take, List.length_drop]
  omega
theorem spoiled_spec {m : Nat} {ns : List Int} {t : Str} {q : Rs → S → Prop} {er : QX} (hm : m < 1000) (ht : okS t) (hl : t.length ≤ 80000) (h : ∀ u m', okS u → u.length ≤ t.length + 5000 → m' ≤ m + 10 → q (.d (.str u)) [.pool m' ns]) : m__law_spoiled [.ref 0, .str t] [.pool m ns] q er := by
  obtain ⟨k1, k2, k3, k4, t1, t2, t3, t4⟩ := okS_lit
  refine ⟨rfl, ?_⟩
  show a__law_spoiled [.d (.ref 0), .d (.str t), .no, .no, .no, .no] [.pool m ns] _
  unfold a__law_spoiled
  simp
  refine take12 (n := 0) (m := m) (ns := ns) rfl (by decide) (by decide) (by omega) fun kind m1 a0 a1 _ hm1 => ?_
  simp
  refine ⟨t.length, len_str (by omega), ?_⟩
  refine take12 (n := 0) (m := m1) (ns := ns) rfl (by omega) (by omega) (by omega) fun at0 m2 b0 b1 _ hm2 => ?_
  simp
  refine take12 (n := 0) (m := m2) (ns := ns) rfl (by decide) (by decide) (by omega) fun sg m3 c0 c1 _ hm3 => ?_
  simp
  refine ⟨by decide, ?_⟩
  obtain ⟨c, hc, hc2⟩ := sgn_ok sg c0 c1
  refine ⟨c, hc, ?_⟩
  have oc : okS ⟨#[c]⟩ := fun x hx => by
    have : x = c := by simpa [tl] using hx
    rw [this]; exact hc2
  have lc : (⟨#[c]⟩ : Str).length = 1 := rfl
  have sl : ∀ lo hi, (Txt.slice t lo hi).length ≤ t.length := fun lo hi => Txt.slice_le ..
  have so : ∀ lo hi, okS (Txt.slice t lo hi) := okS_slice ht
  have s1 := sl none (some at0)
  have s2 := sl (some at0) none
  have s3 := sl (some (at0 + 1)) none
  have s4 := cut_len (t := t) b0 (Int.le_refl at0)
  have s5 := cut_len (t := t) (j := at0 + 1) b0 (by omega)
  split
  · simp [lc, len_app]
    refine ⟨by omega, by omega, by omega, by omega, ?_⟩
    exact h _ m3 (okS_app (okS_app (so _ _) oc) (so _ _)) (by rw [len_app, len_app, lc]; omega) (by omega)
  split
  · refine ⟨by omega, by omega, ?_⟩
    exact h _ m3 (okS_app (so _ _) (so _ _)) (by rw [len_app]; omega) (by omega)
  split
  · simp [lc, len_app]
    refine ⟨by omega, by omega, by omega, by omega, ?_⟩
    exact h _ m3 (okS_app (okS_app (so _ _) oc) (so _ _)) (by rw [len_app, len_app, lc]; omega) (by omega)
  split
  · refine take12 (n := 0) (m := m3) (ns := ns) rfl (by decide) (by decide) (by omega) fun z m4 d0 d1 _ hm4 => ?_
    have l0 : (Str.ofString "0").length ≤ 100 := by decide
    by_cases hz : at0 = 0
    · simp [hz, l0, mul0_len]
      refine ⟨by omega, ?_⟩
      exact h _ m4 (okS_app ht (mul0_ok _)) (by rw [len_app, mul0_len]; omega) (by omega)
    · simp [hz, l0, mul0_len]
      refine ⟨d0, by omega, by omega, ?_⟩
      exact h _ m4 (okS_app ht (mul0_ok _)) (by rw [len_app, mul0_len]; omega) (by omega)
  have l0 : (Str.ofString "0").length ≤ 100 := by decide
  have l1 : (Str.ofString "1").length = 1 := by decide
  have l2 : (Str.ofString " ").length = 1 := by decide
  have l3 : (Str.ofString "\n").length = 1 := by decide
  have o1 : okS (Str.ofString "1") := by intro c hc; revert c; decide
  have o2 : okS (Str.ofString " ") := by intro c hc; revert c; decide
  have o3 : okS (Str.ofString "\n") := by intro c hc; revert c; decide
  simp only [l0, l1, l2, l3, mul0_len]
  refine ⟨trivial, by decide, trivial, by decide, by omega, by omega, by omega, by omega, ?_⟩
  refine take12 (n := 0) (m := m3) (ns := ns) rfl (by decide) (by decide) (by omega) fun z m4 d0 d1 _ hm4 => ?_
  have small : ∀ u : Str, okS u → u.length ≤ t.length + 100 → q (.d (.str u)) [.pool m4 ns] := fun u hu hl => h u m4 hu (by omega) (by omega)
  have lit : ∀ u : String, (∀ c ∈ tl (Str.ofString u), c < 0x110000) → (Str.ofString u).length ≤ 10 → q (.d (.str (Str.ofString u))) [.pool m4 ns] := fun u hu hl => small _ hu (by omega)
  obtain ⟨x, hx, hx2⟩ := atI_lt (l := [D.str (Str.ofString ""), D.str (Str.ofString "-"), D.str (Str.ofString "/"), D.str (Str.ofString "0"), D.str (Str.ofString "-0"), D.str (Str.ofString "00"), D.str (Str.ofString "1/1"), D.str (Str.ofString "2/4"), D.str (Str.ofString "1/-2"), D.str (Str.ofString "-1/2"), D.str (Str.ofString "1/0"), D.str (Str.ofString "0/1"), D.str (Str.ofString "0/2"), D.str (Str.ofString "1/"), D.str (Str.ofString "/2"), D.str (Str.ofString "1/2/3"), D.str (Str.ofString "+1"), D.str (Str.ofString "1" ++ mulS (Str.ofString "0") 59), D.str (Str.ofString "1" ++ mulS (Str.ofString "0") 60), D.str t, D.str (Str.ofString " " ++ t), D.str (t ++ Str.ofString " "), D.str (t ++ Str.ofString "\n"), D.str (Str.ofString "\n" ++ t)]) (i := z) d0 (by simpa using d1)
  simp [hx]
  simp only [List.mem_cons, List.not_mem_nil, or_false] at hx2
  rcases hx2 with rfl | rfl | rfl | rfl | rfl | rfl | rfl | rfl | rfl | rfl | rfl | rfl | rfl | rfl | rfl | rfl | rfl | rfl | rfl | rfl | rfl | rfl | rfl | rfl
  · exact lit _ (by decide) (by decide)
  · exact lit _ (by decide) (by decide)
  · exact lit _ (by decide) (by decide)
  · exact lit _ (by decide) (by decide)
  · exact lit _ (by decide) (by decide)
  · exact lit _ (by decide) (by decide)
  · exact lit _ (by decide) (by decide)
  · exact lit _ (by decide) (by decide)
  · exact lit _ (by decide) (by decide)
  · exact lit _ (by decide) (by decide)
  · exact lit _ (by decide) (by decide)
  · exact lit _ (by decide) (by decide)
  · exact lit _ (by decide) (by decide)
  · exact lit _ (by decide) (by decide)
  · exact lit _ (by decide) (by decide)
  · exact lit _ (by decide) (by decide)
  · exact lit _ (by decide) (by decide)
  · exact small _ (okS_app o1 (mul0_ok _)) (by rw [len_app, l1, mul0_len, show ((59 : Int).toNat) = 59 from rfl]; omega)
  · exact small _ (okS_app o1 (mul0_ok _)) (by rw [len_app, l1, mul0_len, show ((60 : Int).toNat) = 60 from rfl]; omega)
  · exact small _ ht (by omega)
  · exact small _ (okS_app o2 ht) (by rw [len_app, l2]; omega)
  · exact small _ (okS_app ht o2) (by rw [len_app, l2]; omega)
  · exact small _ (okS_app ht o3) (by rw [len_app, l3]; omega)
  · exact small _ (okS_app o3 ht) (by rw [len_app, l3]; omega)
end LW
set_option Elab.async false
set_option linter.all false
set_option maxRecDepth 100000
set_option maxHeartbeats 1000000
namespace LW
open PySem PySem.Spec PyProof.Rows L2 AM TL
-- tails a_law lw12_ 5 6 7 8 9
def lw12_9 : AS := (sRet (aAndV (aOp oEq (aVar 8) (aCall m__law_due (aCons (aVar 6) (aNil)) [])) (aOrV (aOp oEq (aVar 8) (aLst (aNil))) (aOp oEq (aCall m_ratio_text (aCons (aOp oIxA (aVar 8) (aC (.int 0))) (aNil)) []) (aVar 6)))))
theorem lw12_9_eq : lw12_9 = (sRet (aAndV (aOp oEq (aVar 8) (aCall m__law_due (aCons (aVar 6) (aNil)) [])) (aOrV (aOp oEq (aVar 8) (aLst (aNil))) (aOp oEq (aCall m_ratio_text (aCons (aOp oIxA (aVar 8) (aC (.int 0))) (aNil)) []) (aVar 6))))) := rfl
def lw12_8 : AS := (sSeq (sAsg (aCall m__law_read (aCons (aVar 6) (aNil)) []) (agName 8)) lw12_9)
theorem lw12_8_eq : lw12_8 = (sSeq (sAsg (aCall m__law_read (aCons (aVar 6) (aNil)) []) (agName 8)) lw12_9) := rfl
def lw12_7 : AS := (sSeq (sFor (aRng1 (aCall m__law_take (aCons (aVar 1) (aCons (aC (.int 3)) (aNil))) [])) (agName 7) (sAsg (aCall m__law_spoiled (aCons (aVar 1) (aCons (aVar 6) (aNil))) []) (agName 6))) lw12_8)
theorem lw12_7_eq : lw12_7 = (sSeq (sFor (aRng1 (aCall m__law_take (aCons (aVar 1) (aCons (aC (.int 3)) (aNil))) [])) (agName 7) (sAsg (aCall m__law_spoiled (aCons (aVar 1) (aCons (aVar 6) (aNil))) []) (agName 6))) lw12_8) := rfl
def lw12_6 : AS := (sSeq (sAsg (aVar 5) (agName 6)) lw12_7)
theorem lw12_6_eq : lw12_6 = (sSeq (sAsg (aVar 5) (agName 6)) lw12_7) := rfl
def lw12_5 : AS := (sSeq (sIf (aOr (aTest (aOp oNe (aCall m_ratio_text (aCons (aVar 4) (aNil)) []) (aVar 5))) (aTest (aOp oNe (aCall m__law_read (aCons (aVar 5) (aNil)) []) (aLst (aCons (aVar 4) (aNil)))))) (sRet (aC (.bl false))) (sNext)) lw12_6)
theorem lw12_5_eq : lw12_5 = (sSeq (sIf (aOr (aTest (aOp oNe (aCall m_ratio_text (aCons (aVar 4) (aNil)) []) (aVar 5))) (aTest (aOp oNe (aCall m__law_read (aCons (aVar 5) (aNil)) []) (aLst (aCons (aVar 4) (aNil)))))) (sRet (aC (.bl false))) (sNext)) lw12_6) := rfl
theorem lw12_0_eq : a_law = (sSeq (sAsg (aOp oIxA (aLst (aCons (aC (.int 9)) (aCons (aOp oPow (aC (.int 10)) (aC (.int 29))) (aNil)))) (aCall m__law_take (aCons (aVar 1) (aCons (aC (.int 2)) (aNil))) [])) (agName 2)) (sSeq (sAsg (aOp oSub (aCall m__law_take (aCons (aVar 1) (aCons (aOp oAdd (aOp oMul (aC (.int 2)) (aVar 2)) (aC (.int 1))) (aNil))) []) (aVar 2)) (agName 3)) (sSeq (sAsg (aCall m__law_ratio (aCons (aVar 3) (aCons (aOp oAdd (aC (.int 1)) (aCall m__law_take (aCons (aVar 1) (aCons (aOp oIxA (aLst (aCons (aC (.int 9)) (aCons (aOp oPow (aC (.int 10)) (aC (.int 20))) (aNil)))) (aCall m__law_take (aCons (aVar 1) (aCons (aC (.int 2)) (aNil))) [])) (aNil))) [])) (aNil))) []) (agName 4)) (sSeq (sAsg (aB bStr (aCons (aOp oIxA (aVar 4) (aC (.int 0))) (aNil))) (agName 5)) (sSeq (sIf (aTest (aOp oNe (aOp oIxA (aVar 4) (aC (.int 1))) (aC (.int 1)))) (sAsg (aOp oAdd (aOp oAdd (aVar 5) (aC (.str "/"))) (aB bStr (aCons (aOp oIxA (aVar 4) (aC (.int 1))) (aNil)))) (agName 5)) (sNext)) lw12_5))))) := rfl
-- end tails
theorem law_read_spec {t : Str} {st : S} {q : Rs → S → Prop} {er : QX} (hl : t.length ≤ 99999) (ht : okS t) (h1 : ∀ a b, Rd t a b → q (.own [.tup [.int a, .int b]]) st) (h0 : (∀ a b, ¬ Rd t a b) → q (.d (.lst [])) st) : m__law_read [.str t] st q er := by
  refine ⟨rfl, ?_⟩
  show a__law_read [.d (.str t)] st _
  unfold a__law_read sTryOnly
  simp
  refine read_ratio_spec hl ht (fun a b h => ?_) fun h => ?_
  · simp
    exact h1 a b h
  · refine ⟨true, rfl, fun _ => ?_, fun z => by cases z⟩
    simp
    exact h0 h
theorem rd_text {t : Str} {a b : Int} (h : Rd t a b) : rtS a b = t := by
  rcases h.2 with ⟨h1, h2, h3⟩ | ⟨h1, h2, h3⟩
  · unfold rtS; rw [if_pos h1, h2]
  · apply ext_tl
    rw [rtS_tl (by omega), split_two h3, tl_dec, tl_dec]
theorem rd_size {t : Str} {a b : Int} (h : Rd t a b) : a.natAbs < 10 ^ 60 ∧ b.natAbs < 10 ^ 60 := by
  rcases h.2 with ⟨h1, h2, h3⟩ | ⟨h1, h2, h3⟩
  · subst h1
    exact ⟨decS_lt (by rw [← h2]; exact h.1), by decide⟩
  · have := h.1
    have p1 := part_len (t := t) (p := decS a) (by rw [h3]; simp)
    have p2 := part_len (t := t) (p := decS b) (by rw [h3]; simp)
    exact ⟨decS_lt (by omega), decS_lt (by omega)⟩
theorem rt_coprime {a b : Int} (hb : 0 < b) : Int.gcd (rt a b) (rb a b) = 1 := by
  have g : gsg a b = (Int.gcd a b : Int) := by
    unfold gsg
    rw [if_neg (by omega), gcdL_two, Nat.gcd_comm]
    rfl
  have hp : 0 < Int.gcd a b := Int.gcd_pos_of_ne_zero_right _ (by omega)
  have e := Int.gcd_ediv_gcd_ediv_gcd (i := a) (j := b) hp
  unfold rt rb
  rw [g, Int.fdiv_eq_ediv_of_nonneg _ (by omega), Int.fdiv_eq_ediv_of_nonneg _ (by omega)]
  exact e
theorem numL_le {k n : Nat} (hk : 0 < k) (h : n < 10 ^ k) : (numL n).length ≤ k := numL_len hk h
theorem rd_made {a b : Int} (ha : a.natAbs ≤ 10 ^ 29) (hb : 0 < b) (hb2 : b.natAbs ≤ 10 ^ 20) (hg : Int.gcd a b = 1) : Rd (rtS a b) a b := by
  have la : (decS a).length ≤ 31 := by
    rw [len_tl, tl_dec]
    have := numL_le (k := 30) (n := a.natAbs) (by decide) (Nat.lt_of_le_of_lt ha (by decide))
    unfold decL
    split
    · simp; omega
    · omega
  have lb : (decS b).length ≤ 22 := by
    rw [len_tl, tl_dec]
    have := numL_le (k := 21) (n := b.natAbs) (by decide) (Nat.lt_of_le_of_lt hb2 (by decide))
    unfold decL
    split
    · simp; omega
    · omega
  by_cases h : b = 1
  · subst h
    unfold rtS
    rw [if_pos rfl]
    exact ⟨by omega, .inl ⟨rfl, rfl, split_dec a⟩⟩
  · refine ⟨?_, .inr ⟨by omega, hg, split_rt h⟩⟩
    rw [len_tl, rtS_tl h]
    rw [len_tl, tl_dec] at la lb
    simp
    omega
theorem rd_ok {t : Str} {a b : Int} (h : Rd t a b) : okS t := by rw [← rd_text h]; exact okS_rt a b
end LW
set_option Elab.async false
set_option linter.all false
set_option maxRecDepth 100000
set_option maxHeartbeats 1000000
namespace LW
open PySem PySem.Spec PyProof.Rows L2 AM TL
theorem eq_shp {x y : D} {q : D → Prop} (hx : x.shp) (hy : y.shp) : oEq x y q = q (.bl (D.eqv x y)) := by unfold oEq; simp [hx, hy]
theorem ne_shp {x y : D} {q : D → Prop} (hx : x.shp) (hy : y.shp) : oNe x y q = q (.bl (!D.eqv x y)) := by unfold oNe; simp [hx, hy]
theorem fin12 {m : Nat} {ns : List Int} {e2 e3 e4 e5 e7 e8 : A} {t : Str} (ht : okS t) (hl : t.length ≤ 90000) : lw12_8 [.d (.scr ns), .d (.ref 0), e2, e3, e4, e5, .d (.str t), e7, e8] [.pool m ns] yes := by
  rw [lw12_8_eq]
  simp
  refine law_read_spec (by omega) ht (fun a b h => ?_) fun h => ?_
  · simp
    rw [lw12_9_eq]
    simp
    have sz := rd_size h
    refine due_spec (by omega) ht (fun c d h' => ?_) fun h' => absurd h (h' a b)
    obtain ⟨e1, e2⟩ := h.uni h'
    subst e1; subst e2
    simp
    have s1 : (D.lst [D.tup [D.int a, D.int b]]).shp := by unfold D.shp; simp [D.plain, D.plains, D.dep, D.deps]
    have s0 : (D.lst []).shp := by unfold D.shp; simp [D.plain, D.plains, D.dep, D.deps]
    rw [eq_shp s1 s1, eq_shp s1 s0]
    simp [D.eqv, D.eqvs]
    refine ratio_text_spec (p60 sz.1).1 (p60 sz.2).1 ?_
    simp
    rw [rd_text h, eq_str ht ht]
    simp [yes]
  · simp
    rw [lw12_9_eq]
    simp
    refine due_spec (by omega) ht (fun a b h' => absurd h' (h a b)) fun h' => ?_
    simp
    have s0 : (D.lst []).shp := by unfold D.shp; simp [D.plain, D.plains, D.dep, D.deps]
    rw [eq_shp s0 s0]
    simp [D.eqv, D.eqvs]
    rw [eq_shp s0 s0]
    simp [D.eqv, D.eqvs, yes]
theorem loop12 {m : Nat} {ns : List Int} {e2 e3 e4 e7 e8 : A} {t : Str} (hm : m ≤ 100) (ht : okS t) (hl : t.length ≤ 60) : lw12_6 [.d (.scr ns), .d (.ref 0), e2, e3, e4, .d (.str t), .no, e7, e8] [.pool m ns] yes := by
  rw [lw12_6_eq, lw12_7_eq]
  simp
  refine take12 (n := 0) (m := m) (ns := ns) rfl (by decide) (by decide) (by omega) fun x m1 x0 x1 _ hm1 => ?_
  simp
  refine ⟨⟨by omega, by omega⟩, ?_⟩
  refine for_ind (P := fun xs env s => ∃ m' u e7, env = [.d (.scr ns), .d (.ref 0), e2, e3, e4, .d (.str t), .d (.str u), e7, e8] ∧ s = [.pool m' ns] ∧ okS u ∧ u.length + 5000 * xs.length ≤ 20000 ∧ m' + 10 * xs.length ≤ 200) ?_ ?_ _ _ _ ⟨m1, t, e7, rfl, rfl, ht, by simp; omega, by simp; omega⟩
  · rintro env s ⟨m', u, e7, rfl, rfl, hu, h1, h2⟩
    exact ⟨(by intro x h; cases h), fin12 hu (by simp at h1; omega)⟩
  · rintro y xs env s ⟨m', u, e7, rfl, rfl, hu, h1, h2⟩ nx hnx
    simp at h1 h2
    refine ⟨(by intro x h; cases h), ?_⟩
    simp
    refine spoiled_spec (m := m') (by omega) hu (by omega) fun v m2 hv hvl hm2 => ?_
    simp
    exact hnx _ _ ⟨m2, v, _, rfl, rfl, hv, by omega, by omega⟩
theorem chk12 {m : Nat} {ns : List Int} {e2 e3 : A} {a b : Int} (hm : m ≤ 100) (ha : a.natAbs ≤ 10 ^ 29) (hb : 0 < b) (hb2 : b.natAbs ≤ 10 ^ 20) (hg : Int.gcd a b = 1) : lw12_5 [.d (.scr ns), .d (.ref 0), e2, e3, .d (.tup [.int a, .int b]), .d (.str (rtS a b)), .no, .no, .no] [.pool m ns] yes := by
  have hr := rd_made ha hb hb2 hg
  have sz := rd_size hr
  have ht := okS_rt a b
  rw [lw12_5_eq]
  simp
  refine ratio_text_spec (p60 sz.1).1 (p60 sz.2).1 ?_
  simp
  rw [ne_str ht ht]
  simp
  refine law_read_spec (by have := hr.1; omega) ht (fun c d h => ?_) fun h => absurd hr (h a b)
  obtain ⟨e1, e2⟩ := hr.uni h
  subst e1; subst e2
  simp
  have s1 : (D.lst [D.tup [D.int a, D.int b]]).shp := by unfold D.shp; simp [D.plain, D.plains, D.dep, D.deps]
  rw [ne_shp s1 s1]
  simp [D.eqv, D.eqvs]
  exact loop12 hm ht hr.1
theorem law_true (ns : List Int) (hns : ns.length ≤ 63) : a_law (.d (.scr ns) :: .d (.ref 0) :: List.replicate 7 .no) [.pool 0 ns] yes := by
  show a_law [.d (.scr ns), .d (.ref 0), .no, .no, .no, .no, .no, .no, .no] [.pool 0 ns] yes
  rw [lw12_0_eq]
  simp
  refine ⟨by show CPow 10 29; unfold CPow; decide, ?_⟩
  refine take12 (n := 0) (m := 0) (ns := ns) rfl (by decide) (by decide) (by decide) fun x m1 x0 x1 _ hm1 => ?_
  obtain ⟨sz, hsz, sz0, sz1⟩ : ∃ sz : Int, atI [D.int 9, D.int 100000000000000000000000000000] x = some (.int sz) ∧ 1 ≤ sz ∧ sz.natAbs ≤ 10 ^ 29 := by
    have : x = 0 ∨ x = 1 := by omega
    rcases this with rfl | rfl
    · exact ⟨9, rfl, by decide, by decide⟩
    · exact ⟨100000000000000000000000000000, rfl, by decide, by decide⟩
  simp [hsz]
  refine ⟨cmul_of (by decide) (Nat.lt_of_le_of_lt sz1 (by decide)), ?_⟩
  have p29 : (10 : Nat) ^ 29 = 100000000000000000000000000000 := by decide
  have p20 : (10 : Nat) ^ 20 = 100000000000000000000 := by decide
  rw [p29] at sz1
  have big : ∀ k : Int, k.natAbs ≤ 10 ^ 50 → k.natAbs < 2 ^ 8000 := fun k h => Nat.lt_of_le_of_lt h (by decide)
  have p50 : (10 : Nat) ^ 50 = 100000000000000000000000000000000000000000000000000 := by decide
  rw [p50] at big
  refine take12 (n := 0) (m := m1) (ns := ns) rfl (by omega) (big _ (by omega)) (by omega) fun up m2 u0 u1 _ hm2 => ?_
  simp
  refine ⟨by show CPow 10 20; unfold CPow; decide, ?_⟩
  refine take12 (n := 0) (m := m2) (ns := ns) rfl (by decide) (by decide) (by omega) fun y m3 y0 y1 _ hm3 => ?_
  obtain ⟨bz, hbz, bz0, bz1⟩ : ∃ sz : Int, atI [D.int 9, D.int 100000000000000000000] y = some (.int sz) ∧ 1 ≤ sz ∧ sz.natAbs ≤ 10 ^ 20 := by
    have : y = 0 ∨ y = 1 := by omega
    rcases this with rfl | rfl
    · exact ⟨9, rfl, by decide, by decide⟩
    · exact ⟨100000000000000000000, rfl, by decide, by decide⟩
  rw [p20] at bz1
  simp [hbz]
  refine take12 (n := 0) (m := m3) (ns := ns) rfl (by omega) (big _ (by omega)) (by omega) fun dn m4 d0 d1 _ hm4 => ?_
  simp
  have hd : (1 : Int) + dn ≠ 0 := by omega
  refine law_ratio_spec hd (big _ (by omega)) ?_
  simp [ratD]
  have ra := rt_le (a := up - sz) hd
  have rbl := rb_le (a := up - sz) hd
  have rp := rb_pos (a := up - sz) hd
  have co := rt_coprime (a := up - sz) (b := 1 + dn) (by omega)
  generalize rt (up - sz) (1 + dn) = a at ra co ⊢
  generalize rb (up - sz) (1 + dn) = b at rbl rp co ⊢
  have ha : a.natAbs ≤ 10 ^ 29 := by rw [p29]; omega
  have hb : b.natAbs ≤ 10 ^ 20 := by rw [p20]; omega
  have g1 : a.natAbs.log2 < 1920 := dec_log (Nat.lt_of_le_of_lt ha (by decide))
  have g2 : b.natAbs.log2 < 1920 := dec_log (Nat.lt_of_le_of_lt hb (by decide))
  have l1 := decS_len (n := a) (Nat.lt_of_le_of_lt ha (by decide))
  have l2 := decS_len (n := b) (Nat.lt_of_le_of_lt hb (by decide))
  have fin := fun e2 e3 => chk12 (m := m4) (ns := ns) (e2 := e2) (e3 := e3) (by omega) ha rp hb co
  have e1 : Str.ofString a.repr = decS a := rfl
  have e2 : Str.ofString b.repr = decS b := rfl
  have l3 : (Str.ofString "/").length = 1 := by decide
  rw [e1, e2]
  refine ⟨g1, ?_⟩
  split
  · rename_i h1
    have e : rtS a b = decS a := by unfold rtS; rw [if_pos h1]
    rw [e] at fin
    exact fin _ _
  · rename_i h1
    have e : rtS a b = decS a ++ Str.ofString "/" ++ decS b := by
      apply ext_tl
      rw [rtS_tl h1, tl_append, tl_append, tl_dec, tl_dec]
      show _ = decL a ++ [47] ++ decL b
      simp
    rw [e] at fin
    simp only [len_app, l3]
    exact ⟨by omega, g2, by omega, fin _ _⟩
end LW
set_option Elab.async false
set_option linter.all false
set_option maxRecDepth 100000
set_option maxHeartbeats 0
namespace LW
open PySem PySem.Spec PyProof.Rows L2 AM
structure Fcs (P : Program) (K : PySem.W.Frag) (mg : Str → Option Value) : Prop where
  g__law_pool : mg "_law_pool" = some (.ref (He.ga K "_law_pool"))
  F__law_pool : FunD K "_law_pool" "_law_pool" (defArgs s__law_pool) (defBody s__law_pool) (defScope s__law_pool) [] [] (He.ga K "_law_pool") (fdAt K (He.ga K "_law_pool"))
  g__law_take : mg "_law_take" = some (.ref (He.ga K "_law_take"))
  F__law_take : FunD K "_law_take" "_law_take" (defArgs s__law_take) (defBody s__law_take) (defScope s__law_take) [] [] (He.ga K "_law_take") (fdAt K (He.ga K "_law_take"))
  g__law_divisor : mg "_law_divisor" = some (.ref (He.ga K "_law_divisor"))
  F__law_divisor : FunD K "_law_divisor" "_law_divisor" (defArgs s__law_divisor) (defBody s__law_divisor) (defScope s__law_divisor) [] [] (He.ga K "_law_divisor") (fdAt K (He.ga K "_law_divisor"))
  g__law_ratio : mg "_law_ratio" = some (.ref (He.ga K "_law_ratio"))
  F__law_ratio : FunD K "_law_ratio" "_law_ratio" (defArgs s__law_ratio) (defBody s__law_ratio) (defScope s__law_ratio) [] [] (He.ga K "_law_ratio") (fdAt K (He.ga K "_law_ratio"))
  g_ratio_text : mg "ratio_text" = some (.ref (He.ga K "ratio_text"))
  F_ratio_text : FunD K "ratio_text" "ratio_text" (defArgs s_ratio_text) (defBody s_ratio_text) (defScope s_ratio_text) [] [] (He.ga K "ratio_text") (fdAt K (He.ga K "ratio_text"))
  g_read_integer : mg "read_integer" = some (.ref (He.ga K "read_integer"))
  F_read_integer : FunD K "read_integer" "read_integer" (defArgs s_read_integer) (defBody s_read_integer) (defScope s_read_integer) [] [] (He.ga K "read_integer") (fdAt K (He.ga K "read_integer"))
  g_divisor : mg "divisor" = some (.ref (He.ga K "divisor"))
  F_divisor : FunD K "divisor" "divisor" (defArgs s_divisor) (defBody s_divisor) (defScope s_divisor) [] [] (He.ga K "divisor") (fdAt K (He.ga K "divisor"))
  g_ratio : mg "ratio" = some (.ref (He.ga K "ratio"))
  F_ratio : FunD K "ratio" "ratio" (defArgs s_ratio) (defBody s_ratio) (defScope s_ratio) [.int 1] [] (He.ga K "ratio") (fdAt K (He.ga K "ratio"))
  g_read_ratio : mg "read_ratio" = some (.ref (He.ga K "read_ratio"))
  F_read_ratio : FunD K "read_ratio" "read_ratio" (defArgs s_read_ratio) (defBody s_read_ratio) (defScope s_read_ratio) [] [] (He.ga K "read_ratio") (fdAt K (He.ga K "read_ratio"))
  g__law_read : mg "_law_read" = some (.ref (He.ga K "_law_read"))
  F__law_read : FunD K "_law_read" "_law_read" (defArgs s__law_read) (defBody s__law_read) (defScope s__law_read) [] [] (He.ga K "_law_read") (fdAt K (He.ga K "_law_read"))
  g__law_spoiled : mg "_law_spoiled" = some (.ref (He.ga K "_law_spoiled"))
  F__law_spoiled : FunD K "_law_spoiled" "_law_spoiled" (defArgs s__law_spoiled) (defBody s__law_spoiled) (defScope s__law_spoiled) [] [] (He.ga K "_law_spoiled") (fdAt K (He.ga K "_law_spoiled"))
  g__law_plain : mg "_law_plain" = some (.ref (He.ga K "_law_plain"))
  F__law_plain : FunD K "_law_plain" "_law_plain" (defArgs s__law_plain) (defBody s__law_plain) (defScope s__law_plain) [] [] (He.ga K "_law_plain") (fdAt K (He.ga K "_law_plain"))
  g__law_due : mg "_law_due" = some (.ref (He.ga K "_law_due"))
  F__law_due : FunD K "_law_due" "_law_due" (defArgs s__law_due) (defBody s__law_due) (defScope s__law_due) [] [] (He.ga K "_law_due") (fdAt K (He.ga K "_law_due"))
  g_law : mg "law" = some (.ref (He.ga K "law"))
  F_law : FunD K "law" "law" (defArgs s_law) (defBody s_law) (defScope s_law) [] [] (He.ga K "law") (fdAt K (He.ga K "law"))
  n_list : mg "list" = none
  n_int : mg "int" = none
  n_len : mg "len" = none
  n_max : mg "max" = none
  n_abs : mg "abs" = none
  n_str : mg "str" = none
  k_DIGITS : ∃ t, mg "DIGITS" = some (.str "0123456789" t)
  n_all : mg "all" = none
  g_BadRatio : mg "BadRatio" = some (.ref (He.ga K "BadRatio"))
  X_BadRatio : XC P K mg (He.ga K "BadRatio") (He.ma K (He.ga K "BadRatio") "__init__") (fdAt K (He.ma K (He.ga K "BadRatio") "__init__")) (defArgs sx_BadRatio) (defBody sx_BadRatio) (defScope sx_BadRatio)
  NX_BadRatio : PySem.W.findIn K (.ref (He.ga K "BadRatio")) "bottom" = some none
  g_BadText : mg "BadText" = some (.ref (He.ga K "BadText"))
  X_BadText : XC P K mg (He.ga K "BadText") (He.ma K (He.ga K "BadText") "__init__") (fdAt K (He.ma K (He.ga K "BadText") "__init__")) (defArgs sx_BadText) (defBody sx_BadText) (defScope sx_BadText)
  k_LONGEST_TEXT : ∃ t, mg "LONGEST_TEXT" = some (.int 60 t)
  M_BadRatio_BadText : PySem.W.exmOne K (.ref (He.ga K "BadRatio")) (.ref (He.ga K "BadText")) = some false
  M_BadText_BadText : PySem.W.exmOne K (.ref (He.ga K "BadText")) (.ref (He.ga K "BadText")) = some true
  n_range : mg "range" = none
section
variable {P : Program} {w : World} {K : PySem.W.Frag} {mg : Str → Option Value} {base : Heap}
theorem okx_BadRatio (T : Fcs P K mg) : FnOk P w K mg base CX0 1 (He.ma K (He.ga K "BadRatio") "__init__") (fdAt K (He.ma K (He.ga K "BadRatio") "__init__")) ["self", "bottom"] (spX1 (He.ga K "BadRatio") "bottom") := xfn1 T.X_BadRatio (fun env => ⟨_, rfl⟩) rfl rfl rfl rfl rfl rfl rfl (by decide +kernel) rfl rfl T.NX_BadRatio (by decide) (by decide) (fun _ => rfl)
theorem bx_BadRatio (T : Fcs P K mg) : Binds K (fdAt K (He.ma K (He.ga K "BadRatio") "__init__")) ["self", "bottom"] [] := T.X_BadRatio.binds fun _ _ _ _ _ _ _ _ us hl => match us, hl with | [_, _], _ => rfl
theorem okx_BadText (T : Fcs P K mg) : FnOk P w K mg base CX0 1 (He.ma K (He.ga K "BadText") "__init__") (fdAt K (He.ma K (He.ga K "BadText") "__init__")) ["self"] (spX0 (He.ga K "BadText")) := xfn0 T.X_BadText (fun env => ⟨_, rfl⟩) rfl rfl rfl rfl rfl rfl (by decide +kernel) rfl rfl
theorem bx_BadText (T : Fcs P K mg) : Binds K (fdAt K (He.ma K (He.ga K "BadText") "__init__")) ["self"] [] := T.X_BadText.binds fun _ _ _ _ _ _ _ _ us hl => match us, hl with | [_], _ => rfl
theorem xm_BadText_ok (T : Fcs P K mg) : ∀ c b, xm_BadText c = some b → PySem.W.exmOne K (.ref (He.ga K c)) (.ref (He.ga K "BadText")) = some b := fun c b h => by
  unfold xm_BadText at h
  split at h
  · rename_i e; subst e; rw [T.M_BadRatio_BadText]; exact h
  split at h
  · rename_i e; subst e; rw [T.M_BadText_BadText]; exact h
  cases h
theorem b__law_divisor_0 (T : Fcs P K mg) : BindsD K (fdAt K (He.ga K "_law_divisor")) ["_law_numbers"] [] := .no (T.F__law_divisor.bindsN fun _ _ _ _ _ _ us hl => match us, hl with | [_], _ => rfl)
theorem b_divisor_0 (T : Fcs P K mg) : BindsD K (fdAt K (He.ga K "divisor")) ["numbers"] [] := .no (T.F_divisor.bindsN fun _ _ _ _ _ _ us hl => match us, hl with | [_], _ => rfl)
theorem b_ratio_text_0 (T : Fcs P K mg) : BindsD K (fdAt K (He.ga K "ratio_text")) ["one"] [] := .no (T.F_ratio_text.bindsN fun _ _ _ _ _ _ us hl => match us, hl with | [_], _ => rfl)
theorem b_ratio_0 (T : Fcs P K mg) : BindsD K (fdAt K (He.ga K "ratio")) ["top", "bottom"] [] := T.F_ratio.binds1 2 1 (fun z => nomatch z) rfl fun _ _ _ _ _ _ _ us its h1 h2 => match us, its, h1, h2 with | [_, _], [_], _, _ => ⟨_, rfl, rfl⟩
theorem b_read_integer_0 (T : Fcs P K mg) : BindsD K (fdAt K (He.ga K "read_integer")) ["text"] [] := .no (T.F_read_integer.bindsN fun _ _ _ _ _ _ us hl => match us, hl with | [_], _ => rfl)
theorem b_read_ratio_0 (T : Fcs P K mg) : BindsD K (fdAt K (He.ga K "read_ratio")) ["text"] [] := .no (T.F_read_ratio.bindsN fun _ _ _ _ _ _ us hl => match us, hl with | [_], _ => rfl)
theorem b__law_take_0 (T : Fcs P K mg) : BindsD K (fdAt K (He.ga K "_law_take")) ["_law_pool_here", "_law_many"] [] := .no (T.F__law_take.bindsN fun _ _ _ _ _ _ us hl => match us, hl with | [_, _], _ => rfl)
theorem b__law_plain_0 (T : Fcs P K mg) : BindsD K (fdAt K (He.ga K "_law_plain")) ["_law_word"] [] := .no (T.F__law_plain.bindsN fun _ _ _ _ _ _ us hl => match us, hl with | [_], _ => rfl)
theorem b__law_due_0 (T : Fcs P K mg) : BindsD K (fdAt K (He.ga K "_law_due")) ["_law_text"] [] := .no (T.F__law_due.bindsN fun _ _ _ _ _ _ us hl => match us, hl with | [_], _ => rfl)
theorem b__law_read_0 (T : Fcs P K mg) : BindsD K (fdAt K (He.ga K "_law_read")) ["_law_text"] [] := .no (T.F__law_read.bindsN fun _ _ _ _ _ _ us hl => match us, hl with | [_], _ => rfl)
theorem b__law_spoiled_0 (T : Fcs P K mg) : BindsD K (fdAt K (He.ga K "_law_spoiled")) ["_law_pool_here", "_law_text"] [] := .no (T.F__law_spoiled.bindsN fun _ _ _ _ _ _ us hl => match us, hl with | [_, _], _ => rfl)
theorem b__law_ratio_0 (T : Fcs P K mg) : BindsD K (fdAt K (He.ga K "_law_ratio")) ["_law_up", "_law_down"] [] := .no (T.F__law_ratio.bindsN fun _ _ _ _ _ _ us hl => match us, hl with | [_, _], _ => rfl)
theorem b__law_pool_0 (T : Fcs P K mg) : BindsD K (fdAt K (He.ga K "_law_pool")) ["_law_script"] [] := .no (T.F__law_pool.bindsN fun _ _ _ _ _ _ us hl => match us, hl with | [_], _ => rfl)
theorem sc__law_pool : FnScope ["_law_script"] ["_law_script"] (defScope s__law_pool) := ⟨rfl, rfl, rfl, by decide +kernel, rfl, by decide +kernel, by decide +kernel⟩
theorem ok__law_pool (T : Fcs P K mg) : FnOk P w K mg base (L2N.CX P w) 1 (He.ga K "_law_pool") (fdAt K (He.ga K "_law_pool")) ["_law_script"] (SpA K m__law_pool) :=
  fn_ok (k := 0) T.F__law_pool sc__law_pool leadsP fun cdv A outer s H E C =>
    axb_one (axs_retF (axf_lst (axa_cons (ax_int) (axa_cons (ax_int) (axa_cons (ax_listScr 0 T.n_list) (axa_nil))))))
theorem sc__law_take : FnScope ["_law_pool_here", "_law_many", "_law_digit", "_law_at", "_law_drawn", "_law_mixed"] ["_law_pool_here", "_law_many"] (defScope s__law_take) := ⟨rfl, rfl, rfl, by decide +kernel, rfl, by decide +kernel, by decide +kernel⟩
theorem ok__law_take (T : Fcs P K mg) : FnOk P w K mg base (L2N.CX P w) 1 (He.ga K "_law_take") (fdAt K (He.ga K "_law_take")) ["_law_pool_here", "_law_many"] (SpA K m__law_take) :=
  FnOk.weak (m := fnP 2 6 aTake) (fn_ok (k := 0) T.F__law_take sc__law_take leadsP fun cdv A outer s H E C =>
    axb_cons (axs_if (axt_cmp (op_Eq C.toCxE) (ax_poolIx (c := 1) 0) (ax_int)) (axb_cons (axs_set (i := 3) C.nd (ax_poolIx (c := 0) 0))
    (axb_cons (axs_poolSet (c := 0) 0 (ax_op op_Add (ax_var 3) (ax_int)))
    (axb_cons (axs_set (i := 4) C.nd (ax_ix op_Ix (ax_op op_Add (ax_poolIx (c := 2) 0) (ax_lst (axa_cons (ax_int) (axa_nil)))) (ax_op op_Mod (ax_callTy cb_int T.n_int rfl (axa_cons (ax_var 3) (axa_nil))) (ax_callB (cb_max2 C.toCxE) T.n_max rfl (axa_cons (ax_int) (axa_cons (ax_callB cb_len T.n_len rfl (axa_cons (ax_poolIx (c := 2) 0) (axa_nil))) (axa_nil)))))))
    (axb_cons (axs_set (i := 5) C.nd (ax_op op_Mod (ax_op op_Pow (ax_op op_Add (ax_op op_Add (ax_op op_Mod (ax_callTy cb_int T.n_int rfl (axa_cons (ax_var 4) (axa_nil))) (ax_int)) (ax_op op_Mul (ax_int) (ax_var 3))) (ax_int)) (ax_int)) (ax_int)))
    (axb_cons (axs_set (i := 5) C.nd (ax_op op_Mod (ax_op op_Pow (ax_op op_Add (ax_op op_Add (ax_var 5) (ax_op op_Mul (ax_int) (ax_var 3))) (ax_int)) (ax_int)) (ax_int)))
    (axb_cons (axs_if (axt_cmp op_Lt (ax_var 4) (ax_op op_Pow (ax_int) (ax_int))) (axb_one (axs_ret (ax_op op_Mod (ax_op op_Fdiv (ax_var 5) (ax_int)) (ax_var 1)))) (axb_nil))
    (axb_one (axs_poolSet (c := 1) 0 (ax_var 4))))))))) (axb_nil))
    (axb_cons (axs_set (i := 2) C.nd (ax_op op_Mod (ax_callTy cb_int T.n_int rfl (axa_cons (ax_poolIx (c := 1) 0) (axa_nil))) (ax_var 1)))
    (axb_cons (axs_poolSet (c := 1) 0 (ax_op op_Fdiv (ax_poolIx (c := 1) 0) (ax_var 1)))
    (axb_one (axs_ret (ax_var 2)))))) take_ok
theorem sc__law_divisor : FnScope ["_law_numbers", "_law_found", "_law_number", "_law_one", "_law_other"] ["_law_numbers"] (defScope s__law_divisor) := ⟨rfl, rfl, rfl, by decide +kernel, rfl, by decide +kernel, by decide +kernel⟩
theorem ok__law_divisor (T : Fcs P K mg) : FnOk P w K mg base (L2N.CX P w) 1 (He.ga K "_law_divisor") (fdAt K (He.ga K "_law_divisor")) ["_law_numbers"] (SpA K m__law_divisor) :=
  fn_ok (k := 0) T.F__law_divisor sc__law_divisor leadsP fun cdv A outer s H E C =>
    axb_cons (axs_set (i := 1) C.nd (ax_int))
    (axb_cons (axs_for C (axi_seq (ax_var 0)) (axg_name (i := 2) C.toCxE.nd) (axb_cons (axs_set (i := 3) C.nd (ax_callB cb_abs T.n_abs rfl (axa_cons (ax_var 2) (axa_nil))))
    (axb_cons (axs_set (i := 4) C.nd (ax_var 1))
    (axb_cons (axs_while C (axt_cmp (op_Ne C.toCxE) (ax_var 4) (ax_int)) (axb_one (axs_par (i := 3) (j := 4) C.calm C.nd (axa_cons (ax_var 4) (axa_cons (ax_op op_Mod (ax_callTy cb_int T.n_int rfl (axa_cons (ax_var 3) (axa_nil))) (ax_var 4)) (axa_nil))))))
    (axb_one (axs_set (i := 1) C.nd (ax_var 3)))))))
    (axb_one (axs_ret (ax_var 1))))
theorem sc__law_ratio : FnScope ["_law_up", "_law_down", "_law_part"] ["_law_up", "_law_down"] (defScope s__law_ratio) := ⟨rfl, rfl, rfl, by decide +kernel, rfl, by decide +kernel, by decide +kernel⟩
theorem ok__law_ratio (T : Fcs P K mg) : FnOk P w K mg base (L2N.CX P w) 2 (He.ga K "_law_ratio") (fdAt K (He.ga K "_law_ratio")) ["_law_up", "_law_down"] (SpA K m__law_ratio) :=
  fn_ok (k := 1) T.F__law_ratio sc__law_ratio leadsP fun cdv A outer s H E C =>
    axb_cons (axs_set (i := 2) C.nd (ax_call C.toCxE (ok__law_divisor T) T.g__law_divisor T.F__law_divisor.kp (b__law_divisor_0 T) (fun _ => .nil) (axa_cons (ax_lst (axa_cons (ax_var 0) (axa_cons (ax_var 1) (axa_nil)))) (axa_nil)) (by decide)))
    (axb_cons (axs_if (axt_cmp op_Lt (ax_var 1) (ax_int)) (axb_one (axs_set (i := 2) C.nd (ax_un op_Neg (ax_var 2)))) (axb_nil))
    (axb_one (axs_ret (ax_tup (axa_cons (ax_op op_Fdiv (ax_var 0) (ax_var 2)) (axa_cons (ax_op op_Fdiv (ax_var 1) (ax_var 2)) (axa_nil)))))))
theorem sc_ratio_text : FnScope ["one"] ["one"] (defScope s_ratio_text) := ⟨rfl, rfl, rfl, by decide +kernel, rfl, by decide +kernel, by decide +kernel⟩
theorem ok_ratio_text (T : Fcs P K mg) : FnOk P w K mg base (L2N.CX P w) 1 (He.ga K "ratio_text") (fdAt K (He.ga K "ratio_text")) ["one"] (SpA K m_ratio_text) :=
  fn_ok (k := 0) T.F_ratio_text sc_ratio_text leadsP fun cdv A outer s H E C =>
    axb_one (axs_ret (ax_if (axt_cmp (op_Eq C.toCxE) (ax_ix (op_IxA C.toCxE) (ax_var 0) (ax_int)) (ax_int)) (ax_callTy cb_str T.n_str rfl (axa_cons (ax_ix (op_IxA C.toCxE) (ax_var 0) (ax_int)) (axa_nil))) (ax_joined (.cons (ax_fmt (ax_ix (op_IxA C.toCxE) (ax_var 0) (ax_int))) (.cons (ax_str) (.cons (ax_fmt (ax_ix (op_IxA C.toCxE) (ax_var 0) (ax_int))) (.nil)))))))
theorem sc_read_integer : FnScope ["text", "figures", "sign"] ["text"] (defScope s_read_integer) := ⟨rfl, rfl, rfl, by decide +kernel, rfl, by decide +kernel, by decide +kernel⟩
theorem ok_read_integer (T : Fcs P K mg) : FnOk P w K mg base (L2N.CX P w) 1 (He.ga K "read_integer") (fdAt K (He.ga K "read_integer")) ["text"] (SpA K m_read_integer) :=
  fn_ok (k := 0) T.F_read_integer sc_read_integer leadsP fun cdv A outer s H E C =>
    axb_cons (axs_set (i := 1) C.nd (ax_if (axt_cmp (op_Eq C.toCxE) (ax_sl (ax_var 0) (axp_no) (axp_at (ax_int))) (ax_str)) (ax_sl (ax_var 0) (axp_at (ax_int)) (axp_no)) (ax_var 0)))
    (axb_cons (axs_if (axt_w (axw_or (axt_cmp (op_Eq C.toCxE) (ax_var 1) (ax_str)) (axw_or1 (axt_not (axt_val (ax_callB (cb_all C.toCxE) T.n_all rfl (axa_cons (axf_e (axf_lc [("sign", 2)] C.toCxE (blk_of rfl) (axi_str (ax_var 1)) (fun s0 H0 _ _ fp0 => axgc_name (i := 2) (CxE.blk C.toCxE s0 H0 _ _ fp0).nd) (fun s0 H0 _ _ fp0 => axts_nil) (fun s0 H0 _ _ fp0 => ax_cmp op_InSg (ax_var 2) (ax_gStr T.k_DIGITS)))) (axa_nil)))))))) (axb_one (axs_ret (ax_non))) (axb_nil))
    (axb_one (axs_ret (ax_if (axt_w (axw_and (axt_cmp (op_Eq C.toCxE) (ax_ix (op_IxA C.toCxE) (ax_var 1) (ax_int)) (ax_str)) (axw_and1 (axt_cmp (op_Ne C.toCxE) (ax_var 0) (ax_str))))) (ax_non) (ax_callTy cb_intS T.n_int rfl (axa_cons (ax_var 0) (axa_nil)))))))
theorem sc_divisor : FnScope ["numbers", "found", "number", "one", "other"] ["numbers"] (defScope s_divisor) := ⟨rfl, rfl, rfl, by decide +kernel, rfl, by decide +kernel, by decide +kernel⟩
theorem ok_divisor (T : Fcs P K mg) : FnOk P w K mg base (L2N.CX P w) 1 (He.ga K "divisor") (fdAt K (He.ga K "divisor")) ["numbers"] (SpA K m_divisor) :=
  fn_ok (k := 0) T.F_divisor sc_divisor leadsP fun cdv A outer s H E C =>
    axb_cons (axs_set (i := 1) C.nd (ax_int))
    (axb_cons (axs_for C (axi_seq (ax_var 0)) (axg_name (i := 2) C.toCxE.nd) (axb_cons (axs_par (i := 3) (j := 4) C.calm C.nd (axa_cons (ax_callB cb_abs T.n_abs rfl (axa_cons (ax_var 2) (axa_nil))) (axa_cons (ax_var 1) (axa_nil))))
    (axb_cons (axs_while C (axt_val (ax_var 4)) (axb_one (axs_par (i := 3) (j := 4) C.calm C.nd (axa_cons (ax_var 4) (axa_cons (ax_op op_Mod (ax_var 3) (ax_var 4)) (axa_nil))))))
    (axb_one (axs_set (i := 1) C.nd (ax_var 3))))))
    (axb_one (axs_ret (ax_var 1))))
theorem sc_ratio : FnScope ["top", "bottom", "part"] ["top", "bottom"] (defScope s_ratio) := ⟨rfl, rfl, rfl, by decide +kernel, rfl, by decide +kernel, by decide +kernel⟩
theorem ok_ratio (T : Fcs P K mg) : FnOk P w K mg base (L2N.CX P w) 3 (He.ga K "ratio") (fdAt K (He.ga K "ratio")) ["top", "bottom"] (SpA K m_ratio) :=
  fn_ok (k := 2) T.F_ratio sc_ratio leadsP fun cdv A outer s H E C =>
    axb_cons (axs_if (axt_cmp (op_Eq C.toCxE) (ax_var 1) (ax_int)) (axb_one (axs_raise1 (k := 1) (C.mono (by decide)) T.X_BadRatio.ox T.X_BadRatio.ini T.X_BadRatio.tyf (okx_BadRatio T) (bx_BadRatio T) T.g_BadRatio (ax_var 1))) (axb_nil))
    (axb_cons (axs_set (i := 2) C.nd (ax_call C.toCxE (ok_divisor T) T.g_divisor T.F_divisor.kp (b_divisor_0 T) (fun _ => .nil) (axa_cons (ax_lst (axa_cons (ax_var 0) (axa_cons (ax_var 1) (axa_nil)))) (axa_nil)) (by decide)))
    (axb_cons (axs_if (axt_cmp op_Lt (ax_var 1) (ax_int)) (axb_one (axs_set (i := 2) C.nd (ax_un op_Neg (ax_var 2)))) (axb_nil))
    (axb_one (axs_ret (ax_tup (axa_cons (ax_op op_Fdiv (ax_var 0) (ax_var 2)) (axa_cons (ax_op op_Fdiv (ax_var 1) (ax_var 2)) (axa_nil))))))))
theorem sc_read_ratio : FnScope ["text", "parts", "numbers", "found", "part"] ["text"] (defScope s_read_ratio) := ⟨rfl, rfl, rfl, by decide +kernel, rfl, by decide +kernel, by decide +kernel⟩
theorem ok_read_ratio (T : Fcs P K mg) : FnOk P w K mg base (L2N.CX P w) 4 (He.ga K "read_ratio") (fdAt K (He.ga K "read_ratio")) ["text"] (SpA K m_read_ratio) :=
  fn_ok (k := 3) T.F_read_ratio sc_read_ratio leadsP fun cdv A outer s H E C =>
    axb_cons (axs_if (axt_cmp op_Gt (ax_callB cb_len T.n_len rfl (axa_cons (ax_var 0) (axa_nil))) (ax_gInt T.k_LONGEST_TEXT)) (axb_one (axs_raise0 (k := 1) (C.mono (by decide)) T.X_BadText.ox T.X_BadText.ini T.X_BadText.tyf (okx_BadText T) (bx_BadText T) T.g_BadText)) (axb_nil))
    (axb_cons (axs_set (i := 1) C.nd (axf_e (axf_split (ax_var 0) (ax_str))))
    (axb_cons ((axs_setLc (i := 2) [("part", 4)] C.toCxE (blk_of rfl) (axi_seq (ax_var 1)) (fun s0 H0 _ _ fp0 => axgc_name (i := 4) (CxE.blk C.toCxE s0 H0 _ _ fp0).nd) (fun s0 H0 _ _ fp0 => axts_nil) (fun s0 H0 _ _ fp0 => ax_call (CxE.blk C.toCxE s0 H0 _ _ fp0) (ok_read_integer T) T.g_read_integer T.F_read_integer.kp (b_read_integer_0 T) (fun _ => .nil) (axa_cons (ax_var 4) (axa_nil)) (by decide))).1)
    (axb_cons (axs_if (axt_w (axw_or (axt_cmp op_Gt (ax_callB cb_len T.n_len rfl (axa_cons (ax_var 1) (axa_nil))) (ax_int)) (axw_or (axt_cmp (op_In C.toCxE) (ax_non) (ax_var 2)) (axw_or1 (axt_w (axw_and (axt_cmp (op_Eq C.toCxE) (ax_callB cb_len T.n_len rfl (axa_cons (ax_var 1) (axa_nil))) (ax_int)) (axw_and1 (axt_cmp op_Lt (ax_ix (op_IxA C.toCxE) (ax_var 2) (ax_int)) (ax_int))))))))) (axb_one (axs_raise0 (k := 1) (C.mono (by decide)) T.X_BadText.ox T.X_BadText.ini T.X_BadText.tyf (okx_BadText T) (bx_BadText T) T.g_BadText)) (axb_nil))
    (axb_cons (axs_set (i := 3) C.nd (ax_if (axt_cmp (op_Eq C.toCxE) (ax_callB cb_len T.n_len rfl (axa_cons (ax_var 1) (axa_nil))) (ax_int)) (ax_call C.toCxE (ok_ratio T) T.g_ratio T.F_ratio.kp (b_ratio_0 T) (fun _ => .nil) (axa_cons (ax_ix (op_IxA C.toCxE) (ax_var 2) (ax_int)) (axa_cons (ax_ix (op_IxA C.toCxE) (ax_var 2) (ax_un op_Neg (ax_int))) (axa_nil))) (by decide)) (ax_tup (axa_cons (ax_ix (op_IxA C.toCxE) (ax_var 2) (ax_int)) (axa_cons (ax_int) (axa_nil))))))
    (axb_cons (axs_if (axt_cmp (op_Ne C.toCxE) (ax_call C.toCxE (ok_ratio_text T) T.g_ratio_text T.F_ratio_text.kp (b_ratio_text_0 T) (fun _ => .nil) (axa_cons (ax_var 3) (axa_nil)) (by decide)) (ax_var 0)) (axb_one (axs_raise0 (k := 1) (C.mono (by decide)) T.X_BadText.ox T.X_BadText.ini T.X_BadText.tyf (okx_BadText T) (bx_BadText T) T.g_BadText)) (axb_nil))
    (axb_one (axs_ret (ax_var 3))))))))
theorem sc__law_read : FnScope ["_law_text"] ["_law_text"] (defScope s__law_read) := ⟨rfl, rfl, rfl, by decide +kernel, rfl, by decide +kernel, by decide +kernel⟩
theorem ok__law_read (T : Fcs P K mg) : FnOk P w K mg base (L2N.CX P w) 5 (He.ga K "_law_read") (fdAt K (He.ga K "_law_read")) ["_law_text"] (SpA K m__law_read) :=
  fn_ok (k := 4) T.F__law_read sc__law_read leadsP fun cdv A outer s H E C =>
    axb_one (axs_tryOnly C (fun _ _ _ C1 => axb_one (axs_retF (axf_lst (axa_cons (ax_call C1.toCxE (ok_read_ratio T) T.g_read_ratio T.F_read_ratio.kp (b_read_ratio_0 T) (fun _ => .nil) (axa_cons (ax_var 0) (axa_nil)) (by decide)) (axa_nil))))) (axh_cons T.g_BadText (xm_BadText_ok T) (fun a oe c d pn hz hf => axb_one (axs_ret (ax_lst (axa_nil)))) (axh_nil)))
theorem sc__law_spoiled : FnScope ["_law_pool_here", "_law_text", "_law_kind", "_law_at", "_law_sign", "_law_odd"] ["_law_pool_here", "_law_text"] (defScope s__law_spoiled) := ⟨rfl, rfl, rfl, by decide +kernel, rfl, by decide +kernel, by decide +kernel⟩
theorem ok__law_spoiled (T : Fcs P K mg) : FnOk P w K mg base (L2N.CX P w) 2 (He.ga K "_law_spoiled") (fdAt K (He.ga K "_law_spoiled")) ["_law_pool_here", "_law_text"] (SpA K m__law_spoiled) :=
  fn_ok (k := 1) T.F__law_spoiled sc__law_spoiled leadsP fun cdv A outer s H E C =>
    axb_cons (axs_set (i := 2) C.nd (ax_call C.toCxE (ok__law_take T) T.g__law_take T.F__law_take.kp (b__law_take_0 T) (fun _ => .nil) (axa_cons (ax_var 0) (axa_cons (ax_int) (axa_nil))) (by decide)))
    (axb_cons (axs_set (i := 3) C.nd (ax_call C.toCxE (ok__law_take T) T.g__law_take T.F__law_take.kp (b__law_take_0 T) (fun _ => .nil) (axa_cons (ax_var 0) (axa_cons (ax_op op_Add (ax_callB cb_len T.n_len rfl (axa_cons (ax_var 1) (axa_nil))) (ax_int)) (axa_nil))) (by decide)))
    (axb_cons (axs_set (i := 4) C.nd (ax_ix (op_IxA C.toCxE) (ax_str) (ax_call C.toCxE (ok__law_take T) T.g__law_take T.F__law_take.kp (b__law_take_0 T) (fun _ => .nil) (axa_cons (ax_var 0) (axa_cons (ax_int) (axa_nil))) (by decide))))
    (axb_cons (axs_if (axt_cmp (op_Eq C.toCxE) (ax_var 2) (ax_int)) (axb_one (axs_ret (ax_op op_Add (ax_op op_Add (ax_sl (ax_var 1) (axp_no) (axp_at (ax_var 3))) (ax_var 4)) (ax_sl (ax_var 1) (axp_at (ax_var 3)) (axp_no))))) (axb_nil))
    (axb_cons (axs_if (axt_cmp (op_Eq C.toCxE) (ax_var 2) (ax_int)) (axb_one (axs_ret (ax_op op_Add (ax_sl (ax_var 1) (axp_no) (axp_at (ax_var 3))) (ax_sl (ax_var 1) (axp_at (ax_op op_Add (ax_var 3) (ax_int))) (axp_no))))) (axb_nil))
    (axb_cons (axs_if (axt_cmp (op_Eq C.toCxE) (ax_var 2) (ax_int)) (axb_one (axs_ret (ax_op op_Add (ax_op op_Add (ax_sl (ax_var 1) (axp_no) (axp_at (ax_var 3))) (ax_var 4)) (ax_sl (ax_var 1) (axp_at (ax_op op_Add (ax_var 3) (ax_int))) (axp_no))))) (axb_nil))
    (axb_cons (axs_if (axt_cmp (op_Eq C.toCxE) (ax_var 2) (ax_int)) (axb_one (axs_ret (ax_op op_Add (ax_var 1) (ax_op op_MulS (ax_str) (ax_ix (op_IxA C.toCxE) (ax_lst (axa_cons (ax_call C.toCxE (ok__law_take T) T.g__law_take T.F__law_take.kp (b__law_take_0 T) (fun _ => .nil) (axa_cons (ax_var 0) (axa_cons (ax_int) (axa_nil))) (by decide)) (axa_cons (ax_int) (axa_nil)))) (ax_callTy cb_int T.n_int rfl (axa_cons (ax_cmp (op_Eq C.toCxE) (ax_var 3) (ax_int)) (axa_nil)))))))) (axb_nil))
    (axb_cons (axs_set (i := 5) C.nd (ax_lst (axa_cons (ax_str) (axa_cons (ax_str) (axa_cons (ax_str) (axa_cons (ax_str) (axa_cons (ax_str) (axa_cons (ax_str) (axa_cons (ax_str) (axa_cons (ax_str) (axa_cons (ax_str) (axa_cons (ax_str) (axa_cons (ax_str) (axa_cons (ax_str) (axa_cons (ax_str) (axa_cons (ax_str) (axa_cons (ax_str) (axa_cons (ax_str) (axa_cons (ax_str) (axa_nil))))))))))))))))))))
    (axb_cons (axs_set (i := 5) C.nd (ax_op op_Add (ax_var 5) (ax_lst (axa_cons (ax_op op_Add (ax_str) (ax_op op_MulS (ax_str) (ax_int))) (axa_cons (ax_op op_Add (ax_str) (ax_op op_MulS (ax_str) (ax_int))) (axa_nil))))))
    (axb_one (axs_ret (ax_ix (op_IxA C.toCxE) (ax_op op_Add (ax_var 5) (ax_lst (axa_cons (ax_var 1) (axa_cons (ax_op op_Add (ax_str) (ax_var 1)) (axa_cons (ax_op op_Add (ax_var 1) (ax_str)) (axa_cons (ax_op op_Add (ax_var 1) (ax_str)) (axa_cons (ax_op op_Add (ax_str) (ax_var 1)) (axa_nil)))))))) (ax_call C.toCxE (ok__law_take T) T.g__law_take T.F__law_take.kp (b__law_take_0 T) (fun _ => .nil) (axa_cons (ax_var 0) (axa_cons (ax_int) (axa_nil))) (by decide)))))))))))))
theorem sc__law_plain : FnScope ["_law_word", "_law_figures", "_law_sign"] ["_law_word"] (defScope s__law_plain) := ⟨rfl, rfl, rfl, by decide +kernel, rfl, by decide +kernel, by decide +kernel⟩
theorem ok__law_plain (T : Fcs P K mg) : FnOk P w K mg base (L2N.CX P w) 1 (He.ga K "_law_plain") (fdAt K (He.ga K "_law_plain")) ["_law_word"] (SpA K m__law_plain) :=
  fn_ok (k := 0) T.F__law_plain sc__law_plain leadsP fun cdv A outer s H E C =>
    axb_cons (axs_set (i := 1) C.nd (ax_var 0))
    (axb_cons (axs_if (axt_cmp (op_Eq C.toCxE) (ax_sl (ax_var 0) (axp_no) (axp_at (ax_int))) (ax_str)) (axb_one (axs_set (i := 1) C.nd (ax_sl (ax_var 0) (axp_at (ax_int)) (axp_no)))) (axb_nil))
    (axb_cons (axs_if (axt_w (axw_or (axt_cmp (op_Eq C.toCxE) (ax_var 1) (ax_str)) (axw_or1 (axt_not (axt_val (ax_callB (cb_all C.toCxE) T.n_all rfl (axa_cons (axf_e (axf_lc [("_law_sign", 2)] C.toCxE (blk_of rfl) (axi_str (ax_var 1)) (fun s0 H0 _ _ fp0 => axgc_name (i := 2) (CxE.blk C.toCxE s0 H0 _ _ fp0).nd) (fun s0 H0 _ _ fp0 => axts_nil) (fun s0 H0 _ _ fp0 => ax_cmp op_InSg (ax_var 2) (ax_str)))) (axa_nil)))))))) (axb_one (axs_ret (ax_bl))) (axb_nil))
    (axb_one (axs_ret (ax_or (ax_cmp (op_Eq C.toCxE) (ax_var 0) (ax_str)) (ax_one (ax_cmp (op_Ne C.toCxE) (ax_ix (op_IxA C.toCxE) (ax_var 1) (ax_int)) (ax_str))))))))
theorem sc__law_due : FnScope ["_law_text", "_law_parts", "_law_up", "_law_down", "_law_part"] ["_law_text"] (defScope s__law_due) := ⟨rfl, rfl, rfl, by decide +kernel, rfl, by decide +kernel, by decide +kernel⟩
theorem ok__law_due (T : Fcs P K mg) : FnOk P w K mg base (L2N.CX P w) 2 (He.ga K "_law_due") (fdAt K (He.ga K "_law_due")) ["_law_text"] (SpA K m__law_due) :=
  fn_ok (k := 1) T.F__law_due sc__law_due leadsP fun cdv A outer s H E C =>
    axb_cons (axs_set (i := 1) C.nd (axf_e (axf_split (ax_var 0) (ax_str))))
    (axb_cons (axs_if (axt_w (axw_or (axt_cmp op_Gt (ax_callB cb_len T.n_len rfl (axa_cons (ax_var 0) (axa_nil))) (ax_int)) (axw_or (axt_cmp op_Gt (ax_callB cb_len T.n_len rfl (axa_cons (ax_var 1) (axa_nil))) (ax_int)) (axw_or1 (axt_not (axt_val (ax_callB (cb_all C.toCxE) T.n_all rfl (axa_cons (axf_e (axf_lc [("_law_part", 4)] C.toCxE (blk_of rfl) (axi_seq (ax_var 1)) (fun s0 H0 _ _ fp0 => axgc_name (i := 4) (CxE.blk C.toCxE s0 H0 _ _ fp0).nd) (fun s0 H0 _ _ fp0 => axts_nil) (fun s0 H0 _ _ fp0 => ax_call (CxE.blk C.toCxE s0 H0 _ _ fp0) (ok__law_plain T) T.g__law_plain T.F__law_plain.kp (b__law_plain_0 T) (fun _ => .nil) (axa_cons (ax_var 4) (axa_nil)) (by decide)))) (axa_nil))))))))) (axb_one (axs_retF (axf_lst (axa_nil)))) (axb_nil))
    (axb_cons (axs_if (axt_cmp (op_Eq C.toCxE) (ax_callB cb_len T.n_len rfl (axa_cons (ax_var 1) (axa_nil))) (ax_int)) (axb_one (axs_retF (axf_lst (axa_cons (ax_tup (axa_cons (ax_callTy cb_intS T.n_int rfl (axa_cons (ax_var 0) (axa_nil))) (axa_cons (ax_int) (axa_nil)))) (axa_nil))))) (axb_nil))
    (axb_cons (axs_set (i := 2) C.nd (ax_callTy cb_intS T.n_int rfl (axa_cons (ax_ix (op_IxA C.toCxE) (ax_var 1) (ax_int)) (axa_nil))))
    (axb_cons (axs_set (i := 3) C.nd (ax_callTy cb_intS T.n_int rfl (axa_cons (ax_ix (op_IxA C.toCxE) (ax_var 1) (ax_int)) (axa_nil))))
    (axb_cons (axs_if (axt_w (axw_or (axt_cmp op_Lt (ax_var 3) (ax_int)) (axw_or1 (axt_cmp (op_Ne C.toCxE) (ax_call C.toCxE (ok__law_divisor T) T.g__law_divisor T.F__law_divisor.kp (b__law_divisor_0 T) (fun _ => .nil) (axa_cons (ax_lst (axa_cons (ax_var 2) (axa_cons (ax_var 3) (axa_nil)))) (axa_nil)) (by decide)) (ax_int))))) (axb_one (axs_retF (axf_lst (axa_nil)))) (axb_nil))
    (axb_one (axs_retF (axf_lst (axa_cons (ax_tup (axa_cons (ax_var 2) (axa_cons (ax_var 3) (axa_nil)))) (axa_nil))))))))))
theorem sc_law : FnScope ["_law_script", "_law_pool_here", "_law_size", "_law_up", "_law_one", "_law_due_here", "_law_text", "_law_k", "_law_says"] ["_law_script"] (defScope s_law) := ⟨rfl, rfl, rfl, by decide +kernel, rfl, by decide +kernel, by decide +kernel⟩
theorem ok_law (T : Fcs P K mg) (hm : ∀ (ns : List Int), ns.length ≤ 63 → a_law (.d (.scr ns) :: .d (.ref 0) :: List.replicate 7 .no) [.pool 0 ns] yes) : FnOk P w K mg base (L2N.CX P w) 6 (He.ga K "law") (fdAt K (He.ga K "law")) ["_law_script"] (spLaw K) :=
  law_fn (k := 5) T.F_law sc_law (fun cdv A outer s H E C => ⟨axs_cell (i := 1) C.nd (axf_call C.toCxE (ok__law_pool T) T.g__law_pool T.F__law_pool.kp (b__law_pool_0 T) (fun _ => .nil) (axa_cons (ax_var 0) (axa_nil)) (by decide)),
    axb_cons (axs_set (i := 2) C.nd (ax_ix (op_IxA C.toCxE) (ax_lst (axa_cons (ax_int) (axa_cons (ax_op op_Pow (ax_int) (ax_int)) (axa_nil)))) (ax_call C.toCxE (ok__law_take T) T.g__law_take T.F__law_take.kp (b__law_take_0 T) (fun _ => .nil) (axa_cons (ax_var 1) (axa_cons (ax_int) (axa_nil))) (by decide))))
    (axb_cons (axs_set (i := 3) C.nd (ax_op op_Sub (ax_call C.toCxE (ok__law_take T) T.g__law_take T.F__law_take.kp (b__law_take_0 T) (fun _ => .nil) (axa_cons (ax_var 1) (axa_cons (ax_op op_Add (ax_op op_Mul (ax_int) (ax_var 2)) (ax_int)) (axa_nil))) (by decide)) (ax_var 2)))
    (axb_cons (axs_set (i := 4) C.nd (ax_call C.toCxE (ok__law_ratio T) T.g__law_ratio T.F__law_ratio.kp (b__law_ratio_0 T) (fun _ => .nil) (axa_cons (ax_var 3) (axa_cons (ax_op op_Add (ax_int) (ax_call C.toCxE (ok__law_take T) T.g__law_take T.F__law_take.kp (b__law_take_0 T) (fun _ => .nil) (axa_cons (ax_var 1) (axa_cons (ax_ix (op_IxA C.toCxE) (ax_lst (axa_cons (ax_int) (axa_cons (ax_op op_Pow (ax_int) (ax_int)) (axa_nil)))) (ax_call C.toCxE (ok__law_take T) T.g__law_take T.F__law_take.kp (b__law_take_0 T) (fun _ => .nil) (axa_cons (ax_var 1) (axa_cons (ax_int) (axa_nil))) (by decide))) (axa_nil))) (by decide))) (axa_nil))) (by decide)))
    (axb_cons (axs_set (i := 5) C.nd (ax_callTy cb_str T.n_str rfl (axa_cons (ax_ix (op_IxA C.toCxE) (ax_var 4) (ax_int)) (axa_nil))))
    (axb_cons (axs_if (axt_cmp (op_Ne C.toCxE) (ax_ix (op_IxA C.toCxE) (ax_var 4) (ax_int)) (ax_int)) (axb_one (axs_set (i := 5) C.nd (ax_op op_Add (ax_op op_Add (ax_var 5) (ax_str)) (ax_callTy cb_str T.n_str rfl (axa_cons (ax_ix (op_IxA C.toCxE) (ax_var 4) (ax_int)) (axa_nil)))))) (axb_nil))
    (axb_cons (axs_if (axt_w (axw_or (axt_cmp (op_Ne C.toCxE) (ax_call C.toCxE (ok_ratio_text T) T.g_ratio_text T.F_ratio_text.kp (b_ratio_text_0 T) (fun _ => .nil) (axa_cons (ax_var 4) (axa_nil)) (by decide)) (ax_var 5)) (axw_or1 (axt_cmp (op_Ne C.toCxE) (ax_call C.toCxE (ok__law_read T) T.g__law_read T.F__law_read.kp (b__law_read_0 T) (fun _ => .nil) (axa_cons (ax_var 5) (axa_nil)) (by decide)) (ax_lst (axa_cons (ax_var 4) (axa_nil))))))) (axb_one (axs_ret (ax_bl))) (axb_nil))
    (axb_cons (axs_set (i := 6) C.nd (ax_var 5))
    (axb_cons (axs_for C (axi_rng1 T.n_range (ax_call C.toCxE (ok__law_take T) T.g__law_take T.F__law_take.kp (b__law_take_0 T) (fun _ => .nil) (axa_cons (ax_var 1) (axa_cons (ax_int) (axa_nil))) (by decide))) (axg_name (i := 7) C.toCxE.nd) (axb_one (axs_set (i := 6) C.nd (ax_call C.toCxE (ok__law_spoiled T) T.g__law_spoiled T.F__law_spoiled.kp (b__law_spoiled_0 T) (fun _ => .nil) (axa_cons (ax_var 1) (axa_cons (ax_var 6) (axa_nil))) (by decide)))))
    (axb_cons (axs_set (i := 8) C.nd (ax_call C.toCxE (ok__law_read T) T.g__law_read T.F__law_read.kp (b__law_read_0 T) (fun _ => .nil) (axa_cons (ax_var 6) (axa_nil)) (by decide)))
    (axb_one (axs_ret (ax_and (ax_cmp (op_Eq C.toCxE) (ax_var 8) (ax_call C.toCxE (ok__law_due T) T.g__law_due T.F__law_due.kp (b__law_due_0 T) (fun _ => .nil) (axa_cons (ax_var 6) (axa_nil)) (by decide))) (ax_one (ax_or (ax_cmp (op_Eq C.toCxE) (ax_var 8) (ax_lst (axa_nil))) (ax_one (ax_cmp (op_Eq C.toCxE) (ax_call C.toCxE (ok_ratio_text T) T.g_ratio_text T.F_ratio_text.kp (b_ratio_text_0 T) (fun _ => .nil) (axa_cons (ax_ix (op_IxA C.toCxE) (ax_var 8) (ax_int)) (axa_nil)) (by decide)) (ax_var 6))))))))))))))))⟩) hm
end
end LW
set_option Elab.async false
set_option linter.all false
set_option maxRecDepth 100000
set_option maxHeartbeats 0
namespace LW
open PySem PySem.Spec PyProof.Rows L2 AM
theorem facts {K : PySem.W.Frag} {h : Heap} {mg : Str → Option Value} (X : K.In h) (G : h.Ns mainGlobals mg) (c : SaysX faL fnL exL xsL K) : Fcs PySem.Challenge.pw_everyhint_k12_texts_of_ratios K mg where
  g__law_pool := He.glo_ok X G (c.d.fact 0 (f := .glo "_law_pool") rfl)
  F__law_pool := fdAt_of (c.d.def_ 0 (d := d0) rfl).choose_spec
  g__law_take := He.glo_ok X G (c.d.fact 1 (f := .glo "_law_take") rfl)
  F__law_take := fdAt_of (c.d.def_ 1 (d := d1) rfl).choose_spec
  g__law_divisor := He.glo_ok X G (c.d.fact 2 (f := .glo "_law_divisor") rfl)
  F__law_divisor := fdAt_of (c.d.def_ 2 (d := d2) rfl).choose_spec
  g__law_ratio := He.glo_ok X G (c.d.fact 3 (f := .glo "_law_ratio") rfl)
  F__law_ratio := fdAt_of (c.d.def_ 3 (d := d3) rfl).choose_spec
  g_ratio_text := He.glo_ok X G (c.d.fact 4 (f := .glo "ratio_text") rfl)
  F_ratio_text := fdAt_of (c.d.def_ 4 (d := d4) rfl).choose_spec
  g_read_integer := He.glo_ok X G (c.d.fact 5 (f := .glo "read_integer") rfl)
  F_read_integer := fdAt_of (c.d.def_ 5 (d := d5) rfl).choose_spec
  g_divisor := He.glo_ok X G (c.d.fact 6 (f := .glo "divisor") rfl)
  F_divisor := fdAt_of (c.d.def_ 6 (d := d6) rfl).choose_spec
  g_ratio := He.glo_ok X G (c.d.fact 7 (f := .glo "ratio") rfl)
  F_ratio := fdAt_of (c.d.def_ 7 (d := d7) rfl).choose_spec
  g_read_ratio := He.glo_ok X G (c.d.fact 8 (f := .glo "read_ratio") rfl)
  F_read_ratio := fdAt_of (c.d.def_ 8 (d := d8) rfl).choose_spec
  g__law_read := He.glo_ok X G (c.d.fact 9 (f := .glo "_law_read") rfl)
  F__law_read := fdAt_of (c.d.def_ 9 (d := d9) rfl).choose_spec
  g__law_spoiled := He.glo_ok X G (c.d.fact 10 (f := .glo "_law_spoiled") rfl)
  F__law_spoiled := fdAt_of (c.d.def_ 10 (d := d10) rfl).choose_spec
  g__law_plain := He.glo_ok X G (c.d.fact 11 (f := .glo "_law_plain") rfl)
  F__law_plain := fdAt_of (c.d.def_ 11 (d := d11) rfl).choose_spec
  g__law_due := He.glo_ok X G (c.d.fact 12 (f := .glo "_law_due") rfl)
  F__law_due := fdAt_of (c.d.def_ 12 (d := d12) rfl).choose_spec
  g_law := He.glo_ok X G (c.d.fact 13 (f := .glo "law") rfl)
  F_law := fdAt_of (c.d.def_ 13 (d := d13) rfl).choose_spec
  n_list := He.free_ok X G (c.d.fact 14 (f := .free "list") rfl)
  n_int := He.free_ok X G (c.d.fact 15 (f := .free "int") rfl)
  n_len := He.free_ok X G (c.d.fact 16 (f := .free "len") rfl)
  n_max := He.free_ok X G (c.d.fact 17 (f := .free "max") rfl)
  n_abs := He.free_ok X G (c.d.fact 18 (f := .free "abs") rfl)
  n_str := He.free_ok X G (c.d.fact 19 (f := .free "str") rfl)
  k_DIGITS := He.str_ok X G (c.d.fact 20 (f := .str "DIGITS" "0123456789") rfl)
  n_all := He.free_ok X G (c.d.fact 21 (f := .free "all") rfl)
  g_BadRatio := He.glo_ok X G (c.d.fact 22 (f := .glo "BadRatio") rfl)
  X_BadRatio := xcB_ok (d := x_BadRatio) (c.e 0 rfl) (c.x 0 rfl) (He.free_ok X G (c.d.fact 23 (f := .free "super") rfl)) (by rfl)
  NX_BadRatio := He.eqO_ok (c.d.fact 24 (f := .noat "BadRatio" "bottom") rfl)
  g_BadText := He.glo_ok X G (c.d.fact 25 (f := .glo "BadText") rfl)
  X_BadText := xcB_ok (d := x_BadText) (c.e 1 rfl) (c.x 1 rfl) (He.free_ok X G (c.d.fact 23 (f := .free "super") rfl)) (by rfl)
  k_LONGEST_TEXT := He.int_ok X G (c.d.fact 26 (f := .int "LONGEST_TEXT" 60) rfl)
  M_BadRatio_BadText := of_decide_eq_true (c.d.fact 27 (f := .exm "BadRatio" "BadText" false) rfl)
  M_BadText_BadText := of_decide_eq_true (c.d.fact 28 (f := .exm "BadText" "BadText" true) rfl)
  n_range := He.free_ok X G (c.d.fact 29 (f := .free "range") rfl)
end LW
open PySem PySem.W PySem.Calls PyProof.Rows
theorem PySem.Challenge.cw_everyhint_k12_texts_of_ratios_holds : PySem.Challenge.rw_everyhint_k12_texts_of_ratios.Holds := by
  w_on; o_law
  refine HandSHeadRun.head_any (r := OpenLaw.row PySem.Challenge.rw_everyhint_k12_texts_of_ratios) (q := view (OpenLaw.row PySem.Challenge.rw_everyhint_k12_texts_of_ratios).prog [21]) (H := LW.hk) (ob := LW.ob) (M := 20000) (loose := LW.loose) (d := HandSHeadRun.topDef (OpenLaw.row PySem.Challenge.rw_everyhint_k12_texts_of_ratios).prog 21) (kwd := []) LW.ob_eq
    (by kernel_rfl) (fun s => by kernel_rfl) LW.run (by kernel_rfl) (by kernel_rfl) (by kernel_rfl) (by rfl) (by first | assumption | decide +kernel) (by decide +kernel) ⟨rfl, rfl, rfl, rfl, rfl, by decide +kernel⟩ ?hw ?hc
  case hw => w_witness2
  case hc =>
    refine L2.walk_ofE (l := PySem.Challenge.rw_everyhint_k12_texts_of_ratios) (n := 63) (k := 6) (x := "_law_script") (CX := L2.CX0) rfl (by decide) (by kernel_rfl) ⟨rfl, by decide, by decide⟩ ?F (fun _ _ _ _ z => z)
    intro w mg fa h Y G hmg0
    obtain ⟨K, KX, c⟩ := Y
    have T := LW.facts KX G c
    have hmg : mg ("law" : PySem.Str) = some (.ref fa) := by
      have e : (HandSHeadRun.topDef (OpenLaw.row PySem.Challenge.rw_everyhint_k12_texts_of_ratios).prog 21).name = ("law" : PySem.Str) := by kernel_rfl
      rw [← e]
      exact hmg0
    have e := hmg.symm.trans T.g_law
    cases e
    have b := L2.FunD.bindsA (ps := ["_law_script"]) T.F_law fun _ _ _ _ _ _ us hl => match us, hl with | [_], _ => rfl
    exact ⟨K, AM.fdAt K (He.ga K "law"), AM.spLaw K, KX, fun s v => b s [v] rfl, fun H a ns hl _ hS => ⟨a, ns, rfl, hS, hl, fun _ => rfl⟩, fun base _ _ => AM.law_CX0 (LW.ok_law T LW.law_true)⟩
