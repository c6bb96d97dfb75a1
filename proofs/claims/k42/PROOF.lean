import PyProof.Rows.All
import HandS.Words
import HandS.Head0
import HandS.Head1
import HandS.Head2
import HandS.HeadHook1
import KE.KExcInit
import KE.KExcIs
import KE.KExcMake
import Wide.All
import OpenK.AllK
import Wide.FinOn
import HandS.ForMost
import HandS.ForExc
import HandS.IsInst
import HandS.Deep
import HandS.Conv
import HandS.Zip
import HandS.Evl
import HandS.Walk
import HandS.Flow
import HandS.SetBool
import HandS.ExcInit
import HandS.Lambda
import PyProof.DictIter
import HandS.TupAny
import HandS.TupMul
import HandS.TupLe
import HandS.Text
import KE.GoesEnum
import HandS.Iter
import HandS.More
import HandS.NoneIn
import HandS.Dict
import PyProof.SumWalkG
import PyProof.WalksMore
import HandS.Defaults
import HandS.Style
import KE.KDictZip
import KE.GoesZip
import KE.GoesMore
import HandS.SetFor
import PyProof.EqKinds
import HandS.Strs
import HandS.ListItems
import HandS.OwnEq
import HandS.Property
import KE.KCallOwn
import HandS.MakeKwOnly
import HandS.FStr
import HandS.RaiseMore
import KE.SortData
import HandS.SortInts
import HandS.DictComp
import HandS.Star
import HandS.ExcField
import HandS.ExcIs
import PyProof.ExcBaseAll.ArithmeticError
import HandS.HotCalls
import HandS.ExcOwn
import HandS.ExcValue
import PyProof.InstEq
import PyProof.ReprNest
import PyProof.ReprRoads
import KE.KDictOf
import HandS.TryMany
import KE.GoesComp
import HandS.ReplaceLit
import HandS.Nested
import PySem.Challenge.RW_basetrees_k42_shelves_refused
set_option Elab.async false
set_option linter.all false
set_option maxRecDepth 100000
set_option maxHeartbeats 2000000
namespace Dn
open PySem PySem.Spec PyProof.Rows L2 He HandSHeadRun
abbrev veTail : List Value := [.type "ValueError", .type "Exception", .type "BaseException", .type "object"]
abbrev aeTail : List Value := [.type "ArithmeticError", .type "Exception", .type "BaseException", .type "object"]
/-- as one look: over ValueError, over ArithmeticError -/
def oexB (K : PySem.W.Frag) (tl : List Value) (n : String) (C : Addr) : Bool := PySem.W.excInitIn K C tl n && (PySem.W.excOver K C tl && PySem.W.hasDictIn K C)
def oexG (K : PySem.W.Frag) (tl : List Value) (n : String) (C : Addr) : Bool := oexB K tl n C && (decide (PySem.W.findIn K (.ref C) "__setattr__" = some (some (.builtin "object.__setattr__"))) && PySem.W.keepIn K (.ref C))
def ex0B (K : PySem.W.Frag) (tl : List Value) (n i : String) (C : Addr) : Bool := oexB K tl n C && (decide (PySem.W.findIn K (.ref C) "__init__" = some (some (.builtin i))) && PySem.W.keepIn K (.ref C))
def clsB (K : PySem.W.Frag) (fs : List Str) (D : Addr) : Bool :=
  decide (PySem.W.findIn K (.ref D) "__getattribute__" = some (some (.builtin "BaseException.__getattribute__"))) && (decide (PySem.W.findIn K (.ref D) "__getattr__" = some none) && (decide (PySem.W.subIn K (.ref D) (.type "BaseException") = some true) && (PySem.W.hasDictIn K D &&
    (decide (PySem.W.findIn K (.ref D) "__class__" = some (some (.builtin "object.__class__"))) && (decide (PySem.W.mroIn K D (.type "object") = some true) && fs.all fun f => decide (PySem.W.findIn K (.ref D) f = some none))))))
def noList (K : PySem.W.Frag) : Bool := K.all fun p => match p.2.cls with
  | .type c => !(c == "list")
  | _ => true
abbrev FnW : Type := Option (Str × Str × Arguments × FuncBody × Scope × Addr × List (Str × Addr) × Addr)
def fnW (K : PySem.W.Frag) (f : Addr) : FnW := match K.lookup f with
  | some ⟨_, _, .func fd, _⟩ => some (fd.name, fd.qualname, fd.params, fd.body, fd.scope, fd.globals, fd.closure, fd.builtins)
  | _ => none
def dfV (K : PySem.W.Frag) (f : Addr) : Value := match K.lookup f with
  | some ⟨_, _, .func fd, _⟩ => fd.defaults
  | _ => .none
def cdV (K : PySem.W.Frag) (f : Addr) : Value := match K.lookup f with
  | some ⟨_, _, .func fd, _⟩ => fd.code
  | _ => .none
def fnE (x qual : Str) (st : Stmt) : FnW := some (x, qual, defArgs st, .stmts (defBody st), defScope st, mainGlobals, [], builtinsNs)
def eqVal (a b : Value) : Bool := decide (a = b)
def ccA (K : PySem.W.Frag) (f : Addr) : Addr := match cdV K f with
  | .ref c => c
  | _ => 0
def tbA (K : PySem.W.Frag) (c : Addr) : Addr := match K.lookup c with
  | some ⟨_, _, .fields vs, _⟩ => (match (vs[11]? : Option Value) with
    | some (Value.ref p) => p
    | _ => 0)
  | _ => 0
/-- the code object of a def with a lambda, its table -/
def lamB (K : PySem.W.Frag) (f c p : Addr) : Bool := eqVal (cdV K f) (.ref c) && (match K.lookup c with
  | some ⟨_, _, .fields vs, _⟩ => (match vs[11]? with
    | some v => eqVal v (.ref p)
    | _ => false)
  | _ => false) && (K.lookup p).isNone
def prA (K : PySem.W.Frag) (p : Addr) : Addr := match PySem.W.recIn K p "property" with
  | some (.ref f :: _) => f
  | _ => 0
def prB (K : PySem.W.Frag) (p f : Addr) : Bool := match PySem.W.recIn K p "property" with
  | some (v :: _) => eqVal v (.ref f)
  | _ => false
def intB (K : PySem.W.Frag) (x : Str) (i : Int) : Bool := match PySem.W.nsIn K mainGlobals x with
  | some (some (.int j _)) => decide (j = i)
  | _ => false
def strB (K : PySem.W.Frag) (x z : Str) : Bool := match PySem.W.nsIn K mainGlobals x with
  | some (some (.str y _)) => decide (y = z)
  | _ => false
/-- what is looked at: all that stands, but empty tables, lists, cells -/
def keepO (o : Obj) : Bool := match o.data with
  | .fields vs => !vs.isEmpty
  | .cell _ => false
  | .freed => false
  | .seq _ _ => (match o.cls with
    | .type c => !(c == "list")
    | _ => true)
  | _ => true
def atO (g : Addr → Option Obj) (a : Addr) : Option (Addr × Obj) := match g a with
  | some o => (match keepO o with
    | true => some (a, o)
    | false => none)
  | none => none
/-- down from m, in front of what is there -/
def fromG (g : Addr → Option Obj) : Nat → PySem.W.Frag → PySem.W.Frag
  | 0, r => r
  | m + 1, r => match atO g m with
    | some p => fromG g m (p :: r)
    | none => fromG g m r
def KG (g : Addr → Option Obj) (m : Nat) : PySem.W.Frag := fromG g m []
theorem look_mem {K : PySem.W.Frag} {a : Addr} {o : Obj} (h : K.lookup a = some o) : (a, o) ∈ K := by
  induction K with
  | nil => cases h
  | cons p K ih =>
    obtain ⟨b, q⟩ := p
    rw [List.lookup_cons] at h
    split at h
    · rename_i e
      cases h
      have : a = b := by simpa using e
      subst this
      exact List.mem_cons_self ..
    · exact List.mem_cons_of_mem _ (ih h)
theorem atO_some {g : Addr → Option Obj} {a : Addr} {p : Addr × Obj} (h : atO g a = some p) : p.1 = a ∧ g a = some p.2 := by
  unfold atO at h
  split at h
  · rename_i o e
    split at h
    · cases h
      exact ⟨rfl, e⟩
    · cases h
  · cases h
theorem fromG_mem {g : Addr → Option Obj} {a : Addr} {o : Obj} : ∀ {m : Nat} {r : PySem.W.Frag}, (a, o) ∈ fromG g m r → (a, o) ∈ r ∨ g a = some o
  | 0, r, h => .inl h
  | m + 1, r, h => by
    have h1 : (a, o) ∈ (match atO g m with
      | some p => fromG g m (p :: r)
      | none => fromG g m r) := h
    cases q : atO g m with
    | none => rw [q] at h1; exact fromG_mem h1
    | some p =>
      rw [q] at h1
      rcases fromG_mem h1 with z | z
      · rcases List.mem_cons.mp z with z | z
        · subst z
          obtain ⟨z1, z2⟩ := atO_some q
          have z1 : a = m := z1
          subst z1
          exact .inr z2
        · exact .inl z
      · exact .inr z
theorem KG_in {h : Heap} {m : Nat} : (KG h.get? m).In h := fun a o e => by
  rcases fromG_mem (look_mem e) with z | z
  · cases z
  · exact z
/-- with the entries looked at first -/
def frK {β : Type} : PySem.W.Frag → (PySem.W.Frag → β) → β
  | [], k => k []
  | (a, ⟨c, d, dt, sl⟩) :: r, k => frNat a fun a => frK r fun r => k ((a, ⟨c, d, dt, sl⟩) :: r)
theorem frK_eq {β : Type} : ∀ (K : PySem.W.Frag) (k : PySem.W.Frag → β), frK K k = k K
  | [], _ => rfl
  | (a, ⟨c, d, dt, sl⟩) :: r, k => by
    show frNat a (fun a => frK r fun r => k ((a, ⟨c, d, dt, sl⟩) :: r)) = _
    rw [frNat_eq, frK_eq r]
abbrev AlU : Type := Bool × List FnW
def hookU (obs : PySem.W.Frag → AlU) (val : AlU) : PySem.W.Hook where
  α := AlU
  obs := fun s => frK (KG s.heap.get? s.heap.objs.size) obs
  val := fun _ => val
  says := fun _ h => ∃ K : PySem.W.Frag, K.In h ∧ obs K = val
  of := fun _ s e => ⟨KG s.heap.get? s.heap.objs.size, KG_in, by rw [frK_eq] at e; exact e⟩
  keeps := fun _ _ _ ⟨K, hK, c⟩ k => ⟨K, PySem.W.Frag.In.keeps hK k, c⟩
def obU (obs : PySem.W.Frag → AlU) (s : PySem.W.SharedT) : AlU := frK (KG (getT s) s.n) obs
theorem obU_eq {obs : PySem.W.Frag → AlU} {val : AlU} (s : PySem.W.SharedT) : obU obs s = (hookU obs val).obs s.abs := by
  have e : getT s = s.abs.heap.get? := funext fun a => getT_eq s a
  have en : s.abs.heap.objs.size = s.n := PySem.W.absHeap_size s.tree s.n s.life
  unfold obU
  rw [e, ← en]
  rfl
/-- three looks at one run -/
theorem map3 {S α β γ : Type} {X : Option S} {f : S → α} {g : S → β} {h : S → γ} {a : α} {b : β} {c : γ} (h1 : X.map f = some a) (h2 : X.map g = some b) (h3 : X.map h = some c) : X.map (fun s => (f s, g s, h s)) = some (a, b, c) := by
  cases X with
  | none => cases h1
  | some s =>
    have e1 : f s = a := Option.some.inj h1
    have e2 : g s = b := Option.some.inj h2
    have e3 : h s = c := Option.some.inj h3
    subst e1 e2 e3
    rfl
noncomputable abbrev endO (r : PySem.W.OpenRow) (M : Nat) (w : World) (os : OsState) : Option PySem.W.SharedT := endF (stepQ (denQ tabQ) r.prog w) M r.prog w os
theorem run3 {r : PySem.W.OpenRow} {q : Program} {H : PySem.W.Hook} {ob : PySem.W.SharedT → H.α} {M : Nat} {loose : List Str} {w : World}
    (h1 : ∀ os : OsState, (endO r M w os).map (fun s => looksF r.prog (PySem.W.boot_heap w.params) s.abs) = some true)
    (h2 : ∀ os : OsState, (endO r M w os).map (fun s => seenQ q loose (importedModules r.prog.main.body) (fun s => PySem.W.xlAt q [] s && PySem.W.recOk r.toRowW.records s) s.abs) = some (PySem.W.openGood q loose))
    (h3 : ∀ os : OsState, (endO r M w os).map ob = some (H.val w)) : RunEq r q H ob M loose w := fun os => map3 (h1 os) (h2 os) (h3 os)
def ckDef (K : PySem.W.Frag) (f : Addr) (qual : Str) : Bool := eqVal (dfV K f) .none && (PySem.W.codeIn K (cdV K f) qual && PySem.W.keepIn K (.ref f))
/-- a list of addresses, looked at first -/
def frNs {β : Type} : List Nat → (List Nat → β) → β
  | [], k => k []
  | x :: r, k => frNat x fun x => frNs r fun r => k (x :: r)
theorem frNs_eq {β : Type} : ∀ (l : List Nat) (k : List Nat → β), frNs l k = k l
  | [], _ => rfl
  | x :: r, k => by
    show frNat x (fun x => frNs r fun r => k (x :: r)) = _
    rw [frNat_eq, frNs_eq r]
def obsN (adrs : PySem.W.Frag → List Nat) (facts : PySem.W.Frag → List Nat → Bool) (fns : List Nat → List Nat) (K : PySem.W.Frag) : AlU := frNs (adrs K) fun A => (facts K A, (fns A).map (fnW K))
theorem obsN_eq {adrs : PySem.W.Frag → List Nat} {facts : PySem.W.Frag → List Nat → Bool} {fns : List Nat → List Nat} {K : PySem.W.Frag} {val : List FnW} (h : obsN adrs facts fns K = (true, val)) : facts K (adrs K) = true ∧ (fns (adrs K)).map (fnW K) = val := by
  unfold obsN at h
  rw [frNs_eq] at h
  exact Prod.mk.inj h
def obs1 {β : Type} (adrs : PySem.W.Frag → List Nat) (f : PySem.W.Frag → List Nat → β) (s : PySem.W.SharedT) : β := frK (KG (getT s) s.n) fun K => frNs (adrs K) fun A => f K A
theorem obs1_eq {β : Type} {adrs : PySem.W.Frag → List Nat} {f : PySem.W.Frag → List Nat → β} (s : PySem.W.SharedT) : obs1 adrs f s = f (KG (getT s) s.n) (adrs (KG (getT s) s.n)) := by
  unfold obs1
  rw [frK_eq, frNs_eq]
theorem two_looks {X : Option PySem.W.SharedT} {adrs : PySem.W.Frag → List Nat} {f g : PySem.W.Frag → List Nat → Bool} (h1 : X.map (obs1 adrs f) = some true) (h2 : X.map (obs1 adrs g) = some true) : X.map (obs1 adrs fun K A => f K A && g K A) = some true := by
  cases X with
  | none => cases h1
  | some s =>
    have e1 : obs1 adrs f s = true := Option.some.inj h1
    have e2 : obs1 adrs g s = true := Option.some.inj h2
    rw [obs1_eq] at e1 e2
    refine congrArg some ?_
    rw [obs1_eq]
    show (_ && _) = true
    rw [e1, e2]
    rfl
theorem look_all {X : Option PySem.W.SharedT} {adrs : PySem.W.Frag → List Nat} {f : PySem.W.Frag → List Nat → Bool} {fns : List Nat → List Nat} {val : List FnW} (h1 : X.map (obs1 adrs f) = some true) (h2 : X.map (obs1 adrs fun K A => (fns A).map (fnW K)) = some val) :
    X.map (obU (obsN adrs f fns)) = some (true, val) := by
  cases X with
  | none => cases h1
  | some s =>
    have e1 : obs1 adrs f s = true := Option.some.inj h1
    have e2 : obs1 adrs (fun K A => (fns A).map (fnW K)) s = val := Option.some.inj h2
    rw [obs1_eq] at e1 e2
    refine congrArg some ?_
    unfold obU
    rw [frK_eq]
    unfold obsN
    rw [frNs_eq, e1, e2]
end Dn
set_option Elab.async false
set_option linter.all false
set_option maxRecDepth 100000
set_option maxHeartbeats 4000000
namespace K42
open PySem L2
def top (i : Nat) : Stmt := PySem.Challenge.pw_basetrees_k42_shelves_refused.main.body.getD i (.Pass ⟨0, 0, 0, 0⟩)
abbrev s_law_told : Stmt := top 45
abbrev s_InvalidName___init__ : Stmt := inClass (top 6) 0
abbrev s_UnknownName___init__ : Stmt := inClass (top 10) 0
abbrev s_InvalidSources___init__ : Stmt := inClass (top 13) 0
abbrev s_TooMany___init__ : Stmt := inClass (top 19) 0
abbrev s_FullSource___init__ : Stmt := inClass (top 20) 0
abbrev s_is_name : Stmt := top 26
abbrev s_are_beside : Stmt := top 29
abbrev s_walk_from : Stmt := top 30
abbrev s_is_closed : Stmt := top 31
abbrev s_row_of : Stmt := top 32
abbrev s_rows_in : Stmt := top 33
abbrev s_are_sources : Stmt := top 35
abbrev s_web_in : Stmt := top 36
abbrev s_Web___init__ : Stmt := inClass (top 38) 0
abbrev s_web_text : Stmt := top 37
abbrev s_check_copy : Stmt := top 39
abbrev s_Web_text : Stmt := inClass (top 38) 1
abbrev s_Web_names : Stmt := inClass (top 38) 2
abbrev s_Web_lines : Stmt := inClass (top 38) 3
abbrev s_Web_ends : Stmt := inClass (top 38) 4
abbrev s_Web_sources : Stmt := inClass (top 38) 5
abbrev s_Web_copies : Stmt := inClass (top 38) 6
abbrev s_Web_with_copy : Stmt := inClass (top 38) 7
abbrev s_Web_without : Stmt := inClass (top 38) 8
abbrev s_Web___str__ : Stmt := inClass (top 38) 9
abbrev s_Web___repr__ : Stmt := inClass (top 38) 10
abbrev s_Web___eq__ : Stmt := inClass (top 38) 11
abbrev s_Shelf___init__ : Stmt := inClass (top 41) 0
abbrev s_Shelf_web : Stmt := inClass (top 41) 1
abbrev s_Shelf_changes : Stmt := inClass (top 41) 2
abbrev s_Shelf___bool__ : Stmt := inClass (top 41) 3
abbrev s_Shelf_become : Stmt := inClass (top 41) 4
abbrev s_Shelf_put : Stmt := inClass (top 41) 5
abbrev s_Shelf_take : Stmt := inClass (top 41) 6
abbrev s_Shelf_undo : Stmt := inClass (top 41) 7
abbrev s_law_purse : Stmt := top 43
abbrev s_law_draw : Stmt := top 44
abbrev s_law_sort : Stmt := top 46
abbrev s_law_attribute : Stmt := top 47
abbrev s_law_shot : Stmt := top 48
abbrev s_law_right : Stmt := top 49
abbrev s_law : Stmt := top 50
def okX : Nat → Bool := fun C => decide (1 ≤ C ∧ C < 21)
def tabX_Broken : Nat → Bool := fun C => [18].contains C
def tabX_FullSource : Nat → Bool := fun C => [17].contains C
def tabX_InUse : Nat → Bool := fun C => [19].contains C
def tabX_InvalidChoice : Nat → Bool := fun C => [6].contains C
def tabX_InvalidClaim : Nat → Bool := fun C => [5].contains C
def tabX_InvalidFreed : Nat → Bool := fun C => [14].contains C
def tabX_InvalidIndex : Nat → Bool := fun C => [4].contains C
def tabX_InvalidName : Nat → Bool := fun C => [3].contains C
def tabX_InvalidNumber : Nat → Bool := fun C => [2].contains C
def tabX_InvalidOffers : Nat → Bool := fun C => [13].contains C
def tabX_InvalidSources : Nat → Bool := fun C => [10].contains C
def tabX_InvalidText : Nat → Bool := fun C => [1].contains C
def tabX_InvalidTold : Nat → Bool := fun C => [11].contains C
def tabX_InvalidWeights : Nat → Bool := fun C => [12].contains C
def tabX_NoAnswer : Nat → Bool := fun C => [15, 16, 17, 18, 19, 20].contains C
def tabX_NoChoice : Nat → Bool := fun C => [15].contains C
def tabX_NotAShelf : Nat → Bool := fun C => [9].contains C
def tabX_NotAWeb : Nat → Bool := fun C => [8].contains C
def tabX_NothingToUndo : Nat → Bool := fun C => [20].contains C
def tabX_TooMany : Nat → Bool := fun C => [16].contains C
def tabX_UnknownName : Nat → Bool := fun C => [7].contains C
def tabX_WrongValue : Nat → Bool := fun C => [1, 2, 3, 4, 5, 6, 7, 8, 9, 10, 11, 12, 13, 14].contains C
end K42
set_option Elab.async false
set_option linter.all false
set_option maxRecDepth 100000
set_option maxHeartbeats 4000000
namespace K42
open PySem L2 Dn
def adrs (K : PySem.W.Frag) : List Nat := [He.ga K "Web", He.ga K "InvalidText", He.ga K "InvalidNumber", He.ga K "InvalidName", He.ga K "InvalidIndex", He.ga K "InvalidClaim", He.ga K "InvalidChoice", He.ga K "UnknownName", He.ga K "NotAWeb", He.ga K "NotAShelf", He.ga K "InvalidSources", He.ga K "InvalidTold", He.ga K "InvalidWeights", He.ga K "InvalidOffers", He.ga K "InvalidFreed", He.ga K "NoChoice", He.ga K "TooMany", He.ga K "FullSource", He.ga K "Broken", He.ga K "InUse", He.ga K "NothingToUndo", He.ga K "WrongValue", He.ga K "NoAnswer", He.ga K "Shelf", He.ga K "is_name", He.ga K "are_beside", He.ga K "walk_from", He.ga K "is_closed", He.ga K "row_of", He.ga K "rows_in", He.ga K "are_sources", He.ga K "web_in", He.ma K (He.ga K "Web") "__init__", He.ga K "web_text", He.ga K "check_copy", He.ma K (He.ga K "UnknownName") "__init__", He.ma K (He.ga K "Web") "text", prA K (He.ma K (He.ga K "Web") "text"), He.ma K (He.ga K "Web") "names", prA K (He.ma K (He.ga K "Web") "names"), He.ma K (He.ga K "Web") "lines", prA K (He.ma K (He.ga K "Web") "lines"), He.ma K (He.ga K "Web") "ends", prA K (He.ma K (He.ga K "Web") "ends"), He.ma K (He.ga K "Web") "sources", He.ma K (He.ga K "Web") "copies", He.ma K (He.ga K "InvalidName") "__init__", He.ma K (He.ga K "InvalidSources") "__init__", He.ma K (He.ga K "TooMany") "__init__", He.ma K (He.ga K "FullSource") "__init__", He.ma K (He.ga K "Web") "with_copy", He.ma K (He.ga K "Web") "without", He.ma K (He.ga K "Web") "__str__", He.ma K (He.ga K "Web") "__repr__", He.ma K (He.ga K "Web") "__eq__", He.ma K (He.ga K "Shelf") "__init__", He.ma K (He.ga K "Shelf") "web", prA K (He.ma K (He.ga K "Shelf") "web"), He.ma K (He.ga K "Shelf") "changes", prA K (He.ma K (He.ga K "Shelf") "changes"), He.ma K (He.ga K "Shelf") "__bool__", He.ma K (He.ga K "Shelf") "become", He.ma K (He.ga K "Shelf") "put", He.ma K (He.ga K "Shelf") "take", He.ma K (He.ga K "Shelf") "undo", He.ga K "_law_purse", He.ga K "_law_draw", He.ga K "_law_sort", He.ga K "_law_attribute", He.ga K "_law_shot", He.ga K "_law_told", He.ga K "_law_right", ccA K (He.ga K "_law_right"), tbA K (ccA K (He.ga K "_law_right")), He.ga K "law"]
def facts0 (K : PySem.W.Frag) (A : List Nat) : Bool := (((((((decide (PySem.W.nsIn K mainGlobals "InvalidText" = some (some (.ref (A.getD 1 0))))) && ((decide (PySem.W.nsIn K mainGlobals "InvalidNumber" = some (some (.ref (A.getD 2 0))))) && (decide (PySem.W.nsIn K mainGlobals "InvalidName" = some (some (.ref (A.getD 3 0))))))) && (((decide (PySem.W.nsIn K mainGlobals "InvalidIndex" = some (some (.ref (A.getD 4 0))))) && (decide (PySem.W.nsIn K mainGlobals "InvalidClaim" = some (some (.ref (A.getD 5 0)))))) && ((decide (PySem.W.nsIn K mainGlobals "InvalidChoice" = some (some (.ref (A.getD 6 0))))) && (decide (PySem.W.nsIn K mainGlobals "UnknownName" = some (some (.ref (A.getD 7 0)))))))) && ((((decide (PySem.W.nsIn K mainGlobals "NotAWeb" = some (some (.ref (A.getD 8 0))))) && (decide (PySem.W.nsIn K mainGlobals "NotAShelf" = some (some (.ref (A.getD 9 0)))))) && ((decide (PySem.W.nsIn K mainGlobals "InvalidSources" = some (some (.ref (A.getD 10 0))))) && (decide (PySem.W.nsIn K mainGlobals "InvalidTold" = some (some (.ref (A.getD 11 0))))))) && (((decide (PySem.W.nsIn K mainGlobals "InvalidWeights" = some (some (.ref (A.getD 12 0))))) && (decide (PySem.W.nsIn K mainGlobals "InvalidOffers" = some (some (.ref (A.getD 13 0)))))) && ((decide (PySem.W.nsIn K mainGlobals "InvalidFreed" = some (some (.ref (A.getD 14 0))))) && (decide (PySem.W.nsIn K mainGlobals "NoChoice" = some (some (.ref (A.getD 15 0))))))))) && ((((decide (PySem.W.nsIn K mainGlobals "TooMany" = some (some (.ref (A.getD 16 0))))) && ((decide (PySem.W.nsIn K mainGlobals "FullSource" = some (some (.ref (A.getD 17 0))))) && (decide (PySem.W.nsIn K mainGlobals "Broken" = some (some (.ref (A.getD 18 0))))))) && (((decide (PySem.W.nsIn K mainGlobals "InUse" = some (some (.ref (A.getD 19 0))))) && (decide (PySem.W.nsIn K mainGlobals "NothingToUndo" = some (some (.ref (A.getD 20 0)))))) && ((decide (PySem.W.nsIn K mainGlobals "WrongValue" = some (some (.ref (A.getD 21 0))))) && (decide (PySem.W.nsIn K mainGlobals "NoAnswer" = some (some (.ref (A.getD 22 0)))))))) && ((((([(A.getD 3 0), (A.getD 7 0), (A.getD 10 0)] : List Addr).all (oexG K veTail "ValueError.__new__")) && (([(A.getD 16 0), (A.getD 17 0)] : List Addr).all (oexG K aeTail "ArithmeticError.__new__"))) && ((([(A.getD 15 0), (A.getD 20 0)] : List Addr).all (ex0B K aeTail "ArithmeticError.__new__" "ArithmeticError.__init__")) && (decide (PySem.W.specialIn K (.builtin "object.__class__") "__get__" = some (some (.builtin "getset_descriptor.__get__")))))) && (((decide (PySem.W.takesIn K (.builtin "object.__class__") = some true)) && ((List.range 20).all (fun i => clsB K ["given", "index", "number", "told"] (([(A.getD 0 0), (A.getD 1 0), (A.getD 2 0), (A.getD 3 0), (A.getD 4 0), (A.getD 5 0), (A.getD 6 0), (A.getD 7 0), (A.getD 8 0), (A.getD 9 0), (A.getD 10 0), (A.getD 11 0), (A.getD 12 0), (A.getD 13 0), (A.getD 14 0), (A.getD 15 0), (A.getD 16 0), (A.getD 17 0), (A.getD 18 0), (A.getD 19 0), (A.getD 20 0), (A.getD 21 0), (A.getD 22 0), (A.getD 23 0)] : List Addr).getD (1 + i) 0)))) && ((decide (PySem.W.nsIn K mainGlobals "Web" = some (some (.ref (A.getD 0 0))))) && (PySem.W.plainGet K (A.getD 0 0) Str.empty)))))) && (((((PySem.W.hasDictIn K (A.getD 0 0)) && ((PySem.W.plainOver K (A.getD 0 0)) && (decide (PySem.W.findIn K (.ref (A.getD 0 0)) "__setattr__" = some (some (.builtin "object.__setattr__")))))) && (((PySem.W.makesIn K (A.getD 0 0)) && (PySem.W.keepIn K (.ref (A.getD 0 0)))) && ((decide (PySem.W.nsIn K mainGlobals "Shelf" = some (some (.ref (A.getD 23 0))))) && (PySem.W.plainGet K (A.getD 23 0) Str.empty)))) && ((((PySem.W.hasDictIn K (A.getD 23 0)) && (PySem.W.plainOver K (A.getD 23 0))) && ((decide (PySem.W.findIn K (.ref (A.getD 23 0)) "__setattr__" = some (some (.builtin "object.__setattr__")))) && (PySem.W.makesIn K (A.getD 23 0)))) && (((PySem.W.keepIn K (.ref (A.getD 23 0))) && (decide (PySem.W.nsIn K mainGlobals "is_name" = some (some (.ref (A.getD 24 0)))))) && ((ckDef K (A.getD 24 0) "is_name") && (decide (PySem.W.nsIn K mainGlobals "are_beside" = some (some (.ref (A.getD 25 0))))))))) && (((((ckDef K (A.getD 25 0) "are_beside") && (decide (PySem.W.nsIn K mainGlobals "walk_from" = some (some (.ref (A.getD 26 0)))))) && ((ckDef K (A.getD 26 0) "walk_from") && (decide (PySem.W.nsIn K mainGlobals "is_closed" = some (some (.ref (A.getD 27 0))))))) && (((ckDef K (A.getD 27 0) "is_closed") && (decide (PySem.W.nsIn K mainGlobals "row_of" = some (some (.ref (A.getD 28 0)))))) && ((ckDef K (A.getD 28 0) "row_of") && (decide (PySem.W.nsIn K mainGlobals "rows_in" = some (some (.ref (A.getD 29 0)))))))) && ((((ckDef K (A.getD 29 0) "rows_in") && (decide (PySem.W.nsIn K mainGlobals "are_sources" = some (some (.ref (A.getD 30 0)))))) && ((ckDef K (A.getD 30 0) "are_sources") && (decide (PySem.W.nsIn K mainGlobals "web_in" = some (some (.ref (A.getD 31 0))))))) && (((ckDef K (A.getD 31 0) "web_in") && (decide (PySem.W.findIn K (.ref (A.getD 0 0)) "__init__" = some (some (.ref (A.getD 32 0)))))) && ((PySem.W.isFn K (.ref (A.getD 32 0))) && (ckDef K (A.getD 32 0) "Web.__init__"))))))) && ((((((decide (PySem.W.nsIn K mainGlobals "web_text" = some (some (.ref (A.getD 33 0))))) && ((ckDef K (A.getD 33 0) "web_text") && (decide (PySem.W.nsIn K mainGlobals "check_copy" = some (some (.ref (A.getD 34 0))))))) && (((ckDef K (A.getD 34 0) "check_copy") && (decide (PySem.W.findIn K (.ref (A.getD 7 0)) "__init__" = some (some (.ref (A.getD 35 0)))))) && ((PySem.W.isFn K (.ref (A.getD 35 0))) && (ckDef K (A.getD 35 0) "UnknownName.__init__")))) && ((((decide (PySem.W.findIn K (.ref (A.getD 0 0)) "text" = some (some (.ref (A.getD 36 0))))) && (decide (PySem.W.specialIn K (.ref (A.getD 36 0)) "__get__" = some (some (.builtin "property.__get__"))))) && ((decide (PySem.W.takesIn K (.ref (A.getD 36 0)) = some true)) && (prB K (A.getD 36 0) (A.getD 37 0)))) && (((ckDef K (A.getD 37 0) "Web.text") && (decide (PySem.W.findIn K (.ref (A.getD 0 0)) "names" = some (some (.ref (A.getD 38 0)))))) && ((decide (PySem.W.specialIn K (.ref (A.getD 38 0)) "__get__" = some (some (.builtin "property.__get__")))) && (decide (PySem.W.takesIn K (.ref (A.getD 38 0)) = some true)))))) && (((((prB K (A.getD 38 0) (A.getD 39 0)) && (ckDef K (A.getD 39 0) "Web.names")) && ((decide (PySem.W.findIn K (.ref (A.getD 0 0)) "lines" = some (some (.ref (A.getD 40 0))))) && (decide (PySem.W.specialIn K (.ref (A.getD 40 0)) "__get__" = some (some (.builtin "property.__get__")))))) && (((decide (PySem.W.takesIn K (.ref (A.getD 40 0)) = some true)) && (prB K (A.getD 40 0) (A.getD 41 0))) && ((ckDef K (A.getD 41 0) "Web.lines") && (decide (PySem.W.findIn K (.ref (A.getD 0 0)) "ends" = some (some (.ref (A.getD 42 0)))))))) && ((((decide (PySem.W.specialIn K (.ref (A.getD 42 0)) "__get__" = some (some (.builtin "property.__get__")))) && (decide (PySem.W.takesIn K (.ref (A.getD 42 0)) = some true))) && ((prB K (A.getD 42 0) (A.getD 43 0)) && (ckDef K (A.getD 43 0) "Web.ends"))) && (((decide (PySem.W.findIn K (.ref (A.getD 0 0)) "sources" = some (some (.ref (A.getD 44 0))))) && (PySem.W.isFn K (.ref (A.getD 44 0)))) && ((ckDef K (A.getD 44 0) "Web.sources") && (decide (PySem.W.findIn K (.ref (A.getD 0 0)) "copies" = some (some (.ref (A.getD 45 0)))))))))) && (((((PySem.W.isFn K (.ref (A.getD 45 0))) && ((ckDef K (A.getD 45 0) "Web.copies") && (decide (PySem.W.findIn K (.ref (A.getD 3 0)) "__init__" = some (some (.ref (A.getD 46 0))))))) && (((PySem.W.isFn K (.ref (A.getD 46 0))) && (ckDef K (A.getD 46 0) "InvalidName.__init__")) && ((decide (PySem.W.findIn K (.ref (A.getD 10 0)) "__init__" = some (some (.ref (A.getD 47 0))))) && (PySem.W.isFn K (.ref (A.getD 47 0)))))) && ((((ckDef K (A.getD 47 0) "InvalidSources.__init__") && (decide (PySem.W.findIn K (.ref (A.getD 16 0)) "__init__" = some (some (.ref (A.getD 48 0)))))) && ((PySem.W.isFn K (.ref (A.getD 48 0))) && (ckDef K (A.getD 48 0) "TooMany.__init__"))) && (((decide (PySem.W.findIn K (.ref (A.getD 17 0)) "__init__" = some (some (.ref (A.getD 49 0))))) && (PySem.W.isFn K (.ref (A.getD 49 0)))) && ((ckDef K (A.getD 49 0) "FullSource.__init__") && (decide (PySem.W.findIn K (.ref (A.getD 0 0)) "with_copy" = some (some (.ref (A.getD 50 0))))))))) && (((((PySem.W.isFn K (.ref (A.getD 50 0))) && (ckDef K (A.getD 50 0) "Web.with_copy")) && ((decide (PySem.W.findIn K (.ref (A.getD 0 0)) "without" = some (some (.ref (A.getD 51 0))))) && (PySem.W.isFn K (.ref (A.getD 51 0))))) && (((ckDef K (A.getD 51 0) "Web.without") && (decide (PySem.W.findIn K (.ref (A.getD 0 0)) "__str__" = some (some (.ref (A.getD 52 0)))))) && ((PySem.W.isFn K (.ref (A.getD 52 0))) && (ckDef K (A.getD 52 0) "Web.__str__")))) && ((((decide (PySem.W.findIn K (.ref (A.getD 0 0)) "__repr__" = some (some (.ref (A.getD 53 0))))) && (PySem.W.isFn K (.ref (A.getD 53 0)))) && ((ckDef K (A.getD 53 0) "Web.__repr__") && (decide (PySem.W.findIn K (.ref (A.getD 0 0)) "__eq__" = some (some (.ref (A.getD 54 0))))))) && (((PySem.W.isFn K (.ref (A.getD 54 0))) && (ckDef K (A.getD 54 0) "Web.__eq__")) && ((decide (PySem.W.findIn K (.ref (A.getD 23 0)) "__init__" = some (some (.ref (A.getD 55 0))))) && (PySem.W.isFn K (.ref (A.getD 55 0))))))))))
def facts1 (K : PySem.W.Frag) (A : List Nat) : Bool := (((((((ckDef K (A.getD 55 0) "Shelf.__init__") && ((decide (PySem.W.findIn K (.ref (A.getD 23 0)) "web" = some (some (.ref (A.getD 56 0))))) && (decide (PySem.W.specialIn K (.ref (A.getD 56 0)) "__get__" = some (some (.builtin "property.__get__")))))) && (((decide (PySem.W.takesIn K (.ref (A.getD 56 0)) = some true)) && (prB K (A.getD 56 0) (A.getD 57 0))) && ((ckDef K (A.getD 57 0) "Shelf.web") && (decide (PySem.W.findIn K (.ref (A.getD 23 0)) "changes" = some (some (.ref (A.getD 58 0)))))))) && ((((decide (PySem.W.specialIn K (.ref (A.getD 58 0)) "__get__" = some (some (.builtin "property.__get__")))) && (decide (PySem.W.takesIn K (.ref (A.getD 58 0)) = some true))) && ((prB K (A.getD 58 0) (A.getD 59 0)) && (ckDef K (A.getD 59 0) "Shelf.changes"))) && (((decide (PySem.W.findIn K (.ref (A.getD 23 0)) "__bool__" = some (some (.ref (A.getD 60 0))))) && (PySem.W.isFn K (.ref (A.getD 60 0)))) && ((ckDef K (A.getD 60 0) "Shelf.__bool__") && (decide (PySem.W.findIn K (.ref (A.getD 23 0)) "become" = some (some (.ref (A.getD 61 0))))))))) && ((((PySem.W.isFn K (.ref (A.getD 61 0))) && ((ckDef K (A.getD 61 0) "Shelf.become") && (decide (PySem.W.findIn K (.ref (A.getD 23 0)) "put" = some (some (.ref (A.getD 62 0))))))) && (((PySem.W.isFn K (.ref (A.getD 62 0))) && (ckDef K (A.getD 62 0) "Shelf.put")) && ((decide (PySem.W.findIn K (.ref (A.getD 23 0)) "take" = some (some (.ref (A.getD 63 0))))) && (PySem.W.isFn K (.ref (A.getD 63 0)))))) && ((((ckDef K (A.getD 63 0) "Shelf.take") && (decide (PySem.W.findIn K (.ref (A.getD 23 0)) "undo" = some (some (.ref (A.getD 64 0)))))) && ((PySem.W.isFn K (.ref (A.getD 64 0))) && (ckDef K (A.getD 64 0) "Shelf.undo"))) && (((decide (PySem.W.nsIn K mainGlobals "_law_purse" = some (some (.ref (A.getD 65 0))))) && (ckDef K (A.getD 65 0) "_law_purse")) && ((decide (PySem.W.nsIn K mainGlobals "_law_draw" = some (some (.ref (A.getD 66 0))))) && (ckDef K (A.getD 66 0) "_law_draw")))))) && (((((decide (PySem.W.nsIn K mainGlobals "_law_sort" = some (some (.ref (A.getD 67 0))))) && ((ckDef K (A.getD 67 0) "_law_sort") && (decide (PySem.W.nsIn K mainGlobals "_law_attribute" = some (some (.ref (A.getD 68 0))))))) && (((ckDef K (A.getD 68 0) "_law_attribute") && (decide (PySem.W.nsIn K mainGlobals "_law_shot" = some (some (.ref (A.getD 69 0)))))) && ((ckDef K (A.getD 69 0) "_law_shot") && (decide (PySem.W.nsIn K mainGlobals "_law_told" = some (some (.ref (A.getD 70 0)))))))) && ((((ckDef K (A.getD 70 0) "_law_told") && (decide (PySem.W.nsIn K mainGlobals "_law_right" = some (some (.ref (A.getD 71 0)))))) && ((ckDef K (A.getD 71 0) "_law_right") && (lamB K (A.getD 71 0) (A.getD 72 0) (A.getD 73 0)))) && (((decide (PySem.W.nsIn K mainGlobals "law" = some (some (.ref (A.getD 74 0))))) && (ckDef K (A.getD 74 0) "law")) && ((decide (PySem.W.nsIn K mainGlobals "isinstance" = some none)) && (decide (PySem.W.nsIn K mainGlobals "str" = some none)))))) && (((((decide (PySem.W.nsIn K mainGlobals "len" = some none)) && (decide (PySem.W.nsIn K mainGlobals "all" = some none))) && ((decide (PySem.W.nsIn K mainGlobals "tuple" = some none)) && (decide (PySem.W.nsIn K mainGlobals "set" = some none)))) && (((decide (PySem.W.nsIn K mainGlobals "any" = some none)) && (decide (PySem.W.nsIn K mainGlobals "int" = some none))) && ((decide (PySem.W.nsIn K mainGlobals "abs" = some none)) && (decide (PySem.W.nsIn K mainGlobals "divmod" = some none))))) && ((((decide (PySem.W.nsIn K mainGlobals "repr" = some none)) && (decide (PySem.W.nsIn K mainGlobals "range" = some none))) && ((decide (PySem.W.nsIn K mainGlobals "min" = some none)) && (decide (PySem.W.nsIn K mainGlobals "max" = some none)))) && (((strB K "LETTERS" "abcdefghijklmnopqrstuvwxyz") && (intB K "MOST_COPIES" 40)) && ((decide (PySem.W.findIn K (.ref (A.getD 23 0)) "now_kept" = some none)) && (decide (PySem.W.findIn K (.ref (A.getD 23 0)) "past" = some none)))))))) && ((((((decide (PySem.W.findIn K (.ref (A.getD 0 0)) "__class__" = some (some (.builtin "object.__class__")))) && ((decide (PySem.W.specialIn K (.builtin "object.__class__") "__get__" = some (some (.builtin "getset_descriptor.__get__")))) && (decide (PySem.W.takesIn K (.builtin "object.__class__") = some true)))) && (((decide (PySem.W.mroIn K (A.getD 0 0) (.type "object") = some true)) && (decide (PySem.W.findIn K (.ref (A.getD 0 0)) "__ne__" = some (some (.builtin "object.__ne__"))))) && ((decide (PySem.W.findIn K (.ref (A.getD 0 0)) "__bool__" = some none)) && (decide (PySem.W.findIn K (.ref (A.getD 0 0)) "__len__" = some none))))) && ((((decide (PySem.W.typeIn K (.ref (A.getD 0 0)) = some (.type "type"))) && (decide (PySem.W.findIn K (.ref (A.getD 0 0)) "written" = some none))) && ((decide (PySem.W.findIn K (.ref (A.getD 0 0)) "rows" = some none)) && (decide (PySem.W.findIn K (.ref (A.getD 0 0)) "heads" = some none)))) && (((decide (PySem.W.findIn K (.ref (A.getD 0 0)) "pairs" = some none)) && (decide (PySem.W.findIn K (.ref (A.getD 0 0)) "zigzag_rows" = some none))) && ((decide ((List.range 20).map (fun i => PySem.W.kitOne K (.ref (([(A.getD 0 0), (A.getD 1 0), (A.getD 2 0), (A.getD 3 0), (A.getD 4 0), (A.getD 5 0), (A.getD 6 0), (A.getD 7 0), (A.getD 8 0), (A.getD 9 0), (A.getD 10 0), (A.getD 11 0), (A.getD 12 0), (A.getD 13 0), (A.getD 14 0), (A.getD 15 0), (A.getD 16 0), (A.getD 17 0), (A.getD 18 0), (A.getD 19 0), (A.getD 20 0), (A.getD 21 0), (A.getD 22 0), (A.getD 23 0)] : List Addr).getD (1 + i) 0)) (.ref (A.getD 18 0))) = (List.range 20).map fun i => some (tabX_Broken (1 + i)))) && (decide ((List.range 20).map (fun i => PySem.W.kitOne K (.ref (([(A.getD 0 0), (A.getD 1 0), (A.getD 2 0), (A.getD 3 0), (A.getD 4 0), (A.getD 5 0), (A.getD 6 0), (A.getD 7 0), (A.getD 8 0), (A.getD 9 0), (A.getD 10 0), (A.getD 11 0), (A.getD 12 0), (A.getD 13 0), (A.getD 14 0), (A.getD 15 0), (A.getD 16 0), (A.getD 17 0), (A.getD 18 0), (A.getD 19 0), (A.getD 20 0), (A.getD 21 0), (A.getD 22 0), (A.getD 23 0)] : List Addr).getD (1 + i) 0)) (.ref (A.getD 17 0))) = (List.range 20).map fun i => some (tabX_FullSource (1 + i)))))))) && (((((decide ((List.range 20).map (fun i => PySem.W.kitOne K (.ref (([(A.getD 0 0), (A.getD 1 0), (A.getD 2 0), (A.getD 3 0), (A.getD 4 0), (A.getD 5 0), (A.getD 6 0), (A.getD 7 0), (A.getD 8 0), (A.getD 9 0), (A.getD 10 0), (A.getD 11 0), (A.getD 12 0), (A.getD 13 0), (A.getD 14 0), (A.getD 15 0), (A.getD 16 0), (A.getD 17 0), (A.getD 18 0), (A.getD 19 0), (A.getD 20 0), (A.getD 21 0), (A.getD 22 0), (A.getD 23 0)] : List Addr).getD (1 + i) 0)) (.ref (A.getD 19 0))) = (List.range 20).map fun i => some (tabX_InUse (1 + i)))) && (decide ((List.range 20).map (fun i => PySem.W.kitOne K (.ref (([(A.getD 0 0), (A.getD 1 0), (A.getD 2 0), (A.getD 3 0), (A.getD 4 0), (A.getD 5 0), (A.getD 6 0), (A.getD 7 0), (A.getD 8 0), (A.getD 9 0), (A.getD 10 0), (A.getD 11 0), (A.getD 12 0), (A.getD 13 0), (A.getD 14 0), (A.getD 15 0), (A.getD 16 0), (A.getD 17 0), (A.getD 18 0), (A.getD 19 0), (A.getD 20 0), (A.getD 21 0), (A.getD 22 0), (A.getD 23 0)] : List Addr).getD (1 + i) 0)) (.ref (A.getD 6 0))) = (List.range 20).map fun i => some (tabX_InvalidChoice (1 + i))))) && ((decide ((List.range 20).map (fun i => PySem.W.kitOne K (.ref (([(A.getD 0 0), (A.getD 1 0), (A.getD 2 0), (A.getD 3 0), (A.getD 4 0), (A.getD 5 0), (A.getD 6 0), (A.getD 7 0), (A.getD 8 0), (A.getD 9 0), (A.getD 10 0), (A.getD 11 0), (A.getD 12 0), (A.getD 13 0), (A.getD 14 0), (A.getD 15 0), (A.getD 16 0), (A.getD 17 0), (A.getD 18 0), (A.getD 19 0), (A.getD 20 0), (A.getD 21 0), (A.getD 22 0), (A.getD 23 0)] : List Addr).getD (1 + i) 0)) (.ref (A.getD 5 0))) = (List.range 20).map fun i => some (tabX_InvalidClaim (1 + i)))) && (decide ((List.range 20).map (fun i => PySem.W.kitOne K (.ref (([(A.getD 0 0), (A.getD 1 0), (A.getD 2 0), (A.getD 3 0), (A.getD 4 0), (A.getD 5 0), (A.getD 6 0), (A.getD 7 0), (A.getD 8 0), (A.getD 9 0), (A.getD 10 0), (A.getD 11 0), (A.getD 12 0), (A.getD 13 0), (A.getD 14 0), (A.getD 15 0), (A.getD 16 0), (A.getD 17 0), (A.getD 18 0), (A.getD 19 0), (A.getD 20 0), (A.getD 21 0), (A.getD 22 0), (A.getD 23 0)] : List Addr).getD (1 + i) 0)) (.ref (A.getD 14 0))) = (List.range 20).map fun i => some (tabX_InvalidFreed (1 + i)))))) && (((decide ((List.range 20).map (fun i => PySem.W.kitOne K (.ref (([(A.getD 0 0), (A.getD 1 0), (A.getD 2 0), (A.getD 3 0), (A.getD 4 0), (A.getD 5 0), (A.getD 6 0), (A.getD 7 0), (A.getD 8 0), (A.getD 9 0), (A.getD 10 0), (A.getD 11 0), (A.getD 12 0), (A.getD 13 0), (A.getD 14 0), (A.getD 15 0), (A.getD 16 0), (A.getD 17 0), (A.getD 18 0), (A.getD 19 0), (A.getD 20 0), (A.getD 21 0), (A.getD 22 0), (A.getD 23 0)] : List Addr).getD (1 + i) 0)) (.ref (A.getD 4 0))) = (List.range 20).map fun i => some (tabX_InvalidIndex (1 + i)))) && (decide ((List.range 20).map (fun i => PySem.W.kitOne K (.ref (([(A.getD 0 0), (A.getD 1 0), (A.getD 2 0), (A.getD 3 0), (A.getD 4 0), (A.getD 5 0), (A.getD 6 0), (A.getD 7 0), (A.getD 8 0), (A.getD 9 0), (A.getD 10 0), (A.getD 11 0), (A.getD 12 0), (A.getD 13 0), (A.getD 14 0), (A.getD 15 0), (A.getD 16 0), (A.getD 17 0), (A.getD 18 0), (A.getD 19 0), (A.getD 20 0), (A.getD 21 0), (A.getD 22 0), (A.getD 23 0)] : List Addr).getD (1 + i) 0)) (.ref (A.getD 3 0))) = (List.range 20).map fun i => some (tabX_InvalidName (1 + i))))) && ((decide ((List.range 20).map (fun i => PySem.W.kitOne K (.ref (([(A.getD 0 0), (A.getD 1 0), (A.getD 2 0), (A.getD 3 0), (A.getD 4 0), (A.getD 5 0), (A.getD 6 0), (A.getD 7 0), (A.getD 8 0), (A.getD 9 0), (A.getD 10 0), (A.getD 11 0), (A.getD 12 0), (A.getD 13 0), (A.getD 14 0), (A.getD 15 0), (A.getD 16 0), (A.getD 17 0), (A.getD 18 0), (A.getD 19 0), (A.getD 20 0), (A.getD 21 0), (A.getD 22 0), (A.getD 23 0)] : List Addr).getD (1 + i) 0)) (.ref (A.getD 2 0))) = (List.range 20).map fun i => some (tabX_InvalidNumber (1 + i)))) && (decide ((List.range 20).map (fun i => PySem.W.kitOne K (.ref (([(A.getD 0 0), (A.getD 1 0), (A.getD 2 0), (A.getD 3 0), (A.getD 4 0), (A.getD 5 0), (A.getD 6 0), (A.getD 7 0), (A.getD 8 0), (A.getD 9 0), (A.getD 10 0), (A.getD 11 0), (A.getD 12 0), (A.getD 13 0), (A.getD 14 0), (A.getD 15 0), (A.getD 16 0), (A.getD 17 0), (A.getD 18 0), (A.getD 19 0), (A.getD 20 0), (A.getD 21 0), (A.getD 22 0), (A.getD 23 0)] : List Addr).getD (1 + i) 0)) (.ref (A.getD 13 0))) = (List.range 20).map fun i => some (tabX_InvalidOffers (1 + i))))))) && ((((decide ((List.range 20).map (fun i => PySem.W.kitOne K (.ref (([(A.getD 0 0), (A.getD 1 0), (A.getD 2 0), (A.getD 3 0), (A.getD 4 0), (A.getD 5 0), (A.getD 6 0), (A.getD 7 0), (A.getD 8 0), (A.getD 9 0), (A.getD 10 0), (A.getD 11 0), (A.getD 12 0), (A.getD 13 0), (A.getD 14 0), (A.getD 15 0), (A.getD 16 0), (A.getD 17 0), (A.getD 18 0), (A.getD 19 0), (A.getD 20 0), (A.getD 21 0), (A.getD 22 0), (A.getD 23 0)] : List Addr).getD (1 + i) 0)) (.ref (A.getD 10 0))) = (List.range 20).map fun i => some (tabX_InvalidSources (1 + i)))) && (decide ((List.range 20).map (fun i => PySem.W.kitOne K (.ref (([(A.getD 0 0), (A.getD 1 0), (A.getD 2 0), (A.getD 3 0), (A.getD 4 0), (A.getD 5 0), (A.getD 6 0), (A.getD 7 0), (A.getD 8 0), (A.getD 9 0), (A.getD 10 0), (A.getD 11 0), (A.getD 12 0), (A.getD 13 0), (A.getD 14 0), (A.getD 15 0), (A.getD 16 0), (A.getD 17 0), (A.getD 18 0), (A.getD 19 0), (A.getD 20 0), (A.getD 21 0), (A.getD 22 0), (A.getD 23 0)] : List Addr).getD (1 + i) 0)) (.ref (A.getD 1 0))) = (List.range 20).map fun i => some (tabX_InvalidText (1 + i))))) && ((decide ((List.range 20).map (fun i => PySem.W.kitOne K (.ref (([(A.getD 0 0), (A.getD 1 0), (A.getD 2 0), (A.getD 3 0), (A.getD 4 0), (A.getD 5 0), (A.getD 6 0), (A.getD 7 0), (A.getD 8 0), (A.getD 9 0), (A.getD 10 0), (A.getD 11 0), (A.getD 12 0), (A.getD 13 0), (A.getD 14 0), (A.getD 15 0), (A.getD 16 0), (A.getD 17 0), (A.getD 18 0), (A.getD 19 0), (A.getD 20 0), (A.getD 21 0), (A.getD 22 0), (A.getD 23 0)] : List Addr).getD (1 + i) 0)) (.ref (A.getD 11 0))) = (List.range 20).map fun i => some (tabX_InvalidTold (1 + i)))) && (decide ((List.range 20).map (fun i => PySem.W.kitOne K (.ref (([(A.getD 0 0), (A.getD 1 0), (A.getD 2 0), (A.getD 3 0), (A.getD 4 0), (A.getD 5 0), (A.getD 6 0), (A.getD 7 0), (A.getD 8 0), (A.getD 9 0), (A.getD 10 0), (A.getD 11 0), (A.getD 12 0), (A.getD 13 0), (A.getD 14 0), (A.getD 15 0), (A.getD 16 0), (A.getD 17 0), (A.getD 18 0), (A.getD 19 0), (A.getD 20 0), (A.getD 21 0), (A.getD 22 0), (A.getD 23 0)] : List Addr).getD (1 + i) 0)) (.ref (A.getD 12 0))) = (List.range 20).map fun i => some (tabX_InvalidWeights (1 + i)))))) && (((decide ((List.range 20).map (fun i => PySem.W.kitOne K (.ref (([(A.getD 0 0), (A.getD 1 0), (A.getD 2 0), (A.getD 3 0), (A.getD 4 0), (A.getD 5 0), (A.getD 6 0), (A.getD 7 0), (A.getD 8 0), (A.getD 9 0), (A.getD 10 0), (A.getD 11 0), (A.getD 12 0), (A.getD 13 0), (A.getD 14 0), (A.getD 15 0), (A.getD 16 0), (A.getD 17 0), (A.getD 18 0), (A.getD 19 0), (A.getD 20 0), (A.getD 21 0), (A.getD 22 0), (A.getD 23 0)] : List Addr).getD (1 + i) 0)) (.ref (A.getD 22 0))) = (List.range 20).map fun i => some (tabX_NoAnswer (1 + i)))) && (decide ((List.range 20).map (fun i => PySem.W.kitOne K (.ref (([(A.getD 0 0), (A.getD 1 0), (A.getD 2 0), (A.getD 3 0), (A.getD 4 0), (A.getD 5 0), (A.getD 6 0), (A.getD 7 0), (A.getD 8 0), (A.getD 9 0), (A.getD 10 0), (A.getD 11 0), (A.getD 12 0), (A.getD 13 0), (A.getD 14 0), (A.getD 15 0), (A.getD 16 0), (A.getD 17 0), (A.getD 18 0), (A.getD 19 0), (A.getD 20 0), (A.getD 21 0), (A.getD 22 0), (A.getD 23 0)] : List Addr).getD (1 + i) 0)) (.ref (A.getD 15 0))) = (List.range 20).map fun i => some (tabX_NoChoice (1 + i))))) && ((decide ((List.range 20).map (fun i => PySem.W.kitOne K (.ref (([(A.getD 0 0), (A.getD 1 0), (A.getD 2 0), (A.getD 3 0), (A.getD 4 0), (A.getD 5 0), (A.getD 6 0), (A.getD 7 0), (A.getD 8 0), (A.getD 9 0), (A.getD 10 0), (A.getD 11 0), (A.getD 12 0), (A.getD 13 0), (A.getD 14 0), (A.getD 15 0), (A.getD 16 0), (A.getD 17 0), (A.getD 18 0), (A.getD 19 0), (A.getD 20 0), (A.getD 21 0), (A.getD 22 0), (A.getD 23 0)] : List Addr).getD (1 + i) 0)) (.ref (A.getD 9 0))) = (List.range 20).map fun i => some (tabX_NotAShelf (1 + i)))) && (decide ((List.range 20).map (fun i => PySem.W.kitOne K (.ref (([(A.getD 0 0), (A.getD 1 0), (A.getD 2 0), (A.getD 3 0), (A.getD 4 0), (A.getD 5 0), (A.getD 6 0), (A.getD 7 0), (A.getD 8 0), (A.getD 9 0), (A.getD 10 0), (A.getD 11 0), (A.getD 12 0), (A.getD 13 0), (A.getD 14 0), (A.getD 15 0), (A.getD 16 0), (A.getD 17 0), (A.getD 18 0), (A.getD 19 0), (A.getD 20 0), (A.getD 21 0), (A.getD 22 0), (A.getD 23 0)] : List Addr).getD (1 + i) 0)) (.ref (A.getD 8 0))) = (List.range 20).map fun i => some (tabX_NotAWeb (1 + i))))))))) && (((((decide ((List.range 20).map (fun i => PySem.W.kitOne K (.ref (([(A.getD 0 0), (A.getD 1 0), (A.getD 2 0), (A.getD 3 0), (A.getD 4 0), (A.getD 5 0), (A.getD 6 0), (A.getD 7 0), (A.getD 8 0), (A.getD 9 0), (A.getD 10 0), (A.getD 11 0), (A.getD 12 0), (A.getD 13 0), (A.getD 14 0), (A.getD 15 0), (A.getD 16 0), (A.getD 17 0), (A.getD 18 0), (A.getD 19 0), (A.getD 20 0), (A.getD 21 0), (A.getD 22 0), (A.getD 23 0)] : List Addr).getD (1 + i) 0)) (.ref (A.getD 20 0))) = (List.range 20).map fun i => some (tabX_NothingToUndo (1 + i)))) && ((decide ((List.range 20).map (fun i => PySem.W.kitOne K (.ref (([(A.getD 0 0), (A.getD 1 0), (A.getD 2 0), (A.getD 3 0), (A.getD 4 0), (A.getD 5 0), (A.getD 6 0), (A.getD 7 0), (A.getD 8 0), (A.getD 9 0), (A.getD 10 0), (A.getD 11 0), (A.getD 12 0), (A.getD 13 0), (A.getD 14 0), (A.getD 15 0), (A.getD 16 0), (A.getD 17 0), (A.getD 18 0), (A.getD 19 0), (A.getD 20 0), (A.getD 21 0), (A.getD 22 0), (A.getD 23 0)] : List Addr).getD (1 + i) 0)) (.ref (A.getD 16 0))) = (List.range 20).map fun i => some (tabX_TooMany (1 + i)))) && (decide ((List.range 20).map (fun i => PySem.W.kitOne K (.ref (([(A.getD 0 0), (A.getD 1 0), (A.getD 2 0), (A.getD 3 0), (A.getD 4 0), (A.getD 5 0), (A.getD 6 0), (A.getD 7 0), (A.getD 8 0), (A.getD 9 0), (A.getD 10 0), (A.getD 11 0), (A.getD 12 0), (A.getD 13 0), (A.getD 14 0), (A.getD 15 0), (A.getD 16 0), (A.getD 17 0), (A.getD 18 0), (A.getD 19 0), (A.getD 20 0), (A.getD 21 0), (A.getD 22 0), (A.getD 23 0)] : List Addr).getD (1 + i) 0)) (.ref (A.getD 7 0))) = (List.range 20).map fun i => some (tabX_UnknownName (1 + i)))))) && (((decide ((List.range 20).map (fun i => PySem.W.kitOne K (.ref (([(A.getD 0 0), (A.getD 1 0), (A.getD 2 0), (A.getD 3 0), (A.getD 4 0), (A.getD 5 0), (A.getD 6 0), (A.getD 7 0), (A.getD 8 0), (A.getD 9 0), (A.getD 10 0), (A.getD 11 0), (A.getD 12 0), (A.getD 13 0), (A.getD 14 0), (A.getD 15 0), (A.getD 16 0), (A.getD 17 0), (A.getD 18 0), (A.getD 19 0), (A.getD 20 0), (A.getD 21 0), (A.getD 22 0), (A.getD 23 0)] : List Addr).getD (1 + i) 0)) (.ref (A.getD 21 0))) = (List.range 20).map fun i => some (tabX_WrongValue (1 + i)))) && (decide (PySem.W.subIn K (.ref (A.getD 17 0)) (.type "BaseException") = some true))) && ((decide (PySem.W.typeIn K (.ref (A.getD 17 0)) = some (.type "type"))) && (decide (PySem.W.subIn K (.ref (A.getD 3 0)) (.type "BaseException") = some true))))) && ((((decide (PySem.W.typeIn K (.ref (A.getD 3 0)) = some (.type "type"))) && (decide (PySem.W.subIn K (.ref (A.getD 10 0)) (.type "BaseException") = some true))) && ((decide (PySem.W.typeIn K (.ref (A.getD 10 0)) = some (.type "type"))) && (decide (PySem.W.subIn K (.ref (A.getD 20 0)) (.type "BaseException") = some true)))) && (((decide (PySem.W.typeIn K (.ref (A.getD 20 0)) = some (.type "type"))) && (decide (PySem.W.subIn K (.ref (A.getD 16 0)) (.type "BaseException") = some true))) && ((decide (PySem.W.typeIn K (.ref (A.getD 16 0)) = some (.type "type"))) && (decide (PySem.W.subIn K (.ref (A.getD 7 0)) (.type "BaseException") = some true)))))) && (((((decide (PySem.W.typeIn K (.ref (A.getD 7 0)) = some (.type "type"))) && (decide ((List.range 20).map (fun i => PySem.W.exmAny K (.ref (([(A.getD 0 0), (A.getD 1 0), (A.getD 2 0), (A.getD 3 0), (A.getD 4 0), (A.getD 5 0), (A.getD 6 0), (A.getD 7 0), (A.getD 8 0), (A.getD 9 0), (A.getD 10 0), (A.getD 11 0), (A.getD 12 0), (A.getD 13 0), (A.getD 14 0), (A.getD 15 0), (A.getD 16 0), (A.getD 17 0), (A.getD 18 0), (A.getD 19 0), (A.getD 20 0), (A.getD 21 0), (A.getD 22 0), (A.getD 23 0)] : List Addr).getD (1 + i) 0)) [.ref (A.getD 21 0), .ref (A.getD 22 0)]) = (List.range 20).map fun i => some true))) && ((decide (PySem.W.findIn K (.ref (A.getD 23 0)) "__class__" = some (some (.builtin "object.__class__")))) && (decide (PySem.W.specialIn K (.builtin "object.__class__") "__get__" = some (some (.builtin "getset_descriptor.__get__")))))) && (((decide (PySem.W.takesIn K (.builtin "object.__class__") = some true)) && (decide (PySem.W.mroIn K (A.getD 23 0) (.type "object") = some true))) && ((decide (PySem.W.findIn K (.ref (A.getD 23 0)) "__eq__" = some (some (.builtin "object.__eq__")))) && (decide (PySem.W.findIn K (.ref (A.getD 23 0)) "__ne__" = some (some (.builtin "object.__ne__"))))))) && ((((decide (PySem.W.kitOne K (.ref (A.getD 23 0)) (.ref (A.getD 0 0)) = some false)) && (decide (PySem.W.mroIn K (A.getD 23 0) (.type "list") = some false))) && ((decide (PySem.W.mroIn K (A.getD 23 0) (.type "dict") = some false)) && (decide (PySem.W.subIn K (.ref (A.getD 0 0)) (.ref (A.getD 23 0)) = some false)))) && (((decide (((A.getD 23 0) == (A.getD 0 0)) = false)) && (decide (PySem.W.mroIn K (A.getD 0 0) (.type "object") = some true))) && ((decide (PySem.W.findIn K (.ref (A.getD 0 0)) "__ne__" = some (some (.builtin "object.__ne__")))) && (noList K))))))))
def facts (K : PySem.W.Frag) (A : List Nat) : Bool := ((facts0 K A) && (facts1 K A))
def fnsA (A : List Nat) : List Nat := [(A.getD 24 0), (A.getD 25 0), (A.getD 26 0), (A.getD 27 0), (A.getD 28 0), (A.getD 29 0), (A.getD 30 0), (A.getD 31 0), (A.getD 32 0), (A.getD 33 0), (A.getD 34 0), (A.getD 35 0), (A.getD 37 0), (A.getD 39 0), (A.getD 41 0), (A.getD 43 0), (A.getD 44 0), (A.getD 45 0), (A.getD 46 0), (A.getD 47 0), (A.getD 48 0), (A.getD 49 0), (A.getD 50 0), (A.getD 51 0), (A.getD 52 0), (A.getD 53 0), (A.getD 54 0), (A.getD 55 0), (A.getD 57 0), (A.getD 59 0), (A.getD 60 0), (A.getD 61 0), (A.getD 62 0), (A.getD 63 0), (A.getD 64 0), (A.getD 65 0), (A.getD 66 0), (A.getD 67 0), (A.getD 68 0), (A.getD 69 0), (A.getD 70 0), (A.getD 71 0), (A.getD 74 0)]
def valN : List FnW := [fnE "is_name" "is_name" s_is_name, fnE "are_beside" "are_beside" s_are_beside, fnE "walk_from" "walk_from" s_walk_from, fnE "is_closed" "is_closed" s_is_closed, fnE "row_of" "row_of" s_row_of, fnE "rows_in" "rows_in" s_rows_in, fnE "are_sources" "are_sources" s_are_sources, fnE "web_in" "web_in" s_web_in, fnE "__init__" "Web.__init__" s_Web___init__, fnE "web_text" "web_text" s_web_text, fnE "check_copy" "check_copy" s_check_copy, fnE "__init__" "UnknownName.__init__" s_UnknownName___init__, fnE "text" "Web.text" s_Web_text, fnE "names" "Web.names" s_Web_names, fnE "lines" "Web.lines" s_Web_lines, fnE "ends" "Web.ends" s_Web_ends, fnE "sources" "Web.sources" s_Web_sources, fnE "copies" "Web.copies" s_Web_copies, fnE "__init__" "InvalidName.__init__" s_InvalidName___init__, fnE "__init__" "InvalidSources.__init__" s_InvalidSources___init__, fnE "__init__" "TooMany.__init__" s_TooMany___init__, fnE "__init__" "FullSource.__init__" s_FullSource___init__, fnE "with_copy" "Web.with_copy" s_Web_with_copy, fnE "without" "Web.without" s_Web_without, fnE "__str__" "Web.__str__" s_Web___str__, fnE "__repr__" "Web.__repr__" s_Web___repr__, fnE "__eq__" "Web.__eq__" s_Web___eq__, fnE "__init__" "Shelf.__init__" s_Shelf___init__, fnE "web" "Shelf.web" s_Shelf_web, fnE "changes" "Shelf.changes" s_Shelf_changes, fnE "__bool__" "Shelf.__bool__" s_Shelf___bool__, fnE "become" "Shelf.become" s_Shelf_become, fnE "put" "Shelf.put" s_Shelf_put, fnE "take" "Shelf.take" s_Shelf_take, fnE "undo" "Shelf.undo" s_Shelf_undo, fnE "_law_purse" "_law_purse" s_law_purse, fnE "_law_draw" "_law_draw" s_law_draw, fnE "_law_sort" "_law_sort" s_law_sort, fnE "_law_attribute" "_law_attribute" s_law_attribute, fnE "_law_shot" "_law_shot" s_law_shot, fnE "_law_told" "_law_told" s_law_told, fnE "_law_right" "_law_right" s_law_right, fnE "law" "law" s_law]
def obsK : PySem.W.Frag → AlU := obsN adrs facts fnsA
def valK : AlU := (true, valN)
def loose0 : List Str := ["_wall", "WrongValue", "NoAnswer", "InvalidText", "InvalidNumber", "InvalidName", "InvalidIndex", "InvalidClaim", "InvalidChoice", "UnknownName", "NotAWeb", "NotAShelf", "InvalidSources", "InvalidTold", "InvalidWeights", "InvalidOffers", "InvalidFreed", "NoChoice", "TooMany", "FullSource", "Broken", "InUse", "NothingToUndo", "LETTERS", "is_name", "MOST_COPIES", "are_beside", "walk_from", "is_closed", "row_of"]
def loose1 : List Str := ["rows_in", "are_sources", "web_in", "web_text", "Web", "check_copy", "Shelf", "_law_purse", "_law_draw", "_law_told", "_law_sort", "_law_attribute", "_law_shot"]
def looseN : List Str := loose0 ++ loose1
abbrev RR : PySem.W.OpenRow := PySem.W.OpenLaw.row PySem.Challenge.rw_basetrees_k42_shelves_refused
abbrev qv : Program := PySem.W.view RR.prog [49, 50]
set_option maxHeartbeats 0 in
theorem run_l (w : World) : ∀ os : OsState, (endO RR 20000 w os).map (fun s => HandSHeadRun.looksF RR.prog (PySem.W.boot_heap w.params) s.abs) = some true := by
  intro os
  kernel_rfl
set_option maxHeartbeats 0 in
theorem run_s (w : World) : ∀ os : OsState, (endO RR 20000 w os).map (fun s => HandSHeadRun.seenQ qv looseN (PySem.importedModules RR.prog.main.body) (fun s => PySem.W.xlAt qv [] s && PySem.W.recOk RR.toRowW.records s) s.abs) = some (PySem.W.openGood qv looseN) := by
  intro os
  kernel_rfl
set_option maxHeartbeats 0 in
theorem run_n (w : World) : ∀ os : OsState, (endO RR 20000 w os).map (obs1 adrs fun K A => (fnsA A).map (fnW K)) = some valN := by
  intro os
  kernel_rfl
set_option maxHeartbeats 0 in
theorem run_f0 (w : World) : ∀ os : OsState, (endO RR 20000 w os).map (obs1 adrs facts0) = some true := by
  intro os
  kernel_rfl
set_option maxHeartbeats 0 in
theorem run_f1 (w : World) : ∀ os : OsState, (endO RR 20000 w os).map (obs1 adrs facts1) = some true := by
  intro os
  kernel_rfl
theorem run_o (w : World) (os : OsState) : (endO RR 20000 w os).map (obU obsK) = some valK := look_all (f := facts) ((two_looks (run_f0 w os) (run_f1 w os))) (run_n w os)
theorem run (w : World) : HandSHeadRun.RunEq RR qv (hookU obsK valK) (obU obsK) 20000 looseN w := run3 (H := hookU obsK valK) (run_l w) (run_s w) (run_o w)
end K42
set_option Elab.async false
set_option linter.all false
set_option maxRecDepth 100000
set_option maxHeartbeats 2000000
namespace Dn
open PySem L2
/-- where the classes stand -/
class CTab where
  ct : Nat → Addr
  /-- the empty tuple that a def has as its default -/
  et : Addr
  /-- the tables of code objects: where, for which name -/
  tb : List (Addr × Str)
variable [CTab]
def HO.nt : HO → Bool
  | .tbl _ => false
  | _ => true
/-- no table -/
abbrev NT (o : HO) : Prop := HO.nt o = true
/-- neither a table nor a code object -/
def PL (p : Addr) (o : HO) : Prop := NT o ∧ ∀ q, o ≠ LamX.CodeO p q
theorem nt_ne {o : HO} (n : NT o) {ps : Array Value} : o ≠ .tbl ps := fun z => by subst z; cases n
/-- B is a part of H, no table stands in it; the tables are as told -/
structure Ok (B H : Hp) : Prop where
  sm : Same B H
  nt : ∀ a o, B a = some o → NT o
  tb : LamX.Tabs CTab.tb H
  ot : ∀ a ps, H a = some (.tbl ps) → a ∈ CTab.tb.map (·.1)
instance {B H : Hp} : CoeFun (Ok B H) (fun _ => ∀ b o, B b = some o → H b = some o) := ⟨Ok.sm⟩
instance {B H : Hp} : CoeOut (Ok B H) (Same B H) := ⟨Ok.sm⟩
theorem Ok.free {B H : Hp} (s : Ok B H) {l : Addr} (h : H l = none) : B l = none := s.sm.free h
theorem Ok.less {B B2 H : Hp} (o : Ok B2 H) (s : Same B B2) : Ok B H := ⟨s.trans o.sm, fun a u e => o.nt a u (s a u e), o.tb, o.ot⟩
theorem tabs_upd {T : List (Addr × Str)} {H : Hp} (t : LamX.Tabs T H) {p : Addr} {o : HO} (h : ∀ u, H p = some u → PL p u) : LamX.Tabs T (upd H p o) := fun P hP => by
  obtain ⟨ps, h1, h2, h3⟩ := t P hP
  refine ⟨ps, ?_, h2, fun pos cv hc => ?_⟩
  · rw [upd_ne (fun z => by subst z; exact nt_ne (h _ h1).1 rfl)]; exact h1
  · obtain ⟨c, e1, e2⟩ := h3 pos cv hc
    refine ⟨c, e1, ?_⟩
    rw [upd_ne (fun z => by subst z; exact (h _ e2).2 _ rfl)]; exact e2
theorem ot_upd {H : Hp} (t : ∀ a ps, H a = some (.tbl ps) → a ∈ CTab.tb.map (·.1)) {p : Addr} {o : HO} (n : NT o) : ∀ a ps, upd H p o a = some (.tbl ps) → a ∈ CTab.tb.map (·.1) := fun a ps e => by
  by_cases h : a = p
  · subst h
    rw [upd_same] at e
    exact absurd (Option.some.inj e) (nt_ne n)
  · rw [upd_ne h] at e
    exact t a ps e
theorem nt_upd {B : Hp} (t : ∀ a o, B a = some o → NT o) {p : Addr} {o : HO} (n : NT o) : ∀ a u, upd B p o a = some u → NT u := fun a u e => by
  by_cases h : a = p
  · subst h
    rw [upd_same] at e
    cases e
    exact n
  · rw [upd_ne h] at e
    exact t a u e
theorem noPL {H : Hp} {p : Addr} (h : H p = none) : ∀ u, H p = some u → PL p u := fun u e => by rw [h] at e; cases e
theorem onePL {H : Hp} {p : Addr} {o : HO} (h : H p = some o) (n : PL p o) : ∀ u, H p = some u → PL p u := fun u e => by rw [h] at e; cases e; exact n
/-- what stays: all but the tables -/
def Sm (H H2 : Hp) : Prop := ∀ a o, H a = some o → (n : NT o := by (first | rfl | assumption)) → H2 a = some o
structure Go (B H B2 H2 : Hp) : Prop where
  h : Sm H H2
  n : ∀ a, H2 a = none → H a = none
  b : Same B B2
  bh : Ok B2 H2
  fr : ∀ a o, B2 a = some o → B a = some o ∨ H a = none
theorem Go.refl {B H : Hp} (s : Ok B H) : Go B H B H := ⟨fun _ _ e _ => e, fun _ e => e, Same.refl B, s, fun _ _ e => .inl e⟩
theorem Go.trans {B H B1 H1 B2 H2 : Hp} (x : Go B H B1 H1) (y : Go B1 H1 B2 H2) : Go B H B2 H2 :=
  ⟨fun a o e n => y.h a o (x.h a o e n) n, fun a e => x.n a (y.n a e), x.b.trans y.b, y.bh, fun a o e => by
    rcases y.fr a o e with z | z
    · exact x.fr a o z
    · exact .inr (x.n a z)⟩
theorem Ok.new {B H : Hp} (s : Ok B H) {p : Addr} {o : HO} (hp : H p = none) (n : NT o := by (first | rfl | assumption)) : Ok (upd B p o) (upd H p o) :=
  ⟨fun b u e => by
    by_cases hb : b = p
    · subst hb; rw [upd_same] at e ⊢; exact e
    · rw [upd_ne hb] at e ⊢; exact s b u e, nt_upd s.nt n, tabs_upd s.tb (noPL hp), ot_upd s.ot n⟩
theorem Ok.own {B H : Hp} (s : Ok B H) {p : Addr} {o : HO} (hp : H p = none) (n : NT o := by (first | rfl | assumption)) : Ok B (upd H p o) :=
  ⟨fun b u e => by rw [upd_ne (ne_of_none (s b u e) hp)]; exact s b u e, s.nt, tabs_upd s.tb (noPL hp), ot_upd s.ot n⟩
theorem Ok.mut {B H : Hp} (s : Ok B H) {p : Addr} {u o : HO} (hb : B p = none) (hp : H p = some u) (nu : PL p u := by (first | assumption | exact ⟨rfl, fun _ z => by cases z⟩ | exact ⟨rfl, fun _ z => nomatch z⟩)) (n : NT o := by (first | rfl | assumption)) : Ok B (upd H p o) :=
  ⟨fun b u e => by rw [upd_ne (ne_of_none e hb)]; exact s b u e, s.nt, tabs_upd s.tb (onePL hp nu), ot_upd s.ot n⟩
theorem Ok.keep {B H : Hp} (s : Ok B H) {p : Addr} {o : HO} (hb : B p = none) (hp : H p = some o) (n : NT o := by (first | rfl | assumption)) : Ok (upd B p o) H :=
  ⟨fun b u e => by
    by_cases q : b = p
    · subst q; rw [upd_same] at e; rw [hp]; exact e
    · rw [upd_ne q] at e; exact s b u e, nt_upd s.nt n, s.tb, s.ot⟩
theorem upd_none {H : Hp} {p a : Addr} {o : HO} (e : upd H p o a = none) : H a = none ∧ a ≠ p := by
  by_cases h : a = p
  · subst h; rw [upd_same] at e; cases e
  · rw [upd_ne h] at e; exact ⟨e, h⟩
/-- a new object, kept for good -/
theorem Go.new {B H : Hp} (s : Ok B H) {p : Addr} {o : HO} (hp : H p = none) (n : NT o := by (first | rfl | assumption)) : Go B H (upd B p o) (upd H p o) := by
  refine ⟨fun b u e _ => ?_, fun b e => (upd_none e).1, fun b u e => ?_, s.new hp n, fun b u e => ?_⟩
  · rw [upd_ne (ne_of_none e hp)]; exact e
  · rw [upd_ne (ne_of_none (s b u e) hp)]; exact e
  · by_cases hb : b = p
    · subst hb; exact .inr hp
    · rw [upd_ne hb] at e; exact .inl e
/-- a new object, one's own (it may change) -/
theorem Go.own {B H : Hp} (s : Ok B H) {p : Addr} {o : HO} (hp : H p = none) (n : NT o := by (first | rfl | assumption)) : Go B H B (upd H p o) := by
  refine ⟨fun b u e _ => ?_, fun b e => (upd_none e).1, Same.refl B, s.own hp n, fun b u e => .inl e⟩
  rw [upd_ne (ne_of_none e hp)]; exact e
/-- one's own object changes -/
theorem Go.mut {B0 H0 B H : Hp} (g : Go B0 H0 B H) {p : Addr} {u o : HO} (h0 : H0 p = none) (hb : B p = none) (hp : H p = some u) (nu : PL p u := by (first | assumption | exact ⟨rfl, fun _ z => by cases z⟩ | exact ⟨rfl, fun _ z => nomatch z⟩)) (n : NT o := by (first | rfl | assumption)) : Go B0 H0 B (upd H p o) := by
  refine ⟨fun b u e m => ?_, fun b e => g.n b (upd_none e).1, g.b, g.bh.mut hb hp nu n, g.fr⟩
  rw [upd_ne (ne_of_none e h0)]; exact g.h b u e m
/-- one's own object is kept for good from here on -/
theorem Go.keep {B0 H0 B H : Hp} (g : Go B0 H0 B H) {p : Addr} {o : HO} (h0 : H0 p = none) (hb : B p = none) (hp : H p = some o) (n : NT o := by (first | rfl | assumption)) : Go B0 H0 (upd B p o) H := by
  refine ⟨fun a o e n => g.h a o e n, g.n, fun b u e => ?_, g.bh.keep hb hp n, fun b u e => ?_⟩
  · rw [upd_ne (ne_of_none (g.b b u e) hb)]; exact g.b b u e
  · by_cases q : b = p
    · subst q; exact .inr h0
    · rw [upd_ne q] at e; exact g.fr b u e
theorem Go.noB {B H B2 H2 : Hp} (g : Go B H B2 H2) {p : Addr} {o : HO} (hb : B p = none) (hp : H p = some o) : B2 p = none := by
  cases q : B2 p with
  | none => rfl
  | some u =>
    rcases g.fr p u q with z | z
    · rw [hb] at z; cases z
    · rw [hp] at z; cases z
theorem same_upd {B H : Hp} (s : Ok B H) {p : Addr} {u o : HO} (hb : B p = none) (hp : H p = some u) (nu : PL p u := by (first | assumption | exact ⟨rfl, fun _ z => by cases z⟩ | exact ⟨rfl, fun _ z => nomatch z⟩)) (n : NT o := by (first | rfl | assumption)) : Ok B (upd H p o) := s.mut hb hp nu n
/-- where one stands, seen from B -/
structure At (B B1 H1 : Hp) : Prop where
  b : Same B B1
  bh : Ok B1 H1
theorem At.refl {B H : Hp} (s : Ok B H) : At B B H := ⟨Same.refl B, s⟩
theorem At.trans {B B1 H1 B2 H2 : Hp} (x : At B B1 H1) (y : Go B1 H1 B2 H2) : At B B2 H2 := ⟨x.b.trans y.b, y.bh⟩
theorem Go.at {B H B1 H1 : Hp} (g : Go B H B1 H1) : At B B1 H1 := ⟨g.b, g.bh⟩
instance {B H B1 H1 : Hp} : CoeOut (Go B H B1 H1) (At B B1 H1) := ⟨Go.at⟩
theorem At.tr {B B1 H1 B2 H2 : Hp} (x : At B B1 H1) (y : At B1 B2 H2) : At B B2 H2 := ⟨x.b.trans y.b, y.bh⟩
inductive BPs : List DictEntry → List (Bool × Value) → Prop
  | nil : BPs [] []
  | cons {e : DictEntry} {k : Bool} {v : Value} {es : List DictEntry} {kvs : List (Bool × Value)} : e.key = .bool k → e.hash = PpSet.hB k → e.val = v → BPs es kvs → BPs (e :: es) ((k, v) :: kvs)
def DictB (o : Obj) (es : List (Bool × V)) : Prop := o.ExactDict ∧ ∃ (ents : Array DictEntry) (ep : Nat) (vs : List (Bool × Value)), o.data = .dict ents ep ∧ KV es vs ∧ BPs ents.toList vs ∧ (vs.map (·.1)).Nodup
def dB (a : Addr) (es : List (Bool × V)) : HO := .ext fun h => es.length ≤ sizeLine ∧ (a == sysModules) = false ∧ ∃ o, h.get? a = some o ∧ DictB o es
def vOf : Value → Option V
  | .none => some .non
  | .bool b => some (.bl b)
  | .int i _ => some (.int i)
  | .str x _ => some (.str x)
  | .bytes b _ => some (.byt b)
  | .float b _ => some (.flt b)
  | .ref a => some (.ref a)
  | .type n => some (.ty n)
  | _ => none
theorem vOf_rel : ∀ {x : V} {u : Value}, RelV x u → vOf u = some x
  | .non, u, h => by cases (show u = _ from h); rfl
  | .bl b, u, h => by cases (show u = _ from h); rfl
  | .ref b, u, h => by cases (show u = _ from h); rfl
  | .ty b, u, h => by cases (show u = _ from h); rfl
  | .int b, u, h => by obtain ⟨_, rfl⟩ := h; rfl
  | .str b, u, h => by obtain ⟨_, rfl⟩ := h; rfl
  | .byt b, u, h => by obtain ⟨_, rfl⟩ := h; rfl
  | .flt b, u, h => by obtain ⟨_, rfl⟩ := h; rfl
theorem relV_inj {x y : V} {u : Value} (h1 : RelV x u) (h2 : RelV y u) : x = y := by
  have e1 := vOf_rel h1
  rw [vOf_rel h2] at e1
  exact (Option.some.inj e1).symm
theorem BPs.inj : ∀ {l : List DictEntry} {vs ws : List (Bool × Value)}, BPs l vs → BPs l ws → vs = ws
  | _, _, _, .nil, .nil => rfl
  | _, _, _, .cons h1 _ h2 t, .cons g1 _ g2 t' => by
    rw [BPs.inj t t', ← h2, ← g2]
    rw [h1] at g1
    cases g1
    rfl
theorem BPs.pairs {P : Program} {w : World} : ∀ {l : List DictEntry} {vs : List (Bool × Value)}, BPs l vs → Pairs (PpSet.boolK P w) l vs
  | _, _, .nil => .nil
  | _, _, .cons h1 _ h2 t => .cons (by rw [h1]; exact PpSet.boolK_is P w _) h2 t.pairs
theorem BPs.keys {P : Program} {w : World} : ∀ {l : List DictEntry} {vs : List (Bool × Value)}, BPs l vs → ∀ e ∈ l, ∃ k, (PpSet.boolK P w).is k e.key = true ∧ e.hash = (PpSet.boolK P w).hash k
  | _, _, .nil, e, h => nomatch h
  | _, _, .cons (k := k) h1 h3 h2 t, e, h => by
    rcases List.mem_cons.mp h with rfl | h
    · exact ⟨k, by rw [h1]; exact PpSet.boolK_is P w _, h3⟩
    · exact t.keys e h
theorem BPs.of {P : Program} {w : World} : ∀ {l : List DictEntry} {vs : List (Bool × Value)}, Pairs (PpSet.boolK P w) l vs → (∀ e ∈ l, ∃ k, (PpSet.boolK P w).is k e.key = true ∧ e.hash = (PpSet.boolK P w).hash k) → BPs l vs
  | _, _, .nil, _ => .nil
  | _, _, .cons (kv := kv) h1 h2 t, h => by
    obtain ⟨k, v⟩ := kv
    obtain ⟨k', h3, h4⟩ := h _ (List.mem_cons_self ..)
    have e := (PpSet.boolK P w).inj _ _ _ h1 h3
    subst e
    exact .cons (PpSet.isB_shape h1) h4 h2 (BPs.of t fun e he => h e (List.mem_cons_of_mem _ he))
theorem kvB_inj : ∀ {es fs : List (Bool × V)} {vs : List (Bool × Value)}, KV es vs → KV fs vs → es = fs
  | _, _, _, .nil, .nil => rfl
  | _, _, _, .cons (a := p) h t, .cons (a := q) h' t' => by
    rw [kvB_inj t t']
    congr 1
    exact Prod.ext (h.1.trans h'.1.symm) (relV_inj h.2 h'.2)
theorem DictB.inj {o : Obj} {es fs : List (Bool × V)} (x : DictB o es) (y : DictB o fs) : es = fs := by
  obtain ⟨_, ents, ep, vs, e1, k1, h1, _⟩ := x
  obtain ⟨_, ents', ep', vs', e2, k2, h2, _⟩ := y
  rw [e1] at e2
  cases e2
  have := h1.inj h2
  subst this
  exact kvB_inj k1 k2
/-- an exception: its class, its dict -/
def exg (a C : Addr) (d : Option Addr) : HO := .ext fun h => ∃ (oe : Obj) (vs : Array Value), h.get? a = some oe ∧ oe.cls = .ref C ∧ oe.dict = d ∧ oe.data = .fields vs
inductive U where
  | non | bl (b : Bool) | int (i : Int) | str (s : Str)
  | tup (xs : List U) | lst (xs : List U)
  /-- a tuple whose object is known to have no dict of its own -/
  | tpd (xs : List U)
  /-- a locked list: the script, or one's own list while it is looked at -/
  | frl (xs : List U)
  | dic (kvs : List (Key × U))
  | dit (kvs : List (List Key × U))
  /-- a dict whose keys are truths -/
  | dib (kvs : List (Bool × U))
  /-- the empty tuple of a default -/
  | mt
  /-- an exception that the program has made: the class's tag, its fields -/
  | exc (C : Nat) (fs : List (Str × U))
  /-- an exception that is let out -/
  | rsd (C : Nat) (fs : List (Str × U))
  /-- an instance -/
  | obj (C : Nat) (fs : List (Str × U))
mutual
inductive Rp (B : Hp) : U → V → Prop
  | non : Rp B .non .non
  | bl (b : Bool) : Rp B (.bl b) (.bl b)
  | int (i : Int) : Rp B (.int i) (.int i)
  | str (s : Str) : Rp B (.str s) (.str s)
  | tup {a : Addr} {xs : List U} {vs : List V} : B a = some (.tup vs) → Rps B xs vs → Rp B (.tup xs) (.ref a)
  | tpd {a : Addr} {xs : List U} {vs : List V} {o : Obj} : B a = some (.frz o (.tup vs)) → o.dict = none → Rps B xs vs → Rp B (.tpd xs) (.ref a)
  | lst {a : Addr} {xs : List U} {vs : List V} : B a = some (.lst vs) → Rps B xs vs → Rp B (.lst xs) (.ref a)
  | frl {a : Addr} {xs : List U} {vs : List V} {o : Obj} : B a = some (.frz o (.lst vs)) → Rps B xs vs → Rp B (.frl xs) (.ref a)
  | dic {a : Addr} {kvs : List (Key × U)} {es : List (Key × V)} {o : Obj} : B a = some (.frz o (.dK es)) → Rpk B kvs es → Rp B (.dic kvs) (.ref a)
  | dit {a : Addr} {kvs : List (List Key × U)} {es : List (List Key × V)} {o : Obj} : B a = some (.frz o (.dT es)) → Rpt B kvs es → Rp B (.dit kvs) (.ref a)
  | dib {a : Addr} {kvs : List (Bool × U)} {es : List (Bool × V)} {o : Obj} : B a = some (.frz o (dB a es)) → DictB o es → Rpb B kvs es → Rp B (.dib kvs) (.ref a)
  | mt : Rp B .mt (.ref CTab.et)
  | exc0 {a : Addr} {C : Nat} : B a = some (exg a (CTab.ct C) none) → Rp B (.exc C []) (.ref a)
  | exc {a dx : Addr} {C : Nat} {fs : List (Str × U)} {es : List (Str × V)} : B a = some (exg a (CTab.ct C) (some dx)) → B dx = some (.xd es) → Rpf B fs es → Rp B (.exc C fs) (.ref a)
  | obj {a dx : Addr} {C : Nat} {fs : List (Str × U)} {es : List (Str × V)} : B a = some (.ins (CTab.ct C) dx es) → B dx = some (.own a) → Rpf B fs es → Rp B (.obj C fs) (.ref a)
inductive Rps (B : Hp) : List U → List V → Prop
  | nil : Rps B [] []
  | cons {x : U} {v : V} {xs : List U} {vs : List V} : Rp B x v → Rps B xs vs → Rps B (x :: xs) (v :: vs)
inductive Rpk (B : Hp) : List (Key × U) → List (Key × V) → Prop
  | nil : Rpk B [] []
  | cons {k : Key} {x : U} {v : V} {xs : List (Key × U)} {vs : List (Key × V)} : Rp B x v → Rpk B xs vs → Rpk B ((k, x) :: xs) ((k, v) :: vs)
inductive Rpt (B : Hp) : List (List Key × U) → List (List Key × V) → Prop
  | nil : Rpt B [] []
  | cons {k : List Key} {x : U} {v : V} {xs : List (List Key × U)} {vs : List (List Key × V)} : Rp B x v → Rpt B xs vs → Rpt B ((k, x) :: xs) ((k, v) :: vs)
inductive Rpb (B : Hp) : List (Bool × U) → List (Bool × V) → Prop
  | nil : Rpb B [] []
  | cons {k : Bool} {x : U} {v : V} {xs : List (Bool × U)} {vs : List (Bool × V)} : Rp B x v → Rpb B xs vs → Rpb B ((k, x) :: xs) ((k, v) :: vs)
inductive Rpf (B : Hp) : List (Str × U) → List (Str × V) → Prop
  | nil : Rpf B [] []
  | cons {k : Str} {x : U} {v : V} {xs : List (Str × U)} {vs : List (Str × V)} : Rp B x v → Rpf B xs vs → Rpf B ((k, x) :: xs) ((k, v) :: vs)
end
/-- what keeps the readings -/
structure Kp (B B' : Hp) : Prop where
  tup : ∀ a xs, B a = some (.tup xs) → B' a = some (.tup xs)
  lst : ∀ a xs, B a = some (.lst xs) → B' a = some (.lst xs)
  frz : ∀ a o u, B a = some (.frz o u) → B' a = some (.frz o u)
  ins : ∀ a C dx xs, B a = some (.ins C dx xs) → B' a = some (.ins C dx xs)
  own : ∀ a x, B a = some (.own x) → B' a = some (.own x)
  ext : ∀ a φ, B a = some (.ext φ) → B' a = some (.ext φ)
  xd : ∀ a fs, B a = some (.xd fs) → B' a = some (.xd fs)
theorem Kp.of {B B' : Hp} (s : Same B B') : Kp B B' := ⟨fun _ _ => s _ _, fun _ _ => s _ _, fun _ _ _ => s _ _, fun _ _ _ _ => s _ _, fun _ _ => s _ _, fun _ _ => s _ _, fun _ _ => s _ _⟩
section
variable {B B' : Hp}
mutual
theorem Rp.kp (s : Kp B B') : ∀ {u : U} {v : V}, Rp B u v → Rp B' u v
  | _, _, .non => .non
  | _, _, .bl b => .bl b
  | _, _, .int i => .int i
  | _, _, .str x => .str x
  | _, _, .tup h r => .tup (s.tup _ _ h) (Rps.kp s r)
  | _, _, .tpd h d r => .tpd (s.frz _ _ _ h) d (Rps.kp s r)
  | _, _, .lst h r => .lst (s.lst _ _ h) (Rps.kp s r)
  | _, _, .frl h r => .frl (s.frz _ _ _ h) (Rps.kp s r)
  | _, _, .dic h r => .dic (s.frz _ _ _ h) (Rpk.kp s r)
  | _, _, .dit h r => .dit (s.frz _ _ _ h) (Rpt.kp s r)
  | _, _, .dib h d r => .dib (s.frz _ _ _ h) d (Rpb.kp s r)
  | _, _, .mt => .mt
  | _, _, .exc0 h => .exc0 (s.ext _ _ h)
  | _, _, .exc h k r => .exc (s.ext _ _ h) (s.xd _ _ k) (Rpf.kp s r)
  | _, _, .obj h k r => .obj (s.ins _ _ _ _ h) (s.own _ _ k) (Rpf.kp s r)
theorem Rps.kp (s : Kp B B') : ∀ {u : List U} {v : List V}, Rps B u v → Rps B' u v
  | _, _, .nil => .nil
  | _, _, .cons h r => .cons (Rp.kp s h) (Rps.kp s r)
theorem Rpk.kp (s : Kp B B') : ∀ {u : List (Key × U)} {v : List (Key × V)}, Rpk B u v → Rpk B' u v
  | _, _, .nil => .nil
  | _, _, .cons h r => .cons (Rp.kp s h) (Rpk.kp s r)
theorem Rpt.kp (s : Kp B B') : ∀ {u : List (List Key × U)} {v : List (List Key × V)}, Rpt B u v → Rpt B' u v
  | _, _, .nil => .nil
  | _, _, .cons h r => .cons (Rp.kp s h) (Rpt.kp s r)
theorem Rpb.kp (s : Kp B B') : ∀ {u : List (Bool × U)} {v : List (Bool × V)}, Rpb B u v → Rpb B' u v
  | _, _, .nil => .nil
  | _, _, .cons h r => .cons (Rp.kp s h) (Rpb.kp s r)
theorem Rpf.kp (s : Kp B B') : ∀ {u : List (Str × U)} {v : List (Str × V)}, Rpf B u v → Rpf B' u v
  | _, _, .nil => .nil
  | _, _, .cons h r => .cons (Rp.kp s h) (Rpf.kp s r)
end
end
theorem Rp.upA {B B2 H2 : Hp} {u : U} {v : V} (r : Rp B u v) (g : At B B2 H2) : Rp B2 u v := r.kp (Kp.of g.b)
theorem Rp.up {B H B2 H2 : Hp} {u : U} {v : V} (r : Rp B u v) (g : Go B H B2 H2) : Rp B2 u v := r.kp (Kp.of g.b)
theorem Rps.up {B H B2 H2 : Hp} {u : List U} {v : List V} (r : Rps B u v) (g : Go B H B2 H2) : Rps B2 u v := r.kp (Kp.of g.b)
theorem Rp.in {B H : Hp} {u : U} {v : V} (r : Rp B u v) (s : Ok B H) : Rp H u v := r.kp (Kp.of s)
theorem Rps.in {B H : Hp} {u : List U} {v : List V} (r : Rps B u v) (s : Ok B H) : Rps H u v := r.kp (Kp.of s)
section
variable {B : Hp}
theorem Rps.length : ∀ {xs : List U} {vs : List V}, Rps B xs vs → vs.length = xs.length
  | _, _, .nil => rfl
  | _, _, .cons _ t => by rw [List.length_cons, List.length_cons, Rps.length t]
theorem Rps.get : ∀ {xs : List U} {vs : List V} {i : Nat} {x : U}, Rps B xs vs → xs[i]? = some x → ∃ v, vs[i]? = some v ∧ Rp B x v
  | _, _, _, _, .nil, e => by simp at e
  | _, _, 0, _, .cons h _, e => by simp at e; subst e; exact ⟨_, rfl, h⟩
  | _, _, i + 1, x, .cons _ t, e => by
    obtain ⟨v, h1, h2⟩ := Rps.get (i := i) (x := x) t (by simpa using e)
    exact ⟨v, by simpa using h1, h2⟩
theorem Rps.back : ∀ {xs : List U} {vs : List V} {i : Nat} {v : V}, Rps B xs vs → vs[i]? = some v → ∃ x, xs[i]? = some x ∧ Rp B x v
  | _, _, _, _, .nil, e => by simp at e
  | _, _, 0, _, .cons h _, e => by simp at e; subst e; exact ⟨_, rfl, h⟩
  | _, _, i + 1, v, .cons _ t, e => by
    obtain ⟨x, h1, h2⟩ := Rps.back (i := i) (v := v) t (by simpa using e)
    exact ⟨x, by simpa using h1, h2⟩
theorem Rps.append : ∀ {xs ys : List U} {vs ws : List V}, Rps B xs vs → Rps B ys ws → Rps B (xs ++ ys) (vs ++ ws)
  | _, _, _, _, .nil, s => s
  | _, _, _, _, .cons h t, s => .cons h (Rps.append t s)
theorem Rps.one {x : U} {v : V} (h : Rp B x v) : Rps B [x] [v] := .cons h .nil
theorem Rps.take : ∀ {xs : List U} {vs : List V} (n : Nat), Rps B xs vs → Rps B (xs.take n) (vs.take n)
  | _, _, 0, _ => by simp; exact .nil
  | _, _, _ + 1, .nil => .nil
  | _, _, n + 1, .cons h t => .cons h (Rps.take n t)
theorem Rps.drop : ∀ {xs : List U} {vs : List V} (n : Nat), Rps B xs vs → Rps B (xs.drop n) (vs.drop n)
  | _, _, 0, h => h
  | _, _, _ + 1, .nil => .nil
  | _, _, n + 1, .cons _ t => Rps.drop n t
theorem Rps.ints : ∀ (ns : List Int), Rps B (ns.map U.int) (ns.map V.int)
  | [] => .nil
  | n :: ns => .cons (.int n) (Rps.ints ns)
end
def EvO (te : TE) (σ : St) (B H : Hp) (o : Option U) : Prop :=
  ∀ z, o = some z → ∀ B1 H1, At B B1 H1 → ∀ Q : VK, (∀ v B2 H2, Go B1 H1 B2 H2 → Rp B2 z v → Q v H2) → te σ H1 Q
def EvT (tt : TT) (σ : St) (B H : Hp) (o : Option Bool) : Prop :=
  ∀ z, o = some z → ∀ B1 H1, At B B1 H1 → ∀ Q : Bool → Hp → Prop, (∀ B2 H2, Go B1 H1 B2 H2 → Q z H2) → tt σ H1 Q
def EvA (ta : TA) (σ : St) (B H : Hp) (o : Option (List U)) : Prop :=
  ∀ z, o = some z → ∀ B1 H1, At B B1 H1 → ∀ Q : List V → Hp → Prop, (∀ v B2 H2, Go B1 H1 B2 H2 → Rps B2 z v → Q v H2) → ta σ H1 Q
def U.asB : U → Option Bool
  | .bl b => some b
  | _ => none
def andO (a b : Option Bool) : Option Bool := a.bind fun x => if x = true then b else some false
def orO (a b : Option Bool) : Option Bool := a.bind fun x => if x = true then some true else b
def notO (a : Option Bool) : Option Bool := a.map fun x => !x
def andV (a b : Option U) : Option U := (a.bind U.asB).bind fun x => if x = true then b else some (.bl false)
def orV (a b : Option U) : Option U := (a.bind U.asB).bind fun x => if x = true then some (.bl true) else b
def notV (a : Option U) : Option U := (a.bind U.asB).map fun x => .bl (!x)
def ifO {α : Type} (c : Option Bool) (a b : Option α) : Option α := c.bind fun x => if x = true then a else b
def consO (a : Option U) (b : Option (List U)) : Option (List U) := a.bind fun x => b.map fun r => x :: r
section
variable {α β : Type}
theorem bind_some {o : Option α} {f : α → Option β} {z : β} (h : o.bind f = some z) : ∃ x, o = some x ∧ f x = some z := by
  cases o with
  | none => cases h
  | some x => exact ⟨x, rfl, h⟩
theorem map_some {o : Option α} {f : α → β} {z : β} (h : o.map f = some z) : ∃ x, o = some x ∧ f x = z := by
  cases o with
  | none => cases h
  | some x => exact ⟨x, rfl, Option.some.inj h⟩
end
section
variable {σ : St} {B H B1 H1 : Hp} {ta tb te tc : TE} {t u : TT} {oa ob oc : Option U}
theorem EvO.go {o : Option U} (h : EvO te σ B H o) (g : At B B1 H1) : EvO te σ B1 H1 o := fun z e B2 H2 g2 => h z e B2 H2 (g.tr g2)
theorem EvT.go {o : Option Bool} (h : EvT t σ B H o) (g : At B B1 H1) : EvT t σ B1 H1 o := fun z e B2 H2 g2 => h z e B2 H2 (g.tr g2)
theorem eo_var {x : U} {v : V} {i : Nat} (h : σ[i]? = some (some v)) (r : Rp B x v) : EvO (tVar i) σ B H (some x) := fun z e B1 H1 g Q q => ⟨v, h, by cases e; exact q v B1 H1 (Go.refl g.bh) (r.upA g)⟩
theorem eo_c {x : U} {v : V} (r : Rp B x v) : EvO (tC v) σ B H (some x) := fun z e B1 H1 g Q q => by cases e; exact q v B1 H1 (Go.refl g.bh) (r.upA g)
theorem eo_int {i : Int} : EvO (tC (.int i)) σ B H (some (.int i)) := eo_c (.int i)
theorem eo_bl {i : Bool} : EvO (tC (.bl i)) σ B H (some (.bl i)) := eo_c (.bl i)
theorem eo_str {i : Str} : EvO (tC (.str i)) σ B H (some (.str i)) := eo_c (.str i)
theorem eo_non : EvO (tC .non) σ B H (some .non) := eo_c .non
/-- an operation on two values -/
def RV (r : R2) (f : U → U → Option U) : Prop := ∀ x y z, f x y = some z → ∀ v w B H, Ok B H → Rp B x v → Rp B y w → ∀ Q : VK, (∀ v2 B2 H2, Go B H B2 H2 → Rp B2 z v2 → Q v2 H2) → r v w H Q
theorem eo_op {r : R2} {f : U → U → Option U} (ha : EvO ta σ B H oa) (hb : EvO tb σ B H ob) (hr : RV r f) : EvO (tOp r ta tb) σ B H (oa.bind fun x => ob.bind fun y => f x y) := fun z e B1 H1 g Q q => by
  obtain ⟨x, ex, e⟩ := bind_some e
  obtain ⟨y, ey, e⟩ := bind_some e
  exact ha x ex B1 H1 g _ fun v B2 H2 g2 r2 => hb y ey B2 H2 (g.trans g2) _ fun w B3 H3 g3 r3 => hr x y z e v w B3 H3 g3.bh (r2.up g3) r3 Q fun v2 B4 H4 g4 r4 => q v2 B4 H4 ((g2.trans g3).trans g4) r4
def RU (r : V → Hp → VK → Prop) (f : U → Option U) : Prop := ∀ x z, f x = some z → ∀ v B H, Ok B H → Rp B x v → ∀ Q : VK, (∀ v2 B2 H2, Go B H B2 H2 → Rp B2 z v2 → Q v2 H2) → r v H Q
theorem eo_un {r : V → Hp → VK → Prop} {f : U → Option U} (ha : EvO ta σ B H oa) (hr : RU r f) : EvO (tUn r ta) σ B H (oa.bind f) := fun z e B1 H1 g Q q => by
  obtain ⟨x, ex, e⟩ := bind_some e
  exact ha x ex B1 H1 g _ fun v B2 H2 g2 r2 => hr x z e v B2 H2 g2.bh r2 Q fun v2 B4 H4 g4 r4 => q v2 B4 H4 (g2.trans g4) r4
/-- a call by values -/
def RC (r : List V → Hp → VK → Prop) (f : List U → Option U) : Prop := ∀ xs z, f xs = some z → ∀ vs B H, Ok B H → Rps B xs vs → ∀ Q : VK, (∀ v2 B2 H2, Go B H B2 H2 → Rp B2 z v2 → Q v2 H2) → r vs H Q
theorem eo_cb {r : List V → Hp → VK → Prop} {f : List U → Option U} {tl : TA} {ol : Option (List U)} (ha : EvA tl σ B H ol) (hr : RC r f) : EvO (tCB r tl) σ B H (ol.bind f) := fun z e B1 H1 g Q q => by
  obtain ⟨x, ex, e⟩ := bind_some e
  exact ha x ex B1 H1 g _ fun v B2 H2 g2 r2 => hr x z e v B2 H2 g2.bh r2 Q fun v2 B4 H4 g4 r4 => q v2 B4 H4 (g2.trans g4) r4
theorem et_test (h : EvO te σ B H oa) : EvT (tTest te) σ B H (oa.bind U.asB) := fun z e B1 H1 g _ q => by
  obtain ⟨x, ex, e⟩ := bind_some e
  cases x <;> cases e
  exact h _ ex B1 H1 g _ fun v B2 H2 g2 r => by cases r; exact ⟨_, rfl, q B2 H2 g2⟩
theorem et_B (h : EvO te σ B H oa) : EvT (tB te) σ B H (oa.bind U.asB) := fun z e B1 H1 g _ q => by
  obtain ⟨x, ex, e⟩ := bind_some e
  cases x <;> cases e
  exact h _ ex B1 H1 g _ fun v B2 H2 g2 r => by cases r; exact ⟨_, rfl, q B2 H2 g2⟩
theorem et_and {a b : Option Bool} (h1 : EvT t σ B H a) (h2 : EvT u σ B H b) : EvT (tAnd t u) σ B H (andO a b) := fun z e B1 H1 g Q q => by
  obtain ⟨x, ex, e⟩ := bind_some e
  refine h1 x ex B1 H1 g _ fun B2 H2 g2 => ?_
  cases x with
  | true => exact h2 z e B2 H2 (g.trans g2) Q fun B3 H3 g3 => q B3 H3 (g2.trans g3)
  | false => cases e; exact q B2 H2 g2
theorem et_or {a b : Option Bool} (h1 : EvT t σ B H a) (h2 : EvT u σ B H b) : EvT (tOr t u) σ B H (orO a b) := fun z e B1 H1 g Q q => by
  obtain ⟨x, ex, e⟩ := bind_some e
  refine h1 x ex B1 H1 g _ fun B2 H2 g2 => ?_
  cases x with
  | false => exact h2 z e B2 H2 (g.trans g2) Q fun B3 H3 g3 => q B3 H3 (g2.trans g3)
  | true => cases e; exact q B2 H2 g2
theorem et_not {a : Option Bool} (h1 : EvT t σ B H a) : EvT (tNot t) σ B H (notO a) := fun z e B1 H1 g _ q => by
  obtain ⟨x, ex, e⟩ := map_some e
  subst e
  exact h1 x ex B1 H1 g _ fun B2 H2 g2 => q B2 H2 g2
theorem eo_and (h1 : EvO ta σ B H oa) (h2 : EvO tb σ B H ob) : EvO (tAndV ta tb) σ B H (andV oa ob) := fun z e B1 H1 g Q q => by
  obtain ⟨x, ex, e⟩ := bind_some e
  obtain ⟨y, ey, ex⟩ := bind_some ex
  cases y <;> cases ex
  refine h1 _ ey B1 H1 g _ fun v B2 H2 g2 r => ?_
  cases r
  refine ⟨x, rfl, ?_⟩
  cases x with
  | true => exact h2 z e B2 H2 (g.trans g2) Q fun w B3 H3 g3 r3 => q w B3 H3 (g2.trans g3) r3
  | false => cases e; exact q _ B2 H2 g2 (.bl false)
theorem eo_or (h1 : EvO ta σ B H oa) (h2 : EvO tb σ B H ob) : EvO (tOrV ta tb) σ B H (orV oa ob) := fun z e B1 H1 g Q q => by
  obtain ⟨x, ex, e⟩ := bind_some e
  obtain ⟨y, ey, ex⟩ := bind_some ex
  cases y <;> cases ex
  refine h1 _ ey B1 H1 g _ fun v B2 H2 g2 r => ?_
  cases r
  refine ⟨x, rfl, ?_⟩
  cases x with
  | false => exact h2 z e B2 H2 (g.trans g2) Q fun w B3 H3 g3 r3 => q w B3 H3 (g2.trans g3) r3
  | true => cases e; exact q _ B2 H2 g2 (.bl true)
theorem eo_if {c : Option Bool} (h : EvT t σ B H c) (h1 : EvO ta σ B H oa) (h2 : EvO tb σ B H ob) : EvO (tIf t ta tb) σ B H (ifO c oa ob) := fun z e B1 H1 g Q q => by
  obtain ⟨x, ex, e⟩ := bind_some e
  refine h x ex B1 H1 g _ fun B2 H2 g2 => ?_
  cases x with
  | true => exact h1 z e B2 H2 (g.trans g2) Q fun w B3 H3 g3 r3 => q w B3 H3 (g2.trans g3) r3
  | false => exact h2 z e B2 H2 (g.trans g2) Q fun w B3 H3 g3 r3 => q w B3 H3 (g2.trans g3) r3
theorem ea_nil : EvA tNil σ B H (some []) := fun z e B1 H1 g _ q => by cases e; exact q _ B1 H1 (Go.refl g.bh) .nil
theorem ea_cons {tr : TA} {ol : Option (List U)} (h : EvO ta σ B H oa) (hr : EvA tr σ B H ol) : EvA (tCons ta tr) σ B H (consO oa ol) := fun z e B1 H1 g _ q => by
  obtain ⟨x, ex, e⟩ := bind_some e
  obtain ⟨r, er, e⟩ := map_some e
  subst e
  exact h x ex B1 H1 g _ fun v B2 H2 g2 r2 => hr r er B2 H2 (g.trans g2) _ fun vs B3 H3 g3 r3 => q _ B3 H3 (g2.trans g3) (.cons (r2.up g3) r3)
/-- a length that every list of the text keeps below -/
def lim : Nat := 100000
def tupO (o : Option (List U)) : Option U := o.bind fun xs => if xs.length ≤ lim then some (.tup xs) else none
def lstO (o : Option (List U)) : Option U := o.bind fun xs => if xs.length ≤ lim then some (.lst xs) else none
theorem lim_size {n : Nat} (h : n ≤ lim) : n ≤ sizeLine := Nat.le_trans h (by decide)
theorem lim_lt {n : Nat} (h : n ≤ lim) : n < sizeLine := Nat.lt_of_le_of_lt h (by decide)
theorem Rps.new {xs : List U} {vs : List V} (r : Rps B xs vs) (s : Ok B H) {p : Addr} {o : HO} (hp : H p = none) : Rps (upd B p o) xs vs := r.kp (Kp.of fun b u e => by rw [upd_ne (ne_of_none (s b u e) hp)]; exact e)
theorem eo_tup {tl : TA} {ol : Option (List U)} (h : EvA tl σ B H ol) : EvO (tTup tl) σ B H (tupO ol) := fun z e B1 H1 g Q q => by
  obtain ⟨x, ex, e⟩ := bind_some e
  split at e
  · rename_i hl
    cases e
    exact h x ex B1 H1 g _ fun vs B2 H2 g2 r => ⟨by rw [r.length]; exact lim_size hl, fun p hp => q _ _ _ (g2.trans (Go.new g2.bh hp)) (.tup upd_same (r.new g2.bh hp))⟩
  · cases e
theorem eo_lst {tl : TA} {ol : Option (List U)} (h : EvA tl σ B H ol) : EvO (tLst tl) σ B H (lstO ol) := fun z e B1 H1 g Q q => by
  obtain ⟨x, ex, e⟩ := bind_some e
  split at e
  · rename_i hl
    cases e
    exact h x ex B1 H1 g _ fun vs B2 H2 g2 r => ⟨by rw [r.length]; exact lim_size hl, fun p hp => q _ _ _ (g2.trans (Go.new g2.bh hp)) (.lst upd_same (r.new g2.bh hp))⟩
  · cases e
end
def spU (m : List U → Option U) : Sp := fun vs H Q _ => ∃ B xs r, Ok B H ∧ Rps B xs vs ∧ m xs = some r ∧ ∀ v B2 H2, Go B H B2 H2 → Rp B2 r v → Q v H2
theorem eo_call {σ : St} {B H : Hp} {tl : TA} {ol : Option (List U)} {m : List U → Option U} {E : XK} (h : EvA tl σ B H ol) : EvO (tCall (spU m) [] E tl) σ B H (ol.bind m) := fun z e B1 H1 g Q q => by
  obtain ⟨x, ex, e⟩ := bind_some e
  refine h x ex B1 H1 g _ fun vs B2 H2 g2 r => ?_
  show spU m (vs ++ []) H2 Q E
  rw [List.append_nil]
  exact ⟨B2, x, z, g2.bh, r, e, fun v B3 H3 g3 r3 => q v B3 H3 (g2.trans g3) r3⟩
end Dn
set_option Elab.async false
set_option linter.all false
set_option maxRecDepth 100000
set_option maxHeartbeats 2000000
namespace Dn
open PySem L2
variable [CTab]
def U.plain : U → Bool
  | .non | .bl _ | .int _ | .str _ | .tup _ | .lst _ => true
  | _ => false
def eqK : U → U → Option Bool
  | .non, .non => some true
  | .bl a, .bl b => some (a == b)
  | .bl a, .int b => some ((if a then 1 else 0) == b)
  | .int a, .bl b => some (a == (if b then 1 else 0))
  | .int a, .int b => some (a == b)
  | .str a, .str b => some (a == b)
  | .tup _, .tup _ => none
  | .lst _, .lst _ => none
  | x, y => if (x.plain && y.plain) = true then some false else none
def allO (f : U → U → Option Bool) : List U → List U → Option Bool
  | x :: xs, y :: ys => (f x y).bind fun a => (allO f xs ys).map fun b => a && b
  | _, _ => some true
def eqO : Nat → U → U → Option Bool
  | 0, _, _ => none
  | n + 1, .tup xs, .tup ys => (allO (eqO n) xs ys).map fun b => b && (xs.length == ys.length)
  | n + 1, .lst xs, .lst ys => if xs.length = ys.length then allO (eqO n) xs ys else some false
  | n + 1, .frl xs, .lst ys => if xs.length = ys.length then allO (eqO n) xs ys else some false
  | n + 1, .lst xs, .frl ys => if xs.length = ys.length then allO (eqO n) xs ys else some false
  | _ + 1, x, y => eqK x y
def nth (f : U → U → Option Bool) (xs ys : List U) (j : Nat) : Bool := ((xs[j]?.bind fun x => ys[j]?.bind fun y => f x y).getD true)
theorem allO_nth {f : U → U → Option Bool} : ∀ {xs ys : List U} {b : Bool}, allO f xs ys = some b →
    (∀ (j : Nat) x y, xs[j]? = some x → ys[j]? = some y → f x y = some (nth f xs ys j)) ∧ (List.range (min xs.length ys.length)).all (nth f xs ys) = b
  | [], ys, b, h => by
    cases h
    exact ⟨fun j x y e => by simp at e, by simp⟩
  | x :: xs, [], b, h => by
    cases h
    exact ⟨fun j x y e e2 => by simp at e2, by simp⟩
  | x :: xs, y :: ys, b, h => by
    obtain ⟨a, ea, h⟩ := bind_some h
    obtain ⟨c, ec, h⟩ := map_some h
    obtain ⟨i1, i2⟩ := allO_nth ec
    refine ⟨fun j x' y' e1 e2 => ?_, ?_⟩
    · cases j with
      | zero =>
        simp at e1 e2
        subst e1 e2
        simp [nth, ea]
      | succ j =>
        have := i1 j x' y' (by simpa using e1) (by simpa using e2)
        simpa [nth] using this
    · rw [List.length_cons, List.length_cons, Nat.succ_min_succ, List.range_succ_eq_map, List.all_cons, List.all_map, ← h, ← i2]
      have e0 : nth f (x :: xs) (y :: ys) 0 = a := by simp [nth, ea]
      rw [e0]
      have e1 : (nth f (x :: xs) (y :: ys) ∘ Nat.succ) = nth f xs ys := by
        funext j
        simp [nth]
      rw [e1]
section
variable {B : Hp}
theorem allO_id {n : Nat} (ih : ∀ {x y : U} {v : V} {b : Bool}, Rp B x v → Rp B y v → eqO n x y = some b → b = true) : ∀ {xs ys : List U} {vs : List V} {b : Bool}, Rps B xs vs → Rps B ys vs → allO (eqO n) xs ys = some b → b = true
  | _, _, _, b, .nil, .nil, h => by cases h; rfl
  | _, _, _, b, .cons r t, .cons r' t', h => by
    obtain ⟨a, ea, h⟩ := bind_some h
    obtain ⟨c, ec, h⟩ := map_some h
    rw [← h, ih r r' ea, allO_id ih t t' ec]
    rfl
theorem len_id : ∀ {xs ys : List U} {vs : List V}, Rps B xs vs → Rps B ys vs → xs.length = ys.length
  | _, _, _, .nil, .nil => rfl
  | _, _, _, .cons _ t, .cons _ t' => by rw [List.length_cons, List.length_cons, len_id t t']
theorem eq_id : ∀ (n : Nat) {x y : U} {v : V} {b : Bool}, Rp B x v → Rp B y v → eqO n x y = some b → b = true
  | 0, _, _, _, _, _, _, h => by cases h
  | n + 1, _, _, _, b, rx, ry, h => by
    cases rx with
    | non => cases ry; cases h; rfl
    | bl a => cases ry; have h : some (a == a) = some b := h; rw [← Option.some.inj h]; simp
    | int a => cases ry; have h : some (a == a) = some b := h; rw [← Option.some.inj h]; simp
    | str a => cases ry; have h : some (a == a) = some b := h; rw [← Option.some.inj h]; simp
    | @tup a xs vs e r =>
      cases ry with
      | @tup _ ys _ e' r' =>
        rw [e] at e'
        cases e'
        have h : (allO (eqO n) xs ys).map (fun b => b && (xs.length == ys.length)) = some b := h
        obtain ⟨c, ec, h⟩ := map_some h
        rw [← h, allO_id (fun r r' h => eq_id n r r' h) r r' ec, len_id r r']
        simp
      | lst e' r' => rw [e] at e'; cases e'
      | frl e' _ => rw [e] at e'; cases e'
      | dic e' r' => rw [e] at e'; cases e'
      | dit e' r' => rw [e] at e'; cases e'
      | tpd e' _ r' => rw [e] at e'; cases e'
      | dib e' _ r' => rw [e] at e'; cases e'
      | obj e' _ r' => rw [e] at e'; cases e'
      | mt => cases h
      | exc0 _ => cases h
      | exc _ _ _ => cases h
    | @lst a xs vs e r =>
      cases ry with
      | tup e' r' => rw [e] at e'; cases e'
      | @lst _ ys _ e' r' =>
        rw [e] at e'
        cases e'
        have h : (if xs.length = ys.length then allO (eqO n) xs ys else some false) = some b := h
        rw [if_pos (len_id r r')] at h
        exact allO_id (fun r r' h => eq_id n r r' h) r r' h
      | frl e' _ => rw [e] at e'; cases e'
      | dic e' r' => rw [e] at e'; cases e'
      | dit e' r' => rw [e] at e'; cases e'
      | tpd e' _ r' => rw [e] at e'; cases e'
      | dib e' _ r' => rw [e] at e'; cases e'
      | obj e' _ r' => rw [e] at e'; cases e'
      | mt => cases h
      | exc0 _ => cases h
      | exc _ _ _ => cases h
    | @frl a xs vs o e r =>
      cases ry with
      | lst e' r' => rw [e] at e'; cases e'
      | _ => cases h
    | dic _ _ => cases ry <;> cases h
    | dit _ _ => cases ry <;> cases h
    | tpd _ _ _ => cases ry <;> cases h
    | dib _ _ _ => cases ry <;> cases h
    | obj _ _ _ => cases ry <;> cases h
    | mt => cases ry <;> cases h
    | exc0 _ => cases ry <;> cases h
    | exc _ _ _ => cases ry <;> cases h
theorem allO_two {n : Nat} (ih : ∀ {x y z : U} {v : V} {b c : Bool}, Rp B x v → Rp B y v → eqO n x z = some b → eqO n y z = some c → b = c) : ∀ {xs ys zs : List U} {vs : List V} {b c : Bool}, Rps B xs vs → Rps B ys vs → allO (eqO n) xs zs = some b → allO (eqO n) ys zs = some c → b = c
  | _, _, zs, _, b, c, .nil, .nil, h, h' => by rw [h] at h'; exact Option.some.inj h'
  | _, _, [], _, b, c, .cons r t, .cons r' t', h, h' => by cases h; cases h'; rfl
  | _, _, z :: zs, _, b, c, .cons r t, .cons r' t', h, h' => by
    obtain ⟨a, ea, h⟩ := bind_some h
    obtain ⟨d, ed, h⟩ := map_some h
    obtain ⟨a', ea', h'⟩ := bind_some h'
    obtain ⟨d', ed', h'⟩ := map_some h'
    rw [← h, ← h', ih r r' ea ea', allO_two ih t t' ed ed']
theorem eq_two : ∀ (n : Nat) {x y z : U} {v : V} {b c : Bool}, Rp B x v → Rp B y v → eqO n x z = some b → eqO n y z = some c → b = c
  | 0, _, _, _, _, _, _, _, _, h, _ => by cases h
  | n + 1, _, _, z, _, b, c, rx, ry, h, h' => by
    cases rx with
    | non => cases ry; rw [h] at h'; exact Option.some.inj h'
    | bl a => cases ry; rw [h] at h'; exact Option.some.inj h'
    | int a => cases ry; rw [h] at h'; exact Option.some.inj h'
    | str a => cases ry; rw [h] at h'; exact Option.some.inj h'
    | @tup a xs vs e r =>
      cases ry with
      | @tup _ ys _ e' r' =>
        rw [e] at e'
        cases e'
        cases z with
        | tup zs =>
          obtain ⟨d, ed, h⟩ := map_some (show (allO (eqO n) xs zs).map (fun b => b && (xs.length == zs.length)) = some b from h)
          obtain ⟨d', ed', h'⟩ := map_some (show (allO (eqO n) ys zs).map (fun b => b && (ys.length == zs.length)) = some c from h')
          rw [← h, ← h', allO_two (fun r r' h h' => eq_two n r r' h h') r r' ed ed', len_id r r']
        | _ => first | (cases h; done) | exact Option.some.inj (h.symm.trans h')
      | lst e' r' => rw [e] at e'; cases e'
      | frl e' _ => rw [e] at e'; cases e'
      | dic e' r' => rw [e] at e'; cases e'
      | dit e' r' => rw [e] at e'; cases e'
      | tpd e' _ r' => rw [e] at e'; cases e'
      | dib e' _ r' => rw [e] at e'; cases e'
      | obj e' _ r' => rw [e] at e'; cases e'
      | mt => cases z <;> cases h'
      | exc0 _ => cases z <;> cases h'
      | exc _ _ _ => cases z <;> cases h'
    | @lst a xs vs e r =>
      cases ry with
      | tup e' r' => rw [e] at e'; cases e'
      | @lst _ ys _ e' r' =>
        rw [e] at e'
        cases e'
        have ln := len_id r r'
        have fin : ∀ zs : List U, (if xs.length = zs.length then allO (eqO n) xs zs else some false) = some b → (if ys.length = zs.length then allO (eqO n) ys zs else some false) = some c → b = c := fun zs h h' => by
          rw [← ln] at h'
          by_cases hz : xs.length = zs.length
          · rw [if_pos hz] at h h'
            exact allO_two (fun r r' h h' => eq_two n r r' h h') r r' h h'
          · rw [if_neg hz] at h h'
            cases h; cases h'; rfl
        cases z with
        | lst zs => exact fin zs h h'
        | frl zs => exact fin zs h h'
        | _ => first | (cases h; done) | exact Option.some.inj (h.symm.trans h')
      | frl e' _ => rw [e] at e'; cases e'
      | dic e' r' => rw [e] at e'; cases e'
      | dit e' r' => rw [e] at e'; cases e'
      | tpd e' _ r' => rw [e] at e'; cases e'
      | dib e' _ r' => rw [e] at e'; cases e'
      | obj e' _ r' => rw [e] at e'; cases e'
      | mt => cases z <;> cases h'
      | exc0 _ => cases z <;> cases h'
      | exc _ _ _ => cases z <;> cases h'
    | @frl a xs vs o e r =>
      cases ry with
      | tup e' r' => rw [e] at e'; cases e'
      | lst e' r' => rw [e] at e'; cases e'
      | @frl _ ys _ o' e' r' =>
        rw [e] at e'
        cases e'
        cases z with
        | lst zs =>
          have ln := len_id r r'
          have h : (if xs.length = zs.length then allO (eqO n) xs zs else some false) = some b := h
          have h' : (if ys.length = zs.length then allO (eqO n) ys zs else some false) = some c := h'
          rw [← ln] at h'
          by_cases hz : xs.length = zs.length
          · rw [if_pos hz] at h h'
            exact allO_two (fun r r' h h' => eq_two n r r' h h') r r' h h'
          · rw [if_neg hz] at h h'
            cases h; cases h'; rfl
        | _ => cases h
      | dic e' r' => cases z <;> cases h'
      | dit e' r' => cases z <;> cases h'
      | tpd e' _ r' => cases z <;> cases h'
      | dib e' _ r' => cases z <;> cases h'
      | obj e' _ r' => cases z <;> cases h'
      | mt => cases z <;> cases h'
      | exc0 _ => cases z <;> cases h'
      | exc _ _ _ => cases z <;> cases h'
    | dic _ _ => cases z <;> cases h
    | dit _ _ => cases z <;> cases h
    | tpd _ _ _ => cases z <;> cases h
    | dib _ _ _ => cases z <;> cases h
    | obj _ _ _ => cases z <;> cases h
    | mt => cases z <;> cases h
    | exc0 _ => cases z <;> cases h
    | exc _ _ _ => cases z <;> cases h
end
section
variable {X : Cx} {pins : List (Addr × Obj)} {σ : St} {H : Hp} {s : Shared}
theorem lst_heapQ (I : Inv X pins σ H s) {xs : List U} {a : Addr} {vs : List V} (h : SqL X.K H a vs) (r : Rps H xs vs) : ∃ its : List Value, s.heap.IsList a its.toArray ∧ its.length = xs.length ∧ ∀ (j : Nat) (hj : j < its.length), ∃ x v, xs[j]? = some x ∧ Rp H x v ∧ RelV v its[j] := by
  obtain ⟨its, rv, pl, _⟩ := I.list h
  refine ⟨its, pl.isList, by rw [← rv.length, r.length], fun j hj => ?_⟩
  have hj' : j < vs.length := by rw [rv.length]; exact hj
  obtain ⟨x, ex, rx⟩ := r.back (List.getElem?_eq_getElem hj')
  obtain ⟨u, eu, ru⟩ := rv.get (List.getElem?_eq_getElem hj')
  rw [List.getElem?_eq_getElem hj] at eu
  cases eu
  exact ⟨x, _, ex, rx, ru⟩
theorem lst_heap (I : Inv X pins σ H s) {xs : List U} {a : Addr} {vs : List V} (h : H a = some (.lst vs)) (r : Rps H xs vs) : ∃ its : List Value, s.heap.IsList a its.toArray ∧ its.length = xs.length ∧ ∀ (j : Nat) (hj : j < its.length), ∃ x v, xs[j]? = some x ∧ Rp H x v ∧ RelV v its[j] := lst_heapQ I (SqL.of h) r
theorem tup_heap (I : Inv X pins σ H s) {xs : List U} {a : Addr} {vs : List V} (h : H a = some (.tup vs)) (r : Rps H xs vs) : ∃ its : List Value, s.heap.IsTuple a its.toArray ∧ its.length = xs.length ∧ ∀ (j : Nat) (hj : j < its.length), ∃ x v, xs[j]? = some x ∧ Rp H x v ∧ RelV v its[j] := by
  obtain ⟨its, rv, pl, _⟩ := I.tuple (SqT.of h)
  refine ⟨its, pl, by rw [← rv.length, r.length], fun j hj => ?_⟩
  have hj' : j < vs.length := by rw [rv.length]; exact hj
  obtain ⟨x, ex, rx⟩ := r.back (List.getElem?_eq_getElem hj')
  obtain ⟨u, eu, ru⟩ := rv.get (List.getElem?_eq_getElem hj')
  rw [List.getElem?_eq_getElem hj] at eu
  cases eu
  exact ⟨x, _, ex, rx, ru⟩
open PySem.SeqAt
theorem eqK_rc (I : Inv X pins σ H s) {A : Around} {x y : U} {b : Bool} {v w : V} {p q : Value} (h : eqK x y = some b) (rx : Rp H x v) (ry : Rp H y w) (rv : RelV v p) (rw' : RelV w q) (hu : A.units < cLine) : RcAt A s p q b := by
  cases rx with
  | non =>
    cases rv
    cases ry with
    | non => cases rw'; cases h; exact RcAt.none_none
    | bl y => cases rw'; cases h; exact RcAt.none_bool y
    | int y => obtain ⟨t, rfl⟩ := rw'; cases h; exact RcAt.none_int y t
    | str y => obtain ⟨t, rfl⟩ := rw'; cases h; exact RcAt.none_str y t
    | lst e r => cases rw'; cases h; obtain ⟨its, hl, _⟩ := lst_heap I e r; exact RcAt.none_list hl hu
    | tup e r => cases rw'; cases h; obtain ⟨its, hl, _⟩ := tup_heap I e r; exact RcAt.none_tuple hl hu
    | _ => cases h
  | bl x =>
    cases rv
    cases ry with
    | non => cases rw'; cases h; exact RcAt.bool_none x
    | bl y => cases rw'; cases h; exact RcAt.bool_bool x y
    | int y => obtain ⟨t, rfl⟩ := rw'; cases h; exact RcAt.bool_int x y t
    | str y => obtain ⟨t, rfl⟩ := rw'; cases h; exact RcAt.bool_str x y t
    | lst e r => cases rw'; cases h; obtain ⟨its, hl, _⟩ := lst_heap I e r; exact RcAt.bool_list x hl hu
    | tup e r => cases rw'; cases h; obtain ⟨its, hl, _⟩ := tup_heap I e r; exact RcAt.bool_tuple x hl hu
    | _ => cases h
  | int x =>
    obtain ⟨t0, rfl⟩ := rv
    cases ry with
    | non => cases rw'; cases h; exact RcAt.int_none x t0
    | bl y => cases rw'; cases h; exact RcAt.int_bool x t0 y
    | int y => obtain ⟨t, rfl⟩ := rw'; cases h; exact RcAt.int_int x t0 y t
    | str y => obtain ⟨t, rfl⟩ := rw'; cases h; exact RcAt.int_str x t0 y t
    | lst e r => cases rw'; cases h; obtain ⟨its, hl, _⟩ := lst_heap I e r; exact RcAt.int_list x t0 hl hu
    | tup e r => cases rw'; cases h; obtain ⟨its, hl, _⟩ := tup_heap I e r; exact RcAt.int_tuple x t0 hl hu
    | _ => cases h
  | str x =>
    obtain ⟨t0, rfl⟩ := rv
    cases ry with
    | non => cases rw'; cases h; exact RcAt.str_none x t0
    | bl y => cases rw'; cases h; exact RcAt.str_bool x t0 y
    | int y => obtain ⟨t, rfl⟩ := rw'; cases h; exact RcAt.str_int x t0 y t
    | str y => obtain ⟨t, rfl⟩ := rw'; cases h; exact RcAt.str_str x t0 y t
    | lst e r => cases rw'; cases h; obtain ⟨its, hl, _⟩ := lst_heap I e r; exact RcAt.str_list x t0 hl hu
    | tup e r => cases rw'; cases h; obtain ⟨its, hl, _⟩ := tup_heap I e r; exact RcAt.str_tuple x t0 hl hu
    | _ => cases h
  | lst e0 r0 =>
    cases rv
    obtain ⟨its0, hl0, _⟩ := lst_heap I e0 r0
    cases ry with
    | non => cases rw'; cases h; exact RcAt.list_none hl0 hu
    | bl y => cases rw'; cases h; exact RcAt.list_bool y hl0 hu
    | int y => obtain ⟨t, rfl⟩ := rw'; cases h; exact RcAt.list_int y t hl0 hu
    | str y => obtain ⟨t, rfl⟩ := rw'; cases h; exact RcAt.list_str y t hl0 hu
    | tup e r => cases rw'; cases h; obtain ⟨its, hl, _⟩ := tup_heap I e r; exact RcAt.list_tuple hl0 hl hu
    | _ => cases h
  | tup e0 r0 =>
    cases rv
    obtain ⟨its0, hl0, _⟩ := tup_heap I e0 r0
    cases ry with
    | non => cases rw'; cases h; exact RcAt.tuple_none hl0 hu
    | bl y => cases rw'; cases h; exact RcAt.tuple_bool y hl0 hu
    | int y => obtain ⟨t, rfl⟩ := rw'; cases h; exact RcAt.tuple_int y t hl0 hu
    | str y => obtain ⟨t, rfl⟩ := rw'; cases h; exact RcAt.tuple_str y t hl0 hu
    | lst e r => cases rw'; cases h; obtain ⟨its, hl, _⟩ := lst_heap I e r; exact RcAt.tuple_list hl0 hl hu
    | _ => cases h
  | frl _ _ => cases ry <;> cases h
  | dic _ _ => cases ry <;> cases h
  | dit _ _ => cases ry <;> cases h
  | tpd _ _ _ => cases ry <;> cases h
  | dib _ _ _ => cases ry <;> cases h
  | mt => cases ry <;> cases h
  | exc0 _ => cases ry <;> cases h
  | exc _ _ _ => cases ry <;> cases h
  | obj _ _ _ => cases ry <;> cases h
theorem eqK_ne (I : Inv X pins σ H s) {A : Around} {x y : U} {b : Bool} {v w : V} {p q : Value} (h : eqK x y = some b) (rx : Rp H x v) (ry : Rp H y w) (rv : RelV v p) (rw' : RelV w q) (hu : A.units < cLine) : RcNeAt A s p q (!b) := by
  cases rx with
  | non =>
    cases rv
    cases ry with
    | non => cases rw'; cases h; exact RcNeAt.none_none
    | bl y => cases rw'; cases h; exact RcNeAt.none_bool y
    | int y => obtain ⟨t, rfl⟩ := rw'; cases h; exact RcNeAt.none_int y t
    | str y => obtain ⟨t, rfl⟩ := rw'; cases h; exact RcNeAt.none_str y t
    | lst e r => cases rw'; cases h; obtain ⟨its, hl, _⟩ := lst_heap I e r; exact RcNeAt.none_list hl hu
    | tup e r => cases rw'; cases h; obtain ⟨its, hl, _⟩ := tup_heap I e r; exact RcNeAt.none_tuple hl hu
    | _ => cases h
  | bl x =>
    cases rv
    cases ry with
    | non => cases rw'; cases h; exact RcNeAt.bool_none x
    | bl y => cases rw'; cases h; exact RcNeAt.bool_bool x y
    | int y => obtain ⟨t, rfl⟩ := rw'; cases h; exact RcNeAt.bool_int x y t
    | str y => obtain ⟨t, rfl⟩ := rw'; cases h; exact RcNeAt.bool_str x y t
    | lst e r => cases rw'; cases h; obtain ⟨its, hl, _⟩ := lst_heap I e r; exact RcNeAt.bool_list x hl hu
    | tup e r => cases rw'; cases h; obtain ⟨its, hl, _⟩ := tup_heap I e r; exact RcNeAt.bool_tuple x hl hu
    | _ => cases h
  | int x =>
    obtain ⟨t0, rfl⟩ := rv
    cases ry with
    | non => cases rw'; cases h; exact RcNeAt.int_none x t0
    | bl y => cases rw'; cases h; exact RcNeAt.int_bool x t0 y
    | int y => obtain ⟨t, rfl⟩ := rw'; cases h; exact RcNeAt.int_int x t0 y t
    | str y => obtain ⟨t, rfl⟩ := rw'; cases h; exact RcNeAt.int_str x t0 y t
    | lst e r => cases rw'; cases h; obtain ⟨its, hl, _⟩ := lst_heap I e r; exact RcNeAt.int_list x t0 hl hu
    | tup e r => cases rw'; cases h; obtain ⟨its, hl, _⟩ := tup_heap I e r; exact RcNeAt.int_tuple x t0 hl hu
    | _ => cases h
  | str x =>
    obtain ⟨t0, rfl⟩ := rv
    cases ry with
    | non => cases rw'; cases h; exact RcNeAt.str_none x t0
    | bl y => cases rw'; cases h; exact RcNeAt.str_bool x t0 y
    | int y => obtain ⟨t, rfl⟩ := rw'; cases h; exact RcNeAt.str_int x t0 y t
    | str y => obtain ⟨t, rfl⟩ := rw'; cases h; exact RcNeAt.str_str x t0 y t
    | lst e r => cases rw'; cases h; obtain ⟨its, hl, _⟩ := lst_heap I e r; exact RcNeAt.str_list x t0 hl hu
    | tup e r => cases rw'; cases h; obtain ⟨its, hl, _⟩ := tup_heap I e r; exact RcNeAt.str_tuple x t0 hl hu
    | _ => cases h
  | lst e0 r0 =>
    cases rv
    obtain ⟨its0, hl0, _⟩ := lst_heap I e0 r0
    cases ry with
    | non => cases rw'; cases h; exact RcNeAt.list_none hl0 hu
    | bl y => cases rw'; cases h; exact RcNeAt.list_bool y hl0 hu
    | int y => obtain ⟨t, rfl⟩ := rw'; cases h; exact RcNeAt.list_int y t hl0 hu
    | str y => obtain ⟨t, rfl⟩ := rw'; cases h; exact RcNeAt.list_str y t hl0 hu
    | tup e r => cases rw'; cases h; obtain ⟨its, hl, _⟩ := tup_heap I e r; exact RcNeAt.list_tuple hl0 hl hu
    | _ => cases h
  | tup e0 r0 =>
    cases rv
    obtain ⟨its0, hl0, _⟩ := tup_heap I e0 r0
    cases ry with
    | non => cases rw'; cases h; exact RcNeAt.tuple_none hl0 hu
    | bl y => cases rw'; cases h; exact RcNeAt.tuple_bool y hl0 hu
    | int y => obtain ⟨t, rfl⟩ := rw'; cases h; exact RcNeAt.tuple_int y t hl0 hu
    | str y => obtain ⟨t, rfl⟩ := rw'; cases h; exact RcNeAt.tuple_str y t hl0 hu
    | lst e r => cases rw'; cases h; obtain ⟨its, hl, _⟩ := lst_heap I e r; exact RcNeAt.tuple_list hl0 hl hu
    | _ => cases h
  | frl _ _ => cases ry <;> cases h
  | dic _ _ => cases ry <;> cases h
  | dit _ _ => cases ry <;> cases h
  | tpd _ _ _ => cases ry <;> cases h
  | dib _ _ _ => cases ry <;> cases h
  | mt => cases ry <;> cases h
  | exc0 _ => cases ry <;> cases h
  | exc _ _ _ => cases ry <;> cases h
  | obj _ _ _ => cases ry <;> cases h
end
end Dn
set_option Elab.async false
set_option linter.all false
set_option maxRecDepth 100000
set_option maxHeartbeats 2000000
namespace Dn
open PySem L2 PySem.SeqAt
variable [CTab]
section
variable {X : Cx} {pins : List (Addr × Obj)} {σ : St} {H : Hp} {s : Shared}
theorem eq_at {A : Around} {n : Nat} {x y : U} {b : Bool} {v w : V} {p q : Value} (h : eqO n x y = some b) (rx : Rp H x v) (ry : Rp H y w) (rv : RelV v p) (rw' : RelV w q) (rc : RcAt A s p q b) : EqAt A s p q b := by
  by_cases e : p = q
  · subst e
    have e1 : v = w := rv.inj rw'
    subst e1
    rw [eq_id n rx ry h]
    exact EqAt.same _
  · have shape : ∀ {u : U} {v : V} {p : Value}, Rp H u v → RelV v p → p = .none ∨ (∃ b, p = .bool b) ∨ (∃ i t, p = .int i t) ∨ (∃ i t, p = .str i t) ∨ ∃ a, p = .ref a := fun {u v p} r rv => by
      cases r with
      | non => exact .inl rv
      | bl b => exact .inr (.inl ⟨_, rv⟩)
      | int i => exact .inr (.inr (.inl ⟨_, rv⟩))
      | str i => exact .inr (.inr (.inr (.inl ⟨_, rv⟩)))
      | _ => exact .inr (.inr (.inr (.inr ⟨_, rv⟩)))
    intro prog w E Q hq
    unfold eqBool
    refine wpAny_holding ?_
    refine wpAny_ite_split (fun hab => absurd (eq_of_beq hab) e) (fun _ => ?_)
    rcases shape rx rv with rfl | ⟨_, rfl⟩ | ⟨_, _, rfl⟩ | ⟨_, _, rfl⟩ | ⟨_, rfl⟩ <;> exact wpAny_bind (rc prog w E _ (wpAny_truthy_bool hq))
theorem eq_lists (I : Inv X pins σ H s) {n : Nat} {A : Around} {xs ys : List U} {b : Bool} {a a' : Addr} {vs ws : List V} (hu0 : A.units < cLine)
    (ih : ∀ {x y : U} {b : Bool} {v w : V} {p q : Value}, eqO n x y = some b → Rp H x v → Rp H y w → RelV v p → RelV w q → RcAt A.in1 s p q b)
    (e : SqL X.K H a vs) (r : Rps H xs vs) (e' : SqL X.K H a' ws) (r' : Rps H ys ws) (h : (if xs.length = ys.length then allO (eqO n) xs ys else some false) = some b) : RcAt A s (.ref a) (.ref a') b ∧ RcNeAt A s (.ref a) (.ref a') (!b) := by
  obtain ⟨its, hl, hn, hi⟩ := lst_heapQ I e r
  obtain ⟨its', hl', hn', hi'⟩ := lst_heapQ I e' r'
  by_cases hz : xs.length = ys.length
  · rw [if_pos hz] at h
    obtain ⟨n1, n2⟩ := allO_nth h
    have he : ∀ j (h1 : j < its.toArray.size) (h2 : j < its'.toArray.size), EqAt A.in1 s its.toArray[j] its'.toArray[j] (nth (eqO n) xs ys j) := fun j h1 h2 => by
      obtain ⟨x1, v1, e1, r1, rv1⟩ := hi j (by simpa using h1)
      obtain ⟨x2, v2, e2, r2, rv2⟩ := hi' j (by simpa using h2)
      have := eq_at (n1 j x1 x2 e1 e2) r1 r2 rv1 rv2 (ih (n1 j x1 x2 e1 e2) r1 r2 rv1 rv2)
      simpa using this
    have eb : (List.range its.toArray.size).all (nth (eqO n) xs ys) = b := by
      rw [← n2]
      simp only [List.size_toArray, hn, hz, Nat.min_self]
    have hsz : its.toArray.size = its'.toArray.size := by simp [hn, hn', hz]
    rw [← eb]
    exact ⟨RcAt.lists hl hl' hsz hu0 he, RcNeAt.lists hl hl' hsz hu0 he⟩
  · rw [if_neg hz] at h
    cases h
    have hsz : (its.toArray.size != its'.toArray.size) = true := by simp [hn, hn', hz]
    exact ⟨RcAt.lists_lengths hl hl' hsz hu0, RcNeAt.lists_lengths hl hl' hsz hu0⟩
theorem eq_rc (I : Inv X pins σ H s) : ∀ (n : Nat) {A : Around} {x y : U} {b : Bool} {v w : V} {p q : Value}, eqO n x y = some b → Rp H x v → Rp H y w → RelV v p → RelV w q → A.units + n < cLine → RcAt A s p q b ∧ RcNeAt A s p q (!b)
  | 0, _, _, _, _, _, _, _, _, h, _, _, _, _, _ => by cases h
  | n + 1, A, x, y, b, v, w, p, q, h, rx, ry, rv, rw', hu => by
    have hu0 : A.units < cLine := by omega
    have hu1 : A.in1.units + n < cLine := by show A.units + 1 + n < cLine; omega
    by_cases hk : eqK x y = some b
    · exact ⟨eqK_rc I hk rx ry rv rw' hu0, eqK_ne I hk rx ry rv rw' hu0⟩
    · cases rx with
      | @tup a xs vs e r =>
        cases ry with
        | @tup a' ys ws e' r' =>
          cases rv; cases rw'
          obtain ⟨c, ec, h⟩ := map_some h
          obtain ⟨n1, n2⟩ := allO_nth ec
          obtain ⟨its, hl, hn, hi⟩ := tup_heap I e r
          obtain ⟨its', hl', hn', hi'⟩ := tup_heap I e' r'
          have he : ∀ j (h1 : j < its.toArray.size) (h2 : j < its'.toArray.size), EqAt A.in1 s its.toArray[j] its'.toArray[j] (nth (eqO n) xs ys j) := fun j h1 h2 => by
            obtain ⟨x1, v1, e1, r1, rv1⟩ := hi j (by simpa using h1)
            obtain ⟨x2, v2, e2, r2, rv2⟩ := hi' j (by simpa using h2)
            have := eq_at (n1 j x1 x2 e1 e2) r1 r2 rv1 rv2 (eq_rc I n (n1 j x1 x2 e1 e2) r1 r2 rv1 rv2 hu1).1
            simpa using this
          have eb : ((List.range (min its.toArray.size its'.toArray.size)).all (nth (eqO n) xs ys) && its.toArray.size == its'.toArray.size) = b := by
            rw [← h]
            simp only [List.size_toArray, hn, hn', n2]
          rw [← eb]
          exact ⟨RcAt.tuples hl hl' hu0 he, RcNeAt.tuples hl hl' hu0 he⟩
        | _ => exact absurd h hk
      | @lst a xs vs e r =>
        cases ry with
        | @lst a' ys ws e' r' =>
          cases rv; cases rw'
          exact eq_lists I hu0 (fun h1 h2 h3 h4 h5 => (eq_rc I n h1 h2 h3 h4 h5 hu1).1) (SqL.of e) r (SqL.of e') r' h
        | @frl a' ys ws o' e' r' =>
          cases rv; cases rw'
          exact eq_lists I hu0 (fun h1 h2 h3 h4 h5 => (eq_rc I n h1 h2 h3 h4 h5 hu1).1) (SqL.of e) r (.inl (.inr ⟨o', e'⟩)) r' h
        | _ => exact absurd h hk
      | @frl a xs vs o e r =>
        cases ry with
        | @lst a' ys ws e' r' =>
          cases rv; cases rw'
          exact eq_lists I hu0 (fun h1 h2 h3 h4 h5 => (eq_rc I n h1 h2 h3 h4 h5 hu1).1) (.inl (.inr ⟨o, e⟩)) r (SqL.of e') r' h
        | _ => exact absurd h hk
      | _ => cases ry <;> exact absurd h hk
end
/-- how deep data may lie -/
def dep : Nat := 40
def rEqU : R2 := fun x y H Q => ∃ u w b, Rp H u x ∧ Rp H w y ∧ eqO dep u w = some b ∧ Q (.bl b) H
def rNeU : R2 := fun x y H Q => ∃ u w b, Rp H u x ∧ Rp H w y ∧ eqO dep u w = some b ∧ Q (.bl (!b)) H
section
variable {X : Cx}
theorem op_eqU (hu : X.A.units + 64 < cLine) : OpR X (compareOp .Eq) rEqU := by
  intro pins s σ H x y v u Q I rx ry h
  obtain ⟨d, e, b, hd, he, hb, q⟩ := h
  exact (eq_rc I dep hb hd he rx ry (by unfold dep; omega)).1 _ _ _ _ ⟨.bl b, H, I, rfl, q⟩
theorem op_neU (hu : X.A.units + 64 < cLine) : OpR X (compareOp .NotEq) rNeU := by
  intro pins s σ H x y v u Q I rx ry h
  obtain ⟨d, e, b, hd, he, hb, q⟩ := h
  exact (eq_rc I dep hb hd he rx ry (by unfold dep; omega)).2 _ _ _ _ ⟨.bl _, H, I, rfl, q⟩
end
def eqV2 (x y : U) : Option U := (eqO dep x y).map U.bl
def neV2 (x y : U) : Option U := (eqO dep x y).map fun b => U.bl (!b)
theorem rv_eq : RV rEqU eqV2 := fun x y z e v w B H s rx ry Q q => by
  obtain ⟨b, eb, e⟩ := map_some e
  subst e
  exact ⟨x, y, b, rx.in s, ry.in s, eb, q _ B H (Go.refl s) (.bl b)⟩
theorem rv_ne : RV rNeU neV2 := fun x y z e v w B H s rx ry Q q => by
  obtain ⟨b, eb, e⟩ := map_some e
  subst e
  exact ⟨x, y, b, rx.in s, ry.in s, eb, q _ B H (Go.refl s) (.bl _)⟩
def inO (n : Nat) (x : U) : List U → Option Bool
  | [] => some false
  | y :: ys => (eqO n y x).bind fun a => (inO n x ys).map fun b => a || b
/-- lists and tuples -/
def U.seq : U → Option (List U)
  | .lst xs => some xs
  | .tup xs => some xs
  | .frl xs => some xs
  | _ => none
/-- .. and known tuples -/
def U.sqI : U → Option (List U)
  | .lst xs => some xs
  | .tup xs => some xs
  | .tpd xs => some xs
  | .frl xs => some xs
  | _ => none
section
variable {X : Cx} {pins : List (Addr × Obj)} {σ : St} {H : Hp} {s : Shared}
open Classical in
noncomputable def eqOf (H : Hp) (n : Nat) (x : U) (p : Value) : Bool := if ∃ y v, Rp H y v ∧ RelV v p ∧ eqO n y x = some true then true else false
theorem eqOf_is {n : Nat} {x y : U} {v : V} {p : Value} {b : Bool} (r : Rp H y v) (rv : RelV v p) (h : eqO n y x = some b) : eqOf H n x p = b := by
  unfold eqOf
  cases b with
  | true => rw [if_pos ⟨y, v, r, rv, h⟩]
  | false =>
    rw [if_neg]
    rintro ⟨y', v', r', rv', h'⟩
    have e1 : v = v' := rv.inj rv'
    subst e1
    cases eq_two n r r' h h'
theorem inO_any {n : Nat} {x : U} : ∀ {xs : List U} {vs : List V} {its : List Value} {b : Bool}, Rps H xs vs → Vals vs its → inO n x xs = some b →
    its.any (eqOf H n x) = b ∧ ∀ y ∈ its, ∃ u v c, Rp H u v ∧ RelV v y ∧ eqO n u x = some c ∧ eqOf H n x y = c
  | _, _, _, b, .nil, .nil, h => by cases h; exact ⟨rfl, fun y hy => nomatch hy⟩
  | _, _, _, b, .cons r t, .cons rv tv, h => by
    obtain ⟨a, ea, h⟩ := bind_some h
    obtain ⟨c, ec, h⟩ := map_some h
    obtain ⟨i1, i2⟩ := inO_any t tv ec
    refine ⟨?_, fun y hy => ?_⟩
    · rw [List.any_cons, i1, eqOf_is r rv ea, h]
    · rcases List.mem_cons.mp hy with e | hy
      · subst e
        exact ⟨_, _, a, r, rv, ea, eqOf_is r rv ea⟩
      · exact i2 y hy
end
def rInU (neg : Bool) : R2 := fun x y H Q => ∃ u w xs b, Rp H u x ∧ Rp H w y ∧ w.sqI = some xs ∧ inO dep u xs = some b ∧ Q (.bl (if neg then !b else b)) H
section
variable {X : Cx}
theorem op_inU (hu : X.A.units + 64 < cLine) : OpR X (compareOp .In) (rInU false) := by
  intro pins s σ H x y v u Q I rx ry h
  obtain ⟨d, e, xs, b, hd, he, hs, hb, q⟩ := h
  have room : X.A.in1.units + dep < cLine := by show X.A.units + 1 + dep < cLine; unfold dep; omega
  cases he with
  | lst h r =>
    cases hs; cases ry
    obtain ⟨its, rv, pl, _⟩ := I.list (SqL.of h)
    obtain ⟨i1, i2⟩ := inO_any r rv hb
    refine in_listAt (eqOf H dep d) pl.isList (fun y hy => ?_) ⟨.bl _, H, I, ?_, q⟩
    · obtain ⟨u1, v1, c, r1, rv1, e1, e2⟩ := i2 y (by simpa using hy)
      rw [e2]
      exact eq_at e1 r1 hd rv1 rx (eq_rc I dep e1 r1 hd rv1 rx room).1
    · show Value.bool _ = Value.bool _
      rw [← i1]
      simp
  | @frl _ _ _ o h r =>
    cases hs; cases ry
    obtain ⟨its, rv, pl, _⟩ := I.list (.inl (.inr ⟨o, h⟩))
    obtain ⟨i1, i2⟩ := inO_any r rv hb
    refine in_listAt (eqOf H dep d) pl.isList (fun y hy => ?_) ⟨.bl _, H, I, ?_, q⟩
    · obtain ⟨u1, v1, c, r1, rv1, e1, e2⟩ := i2 y (by simpa using hy)
      rw [e2]
      exact eq_at e1 r1 hd rv1 rx (eq_rc I dep e1 r1 hd rv1 rx room).1
    · show Value.bool _ = Value.bool _
      rw [← i1]
      simp
  | tup h r =>
    cases hs; cases ry
    obtain ⟨its, rv, pl, _⟩ := I.tuple (SqT.of h)
    obtain ⟨i1, i2⟩ := inO_any r rv hb
    refine in_tupleAt (eqOf H dep d) pl (fun y hy => ?_) ⟨.bl _, H, I, ?_, q⟩
    · obtain ⟨u1, v1, c, r1, rv1, e1, e2⟩ := i2 y (by simpa using hy)
      rw [e2]
      exact eq_at e1 r1 hd rv1 rx (eq_rc I dep e1 r1 hd rv1 rx room).1
    · show Value.bool _ = Value.bool _
      rw [← i1]
      simp
  | @tpd _ _ _ o h hdn r =>
    cases hs; cases ry
    obtain ⟨its, rv, pl, _⟩ := I.tuple (.inl (.inr ⟨o, h⟩))
    obtain ⟨i1, i2⟩ := inO_any r rv hb
    refine in_tupleAt (eqOf H dep d) pl (fun y hy => ?_) ⟨.bl _, H, I, ?_, q⟩
    · obtain ⟨u1, v1, c, r1, rv1, e1, e2⟩ := i2 y (by simpa using hy)
      rw [e2]
      exact eq_at e1 r1 hd rv1 rx (eq_rc I dep e1 r1 hd rv1 rx room).1
    · show Value.bool _ = Value.bool _
      rw [← i1]
      simp
  | _ => cases hs
theorem op_notInU (hu : X.A.units + 64 < cLine) : OpR X (compareOp .NotIn) (rInU true) := by
  intro pins s σ H x y v u Q I rx ry h
  obtain ⟨d, e, xs, b, hd, he, hs, hb, q⟩ := h
  have room : X.A.in1.units + dep < cLine := by show X.A.units + 1 + dep < cLine; unfold dep; omega
  cases he with
  | lst h r =>
    cases hs; cases ry
    obtain ⟨its, rv, pl, _⟩ := I.list (SqL.of h)
    obtain ⟨i1, i2⟩ := inO_any r rv hb
    refine notIn_listAt (eqOf H dep d) pl.isList (fun y hy => ?_) ⟨.bl _, H, I, ?_, q⟩
    · obtain ⟨u1, v1, c, r1, rv1, e1, e2⟩ := i2 y (by simpa using hy)
      rw [e2]
      exact eq_at e1 r1 hd rv1 rx (eq_rc I dep e1 r1 hd rv1 rx room).1
    · show Value.bool _ = Value.bool _
      rw [← i1]
      simp
  | @frl _ _ _ o h r =>
    cases hs; cases ry
    obtain ⟨its, rv, pl, _⟩ := I.list (.inl (.inr ⟨o, h⟩))
    obtain ⟨i1, i2⟩ := inO_any r rv hb
    refine notIn_listAt (eqOf H dep d) pl.isList (fun y hy => ?_) ⟨.bl _, H, I, ?_, q⟩
    · obtain ⟨u1, v1, c, r1, rv1, e1, e2⟩ := i2 y (by simpa using hy)
      rw [e2]
      exact eq_at e1 r1 hd rv1 rx (eq_rc I dep e1 r1 hd rv1 rx room).1
    · show Value.bool _ = Value.bool _
      rw [← i1]
      simp
  | tup h r =>
    cases hs; cases ry
    obtain ⟨its, rv, pl, _⟩ := I.tuple (SqT.of h)
    obtain ⟨i1, i2⟩ := inO_any r rv hb
    refine notIn_tupleAt (eqOf H dep d) pl (fun y hy => ?_) ⟨.bl _, H, I, ?_, q⟩
    · obtain ⟨u1, v1, c, r1, rv1, e1, e2⟩ := i2 y (by simpa using hy)
      rw [e2]
      exact eq_at e1 r1 hd rv1 rx (eq_rc I dep e1 r1 hd rv1 rx room).1
    · show Value.bool _ = Value.bool _
      rw [← i1]
      simp
  | @tpd _ _ _ o h hdn r =>
    cases hs; cases ry
    obtain ⟨its, rv, pl, _⟩ := I.tuple (.inl (.inr ⟨o, h⟩))
    obtain ⟨i1, i2⟩ := inO_any r rv hb
    refine notIn_tupleAt (eqOf H dep d) pl (fun y hy => ?_) ⟨.bl _, H, I, ?_, q⟩
    · obtain ⟨u1, v1, c, r1, rv1, e1, e2⟩ := i2 y (by simpa using hy)
      rw [e2]
      exact eq_at e1 r1 hd rv1 rx (eq_rc I dep e1 r1 hd rv1 rx room).1
    · show Value.bool _ = Value.bool _
      rw [← i1]
      simp
  | _ => cases hs
end
end Dn
set_option Elab.async false
set_option linter.all false
set_option maxRecDepth 100000
set_option maxHeartbeats 2000000
namespace Dn
open PySem L2
variable [CTab]
def rAddU (K : PySem.W.Frag) : R2 := fun x y H Q => rI0 (fun i j => .int (i + j)) x y H Q ∨ (∃ i j, x = .str i ∧ y = .str j ∧ i.length + j.length ≤ sizeLine ∧ Q (.str (i ++ j)) H) ∨ rCat x y H Q ∨ rCatA K x y H Q
def rMulU : R2 := fun x y H Q => rI CMul (fun i j => .int (i * j)) x y H Q ∨ rRep x y H Q
section
variable {X : Cx}
theorem op_addU : OpR X (binaryOp .Add) (rAddU X.K) := op_add.or (op_add_str.or (op_cat.or op_catA))
theorem op_mulU : OpR X (binaryOp .Mult) rMulU := op_mul.or op_rep
end
def addV : U → U → Option U
  | .int i, .int j => some (.int (i + j))
  | .str i, .str j => if i.length + j.length ≤ lim then some (.str (i ++ j)) else none
  | .lst xs, .lst ys => if xs.length + ys.length ≤ lim then some (.lst (xs ++ ys)) else none
  | .tup xs, .tup ys => if xs.length + ys.length ≤ lim then some (.tup (xs ++ ys)) else none
  | _, _ => none
theorem rv_add {K : PySem.W.Frag} : RV (rAddU K) addV := fun x y z e v w B H s rx ry Q q => by
  cases rx with
  | int i =>
    cases ry with
    | int j => cases e; exact .inl ⟨i, j, rfl, rfl, q _ B H (Go.refl s) (.int _)⟩
    | _ => cases e
  | str i =>
    cases ry with
    | str j =>
      have e : (if i.length + j.length ≤ lim then some (U.str (i ++ j)) else none) = some z := e
      split at e
      · rename_i hl
        cases e; exact .inr (.inl ⟨i, j, rfl, rfl, lim_size hl, q _ B H (Go.refl s) (.str _)⟩)
      · cases e
    | _ => cases e
  | @lst a xs vs h r =>
    cases ry with
    | @lst b ys ws h' r' =>
      have e : (if xs.length + ys.length ≤ lim then some (U.lst (xs ++ ys)) else none) = some z := e
      split at e
      · rename_i hl
        cases e
        refine .inr (.inr (.inl ⟨a, b, vs, ws, rfl, rfl, s _ _ h, s _ _ h', ?_, fun p hp => q _ _ _ (Go.new s hp) (.lst upd_same ((r.append r').new s hp))⟩))
        rw [r.length, r'.length]; exact lim_size hl
      · cases e
    | _ => cases e
  | @tup a xs vs h r =>
    cases ry with
    | @tup b ys ws h' r' =>
      have e : (if xs.length + ys.length ≤ lim then some (U.tup (xs ++ ys)) else none) = some z := e
      split at e
      · rename_i hl
        cases e
        refine .inr (.inr (.inr ⟨a, b, vs, ws, rfl, rfl, SqT.of (s _ _ h), SqT.of (s _ _ h'), ?_, fun hv => ?_, fun _ hw => ?_, fun _ _ p hp => q _ _ _ (Go.new s hp) (.tup upd_same ((r.append r').new s hp))⟩))
        · rw [r.length, r'.length]; exact lim_size hl
        · subst hv; cases r; exact q _ B H (Go.refl s) (.tup h' r')
        · subst hw; cases r'; rw [List.append_nil] at q; exact q _ B H (Go.refl s) (.tup h r)
      · cases e
    | _ => cases e
  | _ => cases e
def mulV : U → U → Option U
  | .int i, .int j => if (-(2 ^ 64) < i ∧ i < 2 ^ 64) ∨ (-(2 ^ 64) < j ∧ j < 2 ^ 64) then some (.int (i * j)) else none
  | .lst xs, .int j => if 0 ≤ j ∧ j ≤ 1000 ∧ xs.length * j.toNat ≤ lim then some (.lst (List.replicate j.toNat xs).flatten) else none
  | _, _ => none
theorem Rps.flat {B : Hp} {xs : List U} {vs : List V} (r : Rps B xs vs) : ∀ n : Nat, Rps B (List.replicate n xs).flatten (List.replicate n vs).flatten
  | 0 => .nil
  | n + 1 => by
    rw [List.replicate_succ, List.replicate_succ, List.flatten_cons, List.flatten_cons]
    exact r.append (Rps.flat r n)
theorem rv_mul : RV rMulU mulV := fun x y z e v w B H s rx ry Q q => by
  cases rx with
  | int i =>
    cases ry with
    | int j =>
      have e : (if (-(2 ^ 64) < i ∧ i < 2 ^ 64) ∨ (-(2 ^ 64) < j ∧ j < 2 ^ 64) then some (U.int (i * j)) else none) = some z := e
      split at e
      · rename_i hl
        cases e; exact .inl ⟨i, j, rfl, rfl, hl, q _ B H (Go.refl s) (.int _)⟩
      · cases e
    | _ => cases e
  | @lst a xs vs h r =>
    cases ry with
    | int j =>
      have e : (if 0 ≤ j ∧ j ≤ 1000 ∧ xs.length * j.toNat ≤ lim then some (U.lst (List.replicate j.toNat xs).flatten) else none) = some z := e
      split at e
      · rename_i hl
        cases e
        refine .inr ⟨a, j, vs, rfl, rfl, s _ _ h, by omega, by omega, by rw [r.length]; exact lim_size hl.2.2, fun p hp => q _ _ _ (Go.new s hp) (.lst upd_same ((r.flat _).new s hp))⟩
      · cases e
    | _ => cases e
  | _ => cases e
def iiV (g : Int → Int → Option U) : U → U → Option U
  | .int i, .int j => g i j
  | _, _ => none
theorem rv_ii {g : Int → Int → V} {g' : Int → Int → Option U} (h : ∀ i j z, g' i j = some z → ∀ B, Rp B z (g i j)) : RV (rI0 g) (iiV g') := fun x y z e v w B H s rx ry Q q => by
  cases rx with
  | int i =>
    cases ry with
    | int j => exact ⟨i, j, rfl, rfl, q _ B H (Go.refl s) (h i j z e B)⟩
    | _ => cases e
  | _ => cases e
theorem rv_iic {C : Int → Int → Prop} {g : Int → Int → V} {g' : Int → Int → Option U} (h : ∀ i j z, g' i j = some z → C i j ∧ ∀ B, Rp B z (g i j)) : RV (rI C g) (iiV g') := fun x y z e v w B H s rx ry Q q => by
  cases rx with
  | int i =>
    cases ry with
    | int j => exact ⟨i, j, rfl, rfl, (h i j z e).1, q _ B H (Go.refl s) ((h i j z e).2 B)⟩
    | _ => cases e
  | _ => cases e
def subV : U → U → Option U := iiV fun i j => some (.int (i - j))
def ltV : U → U → Option U := iiV fun i j => some (.bl (decide (i < j)))
theorem rv_lt : RV (rI0 fun i j => .bl (decide (i < j))) ltV := rv_ii fun i j z e B => by cases e; exact .bl _
def leV : U → U → Option U := iiV fun i j => some (.bl (decide (i ≤ j)))
theorem rv_le : RV (rI0 fun i j => .bl (decide (i ≤ j))) leV := rv_ii fun i j z e B => by cases e; exact .bl _
def gtV : U → U → Option U := iiV fun i j => some (.bl (decide (j < i)))
theorem rv_gt : RV (rI0 fun i j => .bl (decide (j < i))) gtV := rv_ii fun i j z e B => by cases e; exact .bl _
def geV : U → U → Option U := iiV fun i j => some (.bl (decide (j ≤ i)))
theorem rv_ge : RV (rI0 fun i j => .bl (decide (j ≤ i))) geV := rv_ii fun i j z e B => by cases e; exact .bl _
def modV : U → U → Option U := iiV fun i j => if 0 < j then some (.int (i % j)) else none
theorem rv_mod : RV (rI (fun _ j => 0 < j) fun i j => .int (i % j)) modV := rv_iic fun i j z e => by
  split at e
  · rename_i hj
    cases e; exact ⟨hj, fun B => .int _⟩
  · cases e
def fdivV : U → U → Option U := iiV fun i j => if 0 < j ∧ j < 1073741824 then some (.int (i / j)) else none
theorem rv_fdiv : RV (rI CDiv fun i j => .int (i / j)) fdivV := rv_iic fun i j z e => by
  split at e
  · rename_i hj
    cases e; exact ⟨hj, fun B => .int _⟩
  · cases e
def powV : U → U → Option U := iiV fun i j => if 0 ≤ j ∧ j ≤ 1000000 ∧ i.natAbs < 2 ^ 64 then some (.int (i ^ j.toNat)) else none
theorem rv_pow : RV (rI CPow fun i j => .int (i ^ j.toNat)) powV := rv_iic fun i j z e => by
  split at e
  · rename_i hj
    cases e; exact ⟨hj, fun B => .int _⟩
  · cases e
def negV : U → Option U
  | .int i => some (.int (-i))
  | _ => none
theorem ru_neg : RU (rU fun i => .int (-i)) negV := fun x z e v B H s rx Q q => by
  cases rx with
  | int i => cases e; exact ⟨i, rfl, q _ B H (Go.refl s) (.int _)⟩
  | _ => cases e
def rIsU : R2 := fun x y H Q => (y = .non ∧ Q (.bl (decide (x = .non))) H) ∨ ∃ a b, x = .bl a ∧ y = .bl b ∧ Q (.bl (decide (a = b))) H
def rIsNotU : R2 := fun x y H Q => (y = .non ∧ Q (.bl (!decide (x = .non))) H) ∨ ∃ a b, x = .bl a ∧ y = .bl b ∧ Q (.bl (!decide (a = b))) H
theorem op_isU {X : Cx} : OpR X (compareOp .Is) rIsU := op_isN.or op_is_bl
theorem op_isNotU {X : Cx} : OpR X (compareOp .IsNot) rIsNotU := op_notN.or op_isnot_bl
def U.isNon : U → Bool
  | .non => true
  | _ => false
def isB : U → U → Option Bool
  | x, .non => some x.isNon
  | .bl a, .bl b => some (decide (a = b))
  | _, _ => none
theorem Rp.isNon {B : Hp} {x : U} {v : V} (r : Rp B x v) : x.isNon = decide (v = .non) := by
  cases r with
  | non => rfl
  | _ => rw [decide_eq_false (fun z => nomatch z)]; rfl
def isV (x y : U) : Option U := (isB x y).map U.bl
def isNotV (x y : U) : Option U := (isB x y).map fun b => U.bl (!b)
theorem rv_is : RV rIsU isV := fun x y z e v w B H s rx ry Q q => by
  obtain ⟨b, eb, e⟩ := map_some e
  subst e
  cases ry with
  | non =>
    have eb : some x.isNon = some b := by cases x <;> exact eb
    cases eb
    rw [rx.isNon] at q
    exact .inl ⟨rfl, q _ B H (Go.refl s) (.bl _)⟩
  | bl c =>
    cases rx with
    | bl a => cases eb; exact .inr ⟨a, c, rfl, rfl, q _ B H (Go.refl s) (.bl _)⟩
    | _ => cases eb
  | _ => cases rx <;> cases eb
theorem rv_isNot : RV rIsNotU isNotV := fun x y z e v w B H s rx ry Q q => by
  obtain ⟨b, eb, e⟩ := map_some e
  subst e
  cases ry with
  | non =>
    have eb : some x.isNon = some b := by cases x <;> exact eb
    cases eb
    rw [rx.isNon] at q
    exact .inl ⟨rfl, q _ B H (Go.refl s) (.bl _)⟩
  | bl c =>
    cases rx with
    | bl a => cases eb; exact .inr ⟨a, c, rfl, rfl, q _ B H (Go.refl s) (.bl _)⟩
    | _ => cases eb
  | _ => cases rx <;> cases eb
def U.key : U → Option Key
  | .int i => some (.inl i)
  | .str s => some (.inr s)
  | _ => none
def keysL : List U → Option (List Key)
  | [] => some []
  | x :: xs => x.key.bind fun k => (keysL xs).map fun r => k :: r
def lookK {κ : Type} [DecidableEq κ] (kvs : List (κ × U)) (k : κ) : Option U := (kvs.find? fun kv => decide (kv.1 = k)).map (·.2)
/-- what a dict has at a key; none: no such thing can be asked -/
def dgetO : U → U → Option (Option U)
  | .dic kvs, y => y.key.map fun k => lookK kvs k
  | .dit kvs, .tup ys => (keysL ys).map fun k => lookK kvs k
  | _, _ => none
theorem Rp.key {B : Hp} {x : U} {v : V} {k : Key} (r : Rp B x v) (h : x.key = some k) : v = kV k := by
  cases r with
  | int i => cases h; rfl
  | str i => cases h; rfl
  | _ => cases h
theorem Rps.keys {B : Hp} : ∀ {xs : List U} {vs : List V} {k : List Key}, Rps B xs vs → keysL xs = some k → vs = k.map kV
  | _, _, _, .nil, h => by cases h; rfl
  | _, _, _, .cons r t, h => by
    obtain ⟨a, ea, h⟩ := bind_some h
    obtain ⟨c, ec, h⟩ := map_some h
    subst h
    rw [List.map_cons, r.key ea, t.keys ec]
theorem Rpk.look {B : Hp} (k : Key) : ∀ {xs : List (Key × U)} {vs : List (Key × V)}, Rpk B xs vs → (∀ x, lookK xs k = some x → ∃ v, valV vs k = some v ∧ Rp B x v) ∧ (lookK xs k = none → valV vs k = none)
  | _, _, .nil => ⟨fun x h => (by cases h), fun _ => rfl⟩
  | _, _, @Rpk.cons _ _ k' x v xs vs r t => by
    obtain ⟨i1, i2⟩ := Rpk.look k t
    by_cases e : k' = k
    · subst e
      have e1 : lookK ((k', x) :: xs) k' = some x := by simp [lookK]
      have e2 : valV ((k', v) :: vs) k' = some v := by simp [valV]
      rw [e1, e2]
      exact ⟨fun y h => by cases h; exact ⟨v, rfl, r⟩, fun h => by cases h⟩
    · have e1 : lookK ((k', x) :: xs) k = lookK xs k := by simp [lookK, e]
      have e2 : valV ((k', v) :: vs) k = valV vs k := by simp [valV, e]
      rw [e1, e2]
      exact ⟨i1, i2⟩
theorem Rpt.look {B : Hp} (k : List Key) : ∀ {xs : List (List Key × U)} {vs : List (List Key × V)}, Rpt B xs vs → (∀ x, lookK xs k = some x → ∃ v, valV vs k = some v ∧ Rp B x v) ∧ (lookK xs k = none → valV vs k = none)
  | _, _, .nil => ⟨fun x h => (by cases h), fun _ => rfl⟩
  | _, _, @Rpt.cons _ _ k' x v xs vs r t => by
    obtain ⟨i1, i2⟩ := Rpt.look k t
    by_cases e : k' = k
    · subst e
      have e1 : lookK ((k', x) :: xs) k' = some x := by simp [lookK]
      have e2 : valV ((k', v) :: vs) k' = some v := by simp [valV]
      rw [e1, e2]
      exact ⟨fun y h => by cases h; exact ⟨v, rfl, r⟩, fun h => by cases h⟩
    · have e1 : lookK ((k', x) :: xs) k = lookK xs k := by simp [lookK, e]
      have e2 : valV ((k', v) :: vs) k = valV vs k := by simp [valV, e]
      rw [e1, e2]
      exact ⟨i1, i2⟩
end Dn
set_option Elab.async false
set_option linter.all false
set_option maxRecDepth 100000
set_option maxHeartbeats 2000000
namespace Dn
open PySem L2
variable [CTab]
theorem CallR.or {X : Cx} {f : Value} {r r' : List V → Hp → VK → Prop} (h : CallR X f r) (h' : CallR X f r') : CallR X f (fun xs H Q => r xs H Q ∨ r' xs H Q) := by
  intro pins s σ H xs us Q I rx q
  rcases q with q | q
  · exact h pins s σ H xs us Q I rx q
  · exact h' pins s σ H xs us Q I rx q
theorem dget_of {x y : U} {v w : V} {B H : Hp} {o : Option U} (h : dgetO x y = some o) (s : Ok B H) (rx : Rp B x v) (ry : Rp B y w) :
    ∃ a r, v = .ref a ∧ DGet H a w r ∧ r.isSome = o.isSome ∧ ∀ z, o = some z → ∃ u, r = some u ∧ Rp B z u := by
  cases rx with
  | @dic a kvs es ob e r =>
    have h : y.key.map (fun k => lookK kvs k) = some o := by cases y <;> exact h
    obtain ⟨k, ek, h⟩ := map_some h
    obtain ⟨i1, i2⟩ := r.look k
    refine ⟨a, valV es k, rfl, .inl ⟨es, k, .inr ⟨ob, s _ _ e⟩, ry.key ek, rfl⟩, ?_, fun z ez => ?_⟩
    · cases eo : o with
      | none => rw [i2 (by rw [h, eo])]; rfl
      | some z => obtain ⟨u, e1, _⟩ := i1 z (by rw [h, eo]); rw [e1]; rfl
    · obtain ⟨u, e1, e2⟩ := i1 z (by rw [h, ez])
      exact ⟨u, e1, e2⟩
  | @dit a kvs es ob e r =>
    cases ry with
    | @tup b ys ws e' r' =>
      obtain ⟨k, ek, h⟩ := map_some h
      obtain ⟨i1, i2⟩ := r.look k
      have hk := r'.keys ek
      refine ⟨a, valV es k, rfl, .inr ⟨es, k, b, .inr ⟨ob, s _ _ e⟩, rfl, by rw [← hk]; exact s _ _ e', rfl⟩, ?_, fun z ez => ?_⟩
      · cases eo : o with
        | none => rw [i2 (by rw [h, eo])]; rfl
        | some z => obtain ⟨u, e1, _⟩ := i1 z (by rw [h, eo]); rw [e1]; rfl
      · obtain ⟨u, e1, e2⟩ := i1 z (by rw [h, ez])
        exact ⟨u, e1, e2⟩
    | _ => cases h
  | _ => cases h
def U.sign : U → Option Nat
  | .str s => match s.cps.toList with
    | [c] => some c
    | _ => none
  | _ => none
def inB : U → U → Option Bool
  | x, .lst xs => inO dep x xs
  | x, .tup xs => inO dep x xs
  | x, .tpd xs => inO dep x xs
  | x, .frl xs => inO dep x xs
  | x, .dic kvs => (dgetO (.dic kvs) x).map Option.isSome
  | x, .dit kvs => (dgetO (.dit kvs) x).map Option.isSome
  | x, .str z => x.sign.map fun c => decide (c ∈ z.cps.toList)
  | _, _ => none
def rDIn (neg : Bool) : R2 := fun x y H Q => ∃ a o, y = .ref a ∧ DGet H a x o ∧ Q (.bl (if neg then !o.isSome else o.isSome)) H
def rSIn (neg : Bool) : R2 := fun x y H Q => ∃ (c : Nat) (z : Str), x = .str ⟨#[c]⟩ ∧ y = .str z ∧ Q (.bl (if neg then !decide (c ∈ z.cps.toList) else decide (c ∈ z.cps.toList))) H
def rInA (neg : Bool) : R2 := fun x y H Q => rInU neg x y H Q ∨ rDIn neg x y H Q ∨ rSIn neg x y H Q
section
variable {X : Cx}
theorem op_dIn (hu : X.A.units + 1 < cLine) : OpR X (compareOp .In) (rDIn false) := by
  intro pins s σ H x y v u Q I rx ry h
  obtain ⟨a, o, rfl, g, q⟩ := h
  cases ry
  exact d_in hu I g rx fun s3 I3 => ⟨.bl o.isSome, H, I3, rfl, q⟩
theorem op_dNotIn (hu : X.A.units + 1 < cLine) : OpR X (compareOp .NotIn) (rDIn true) := by
  intro pins s σ H x y v u Q I rx ry h
  obtain ⟨a, o, rfl, g, q⟩ := h
  cases ry
  exact d_notIn hu I g rx fun s3 I3 => ⟨.bl (!o.isSome), H, I3, rfl, q⟩
theorem op_inA (hu : X.A.units + 64 < cLine) : OpR X (compareOp .In) (rInA false) := (op_inU hu).or ((op_dIn (by omega)).or op_in_sign)
theorem op_notInA (hu : X.A.units + 64 < cLine) : OpR X (compareOp .NotIn) (rInA true) := (op_notInU hu).or ((op_dNotIn (by omega)).or op_notIn_sign)
end
theorem inA_of {neg : Bool} {x y : U} {b : Bool} (e : inB x y = some b) {v w : V} {B H : Hp} (s : Ok B H) (rx : Rp B x v) (ry : Rp B y w) {Q : VK} (q : Q (.bl (if neg then !b else b)) H) : rInA neg v w H Q := by
  cases ry with
  | lst h r =>
    exact .inl ⟨x, _, _, b, rx.in s, (Rp.lst h r).in s, rfl, e, q⟩
  | tup h r =>
    exact .inl ⟨x, _, _, b, rx.in s, (Rp.tup h r).in s, rfl, e, q⟩
  | tpd h hd r =>
    exact .inl ⟨x, _, _, b, rx.in s, (Rp.tpd h hd r).in s, rfl, e, q⟩
  | frl h r =>
    exact .inl ⟨x, _, _, b, rx.in s, (Rp.frl h r).in s, rfl, e, q⟩
  | @dic a kvs es ob h r =>
    obtain ⟨o, eo, e⟩ := map_some e
    obtain ⟨a, r', ea, g, h1, _⟩ := dget_of eo s (.dic h r) rx
    subst e
    rw [← h1] at q
    exact .inr (.inl ⟨a, r', ea, g, q⟩)
  | @dit a kvs es ob h r =>
    obtain ⟨o, eo, e⟩ := map_some e
    obtain ⟨a, r', ea, g, h1, _⟩ := dget_of eo s (.dit h r) rx
    subst e
    rw [← h1] at q
    exact .inr (.inl ⟨a, r', ea, g, q⟩)
  | str z =>
    obtain ⟨c, ec, e⟩ := map_some e
    subst e
    cases rx with
    | str t =>
      have ec : (match t.cps.toList with | [c] => some c | _ => none) = some c := ec
      split at ec
      · rename_i c' hc
        cases ec
        have e1 : t = ⟨#[c]⟩ := by
          cases t with
          | mk cps =>
            have : cps = #[c] := by
              apply Array.ext'
              simpa using hc
            rw [this]
        subst e1
        exact .inr (.inr ⟨c, z, rfl, rfl, q⟩)
      · cases ec
    | _ => cases ec
  | _ => cases e
def inV2 (x y : U) : Option U := (inB x y).map U.bl
def notInV2 (x y : U) : Option U := (inB x y).map fun b => U.bl (!b)
theorem rv_in : RV (rInA false) inV2 := fun x y z e v w B H s rx ry Q q => by
  obtain ⟨b, eb, e⟩ := map_some e
  subst e
  exact inA_of eb s rx ry (q _ B H (Go.refl s) (.bl _))
theorem rv_notIn : RV (rInA true) notInV2 := fun x y z e v w B H s rx ry Q q => by
  obtain ⟨b, eb, e⟩ := map_some e
  subst e
  exact inA_of eb s rx ry (q _ B H (Go.refl s) (.bl _))
def rIxD : R2 := fun x y H Q => ∃ a v, x = .ref a ∧ DGet H a y (some v) ∧ Q v H
def rIxA (K : PySem.W.Frag) : R2 := fun x y H Q => rIx K x y H Q ∨ rIxD x y H Q
section
variable {X : Cx}
theorem ix_dict (hu : X.A.units + 1 < cLine) : IxR X rIxD := by
  intro value slice pins s σ H x y v u Q I rx ry h hs
  obtain ⟨a, z, rfl, g, q⟩ := h
  cases rx
  exact PyProof.Rows.tail_any (dict_typeIs I g) PySem.F.slot_dict_getitem.lookup (d_getItem hu I g ry fun w' s3 I3 rw' => ⟨z, H, I3, rw', q⟩) hs
theorem ix_any (hu : X.A.units + 64 < cLine) : IxR X (rIxA X.K) := ix_seq.or (ix_dict (by omega))
end
def getV : U → U → Option U
  | .lst xs, .int i => atI xs i
  | .tup xs, .int i => atI xs i
  | .tpd xs, .int i => atI xs i
  | .frl xs, .int i => atI xs i
  | .str z, .int i => if z.length ≤ lim then (atI z.cps.toList i).map fun c => .str ⟨#[c]⟩ else none
  | .dic kvs, y => (dgetO (.dic kvs) y).bind id
  | .dit kvs, y => (dgetO (.dit kvs) y).bind id
  | _, _ => none
theorem Rps.atI {B : Hp} {xs : List U} {vs : List V} (r : Rps B xs vs) {i : Int} {x : U} (h : L2.atI xs i = some x) : ∃ v, L2.atI vs i = some v ∧ Rp B x v := by
  unfold L2.atI at h ⊢
  rw [r.length]
  obtain ⟨j, ej, h⟩ := bind_some h
  obtain ⟨v, ev, rv⟩ := r.get h
  exact ⟨v, by rw [ej]; exact ev, rv⟩
theorem rv_get {K : PySem.W.Frag} : RV (rIxA K) getV := fun x y z e v w B H s rx ry Q q => by
  cases rx with
  | @lst a xs vs h r =>
    cases ry with
    | int i =>
      obtain ⟨u, eu, ru⟩ := r.atI e
      exact .inl (.inl ⟨a, vs, i, u, rfl, rfl, SqL.of (s _ _ h), eu, q _ B H (Go.refl s) ru⟩)
    | _ => cases e
  | @tup a xs vs h r =>
    cases ry with
    | int i =>
      obtain ⟨u, eu, ru⟩ := r.atI e
      exact .inl (.inr (.inl ⟨a, vs, i, u, rfl, rfl, SqT.of (s _ _ h), eu, q _ B H (Go.refl s) ru⟩))
    | _ => cases e
  | @frl a xs vs o h r =>
    cases ry with
    | int i =>
      obtain ⟨u, eu, ru⟩ := r.atI e
      exact .inl (.inl ⟨a, vs, i, u, rfl, rfl, .inl (.inr ⟨o, s _ _ h⟩), eu, q _ B H (Go.refl s) ru⟩)
    | _ => cases e
  | @tpd a xs vs o h hd r =>
    cases ry with
    | int i =>
      obtain ⟨u, eu, ru⟩ := r.atI e
      exact .inl (.inr (.inl ⟨a, vs, i, u, rfl, rfl, .inl (.inr ⟨o, s _ _ h⟩), eu, q _ B H (Go.refl s) ru⟩))
    | _ => cases e
  | str t =>
    cases ry with
    | int i =>
      have e : (if t.length ≤ lim then (atI t.cps.toList i).map (fun c => U.str ⟨#[c]⟩) else none) = some z := e
      split at e
      · rename_i hl
        obtain ⟨c, ec, e⟩ := map_some e
        subst e
        exact .inl (.inr (.inr ⟨t, i, c, rfl, rfl, lim_size hl, ec, q _ B H (Go.refl s) (.str _)⟩))
      · cases e
    | _ => cases e
  | @dic a kvs es ob h r =>
    have e : (dgetO (.dic kvs) y).bind id = some z := by cases y <;> exact e
    obtain ⟨o, eo, e⟩ := bind_some e
    obtain ⟨a, r', ea, g, _, h2⟩ := dget_of eo s (.dic h r) ry
    obtain ⟨u, eu, ru⟩ := h2 z e
    exact .inr ⟨a, u, ea, by rw [← eu]; exact g, q _ B H (Go.refl s) ru⟩
  | @dit a kvs es ob h r =>
    have e : (dgetO (.dit kvs) y).bind id = some z := by cases y <;> exact e
    obtain ⟨o, eo, e⟩ := bind_some e
    obtain ⟨a, r', ea, g, _, h2⟩ := dget_of eo s (.dit h r) ry
    obtain ⟨u, eu, ru⟩ := h2 z e
    exact .inr ⟨a, u, ea, by rw [← eu]; exact g, q _ B H (Go.refl s) ru⟩
  | _ => cases e
def cutU (xs : List U) (lo hi : Option Int) : List U := (xs.drop (HT.sIx xs.length 0 lo)).take (HT.sIx xs.length xs.length hi - HT.sIx xs.length 0 lo)
theorem Rps.cut {B : Hp} {xs : List U} {vs : List V} (r : Rps B xs vs) (lo hi : Option Int) : Rps B (cutU xs lo hi) (cutV vs lo hi) := by
  unfold cutU cutV
  rw [r.length]
  exact (r.drop _).take _
def rSlU (K : PySem.W.Frag) : V → Option Int → Option Int → Hp → VK → Prop := fun x lo hi H Q => rSlL K x lo hi H Q ∨ rSlA K x lo hi H Q ∨ rSlS x lo hi H Q
theorem sl_any {X : Cx} : SlR X (rSlU X.K) := sl_list.or (sl_tupA.or sl_str)
def sliceV : U → Option Int → Option Int → Option U
  | .lst xs, lo, hi => some (.lst (cutU xs lo hi))
  | .frl xs, lo, hi => some (.lst (cutU xs lo hi))
  | .tup xs, lo, hi => some (.tup (cutU xs lo hi))
  | .str z, lo, hi => if z.length ≤ lim then some (.str (cutS z lo hi)) else none
  | _, _, _ => none
def U.asI : U → Option Int
  | .int i => some i
  | _ => none
def EvP (tp : TO) (σ : St) (B H : Hp) (o : Option (Option Int)) : Prop :=
  ∀ z, o = some z → ∀ B1 H1, At B B1 H1 → ∀ Q : Option Int → Hp → Prop, (∀ B2 H2, Go B1 H1 B2 H2 → Q z H2) → tp σ H1 Q
theorem cutU_whole {xs : List U} {lo hi : Option Int} (h : HT.sIx xs.length 0 lo = 0 ∧ HT.sIx xs.length xs.length hi = xs.length) : cutU xs lo hi = xs := by
  unfold cutU
  rw [h.1, h.2]
  simp
section
variable {σ : St} {B H : Hp} {te : TE} {tl th : TO} {oa : Option U} {ol oh : Option (Option Int)} {K : PySem.W.Frag}
theorem ep_no : EvP tNoPart σ B H (some none) := fun z e B1 H1 g Q q => by cases e; exact q B1 H1 (Go.refl g.bh)
theorem ep_of (h : EvO te σ B H oa) : EvP (tPart te) σ B H ((oa.bind U.asI).map some) := fun z e B1 H1 g Q q => by
  obtain ⟨i, ei, e⟩ := map_some e
  obtain ⟨x, ex, ei⟩ := bind_some ei
  subst e
  cases x <;> cases ei
  exact h _ ex B1 H1 g _ fun v B2 H2 g2 r => by cases r; exact ⟨_, rfl, q B2 H2 g2⟩
theorem eo_slice (h : EvO te σ B H oa) (hl : EvP tl σ B H ol) (hh : EvP th σ B H oh) : EvO (tSl (rSlU K) te tl th) σ B H (oa.bind fun x => ol.bind fun l => oh.bind fun u => sliceV x l u) := fun z e B1 H1 g Q q => by
  obtain ⟨x, ex, e⟩ := bind_some e
  obtain ⟨lo, el, e⟩ := bind_some e
  obtain ⟨hi, eh, e⟩ := bind_some e
  refine h x ex B1 H1 g _ fun v B2 H2 g2 r2 => hl lo el B2 H2 (g.trans g2) _ fun B3 H3 g3 => hh hi eh B3 H3 ((g.trans g2).trans g3) _ fun B4 H4 g4 => ?_
  have g24 := g3.trans g4
  have r := r2.up g24
  have gg := g2.trans g24
  have s := g4.bh
  cases r with
  | @lst a xs vs e1 r1 =>
    cases e
    exact .inl ⟨a, vs, rfl, SqL.of (s _ _ e1), fun p hp => q _ _ _ (gg.trans (Go.new s hp)) (.lst upd_same ((r1.cut lo hi).new s hp))⟩
  | @frl a xs vs o e1 r1 =>
    cases e
    exact .inl ⟨a, vs, rfl, .inl (.inr ⟨o, s _ _ e1⟩), fun p hp => q _ _ _ (gg.trans (Go.new s hp)) (.lst upd_same ((r1.cut lo hi).new s hp))⟩
  | @tup a xs vs e1 r1 =>
    cases e
    refine .inr (.inl ⟨a, vs, rfl, SqT.of (s _ _ e1), fun hw => ?_, fun _ p hp => q _ _ _ (gg.trans (Go.new s hp)) (.tup upd_same ((r1.cut lo hi).new s hp))⟩)
    rw [r1.length] at hw
    rw [cutU_whole hw] at q
    exact q _ B4 H4 gg (.tup e1 r1)
  | str t =>
    have e : (if t.length ≤ lim then some (U.str (cutS t lo hi)) else none) = some z := e
    split at e
    · rename_i hl
      cases e
      exact .inr (.inr ⟨t, rfl, lim_size hl, q _ B4 H4 gg (.str _)⟩)
    · cases e
  | _ => cases e
end
def rLenR : List V → Hp → VK → Prop := fun xs H Q => (∃ a kvs, xs = [V.ref a] ∧ Rd H a (.dK kvs) ∧ Q (.int kvs.length) H)
theorem call_lenR {X : Cx} : CallR X (.builtin "len") rLenR := by
  intro pins s σ H xs us Q I r h
  obtain ⟨a, kvs, rfl, ha, q⟩ := h
  obtain ⟨u, rfl, ru⟩ := vals1 r
  cases ru
  exact d_len I ha fun t s' I' => ⟨.int kvs.length, H, I', ⟨t, rfl⟩, q⟩
def rLenA (K : PySem.W.Frag) : List V → Hp → VK → Prop := fun xs H Q => (∃ p ys, xs = [.ref p] ∧ (SqL K H p ys ∨ SqT K H p ys) ∧ Q (.int ys.length) H) ∨ (∃ z, xs = [.str z] ∧ z.length ≤ sizeLine ∧ Q (.int z.length) H) ∨ rLenR xs H Q
theorem call_lenA {X : Cx} : CallR X (.builtin "len") (rLenA X.K) := CallR.or call_len_seq (CallR.or call_len_str call_lenR)
def lenV : List U → Option U
  | [.lst xs] => some (.int xs.length)
  | [.tup xs] => some (.int xs.length)
  | [.tpd xs] => some (.int xs.length)
  | [.frl xs] => some (.int xs.length)
  | [.str z] => if z.length ≤ lim then some (.int z.length) else none
  | [.dic kvs] => some (.int kvs.length)
  | _ => none
theorem Rpk.length {B : Hp} : ∀ {xs : List (Key × U)} {vs : List (Key × V)}, Rpk B xs vs → vs.length = xs.length
  | _, _, .nil => rfl
  | _, _, .cons _ t => by rw [List.length_cons, List.length_cons, Rpk.length t]
theorem rc_one {f : List U → Option U} {r : List V → Hp → VK → Prop} (hn : ∀ xs z, f xs = some z → ∃ x, xs = [x])
    (h : ∀ x z, f [x] = some z → ∀ v B H, Ok B H → Rp B x v → ∀ Q : VK, (∀ v2 B2 H2, Go B H B2 H2 → Rp B2 z v2 → Q v2 H2) → r [v] H Q) : RC r f := fun xs z e vs B H s rs Q q => by
  obtain ⟨x, rfl⟩ := hn xs z e
  cases rs with
  | cons r1 t => cases t; exact h x z e _ B H s r1 Q q
theorem rc_len {K : PySem.W.Frag} : RC (rLenA K) lenV := rc_one (fun xs z e => by
    match xs, e with
    | [x], _ => exact ⟨x, rfl⟩
    | [], e => cases e
    | x :: y :: r, e => cases x <;> cases e) fun x z e v B H s rx Q q => by
  cases rx with
  | @lst a xs vs h r => cases e; rw [← r.length] at q; exact .inl ⟨a, vs, rfl, .inl (SqL.of (s _ _ h)), q _ B H (Go.refl s) (.int _)⟩
  | @tup a xs vs h r => cases e; rw [← r.length] at q; exact .inl ⟨a, vs, rfl, .inr (SqT.of (s _ _ h)), q _ B H (Go.refl s) (.int _)⟩
  | @frl a xs vs o h r => cases e; rw [← r.length] at q; exact .inl ⟨a, vs, rfl, .inl (.inl (.inr ⟨o, s _ _ h⟩)), q _ B H (Go.refl s) (.int _)⟩
  | @tpd a xs vs o h hd r => cases e; rw [← r.length] at q; exact .inl ⟨a, vs, rfl, .inr (.inl (.inr ⟨o, s _ _ h⟩)), q _ B H (Go.refl s) (.int _)⟩
  | str t =>
    have e : (if t.length ≤ lim then some (U.int t.length) else none) = some z := e
    split at e
    · rename_i hl
      cases e
      exact .inr (.inl ⟨t, rfl, lim_size hl, q _ B H (Go.refl s) (.int _)⟩)
    · cases e
  | @dic a kvs es ob h r => cases e; rw [← r.length] at q; exact .inr (.inr ⟨a, es, rfl, .inr ⟨ob, s _ _ h⟩, q _ B H (Go.refl s) (.int _)⟩)
  | _ => cases e
def U.tyn : U → Option String
  | .non => some "NoneType"
  | .bl _ => some "bool"
  | .int _ => some "int"
  | .str _ => some "str"
  | .tup _ => some "tuple"
  | .lst _ => some "list"
  | .frl _ => some "list"
  | .dic _ => some "dict"
  | .dit _ => none
  | .tpd _ => none
  | .dib _ => none
  | .mt => none
  | .exc _ _ => none
  | .rsd _ _ => none
  | .obj _ _ => none
theorem tyx_of {K : PySem.W.Frag} {x : U} {v : V} {B H : Hp} {T : String} (h : x.tyn = some T) (s : Ok B H) (r : Rp B x v) : TyX K H v (.type T) := by
  cases r with
  | non => cases h; exact .base .non
  | bl b => cases h; exact .base (.bl b)
  | int b => cases h; exact .base (.int b)
  | str b => cases h; exact .base (.str b)
  | tup e _ => cases h; exact .base (.tup (s _ _ e))
  | lst e _ => cases h; exact .base (.lst (s _ _ e))
  | frl e r => cases h; exact .base (.frz (s _ _ e))
  | dic e _ =>
    cases h
    exact .fDict (s _ _ e)
  | dit e _ => cases h
  | tpd _ _ _ => cases h
  | dib _ _ _ => cases h
  | mt => cases h
  | exc0 _ => cases h
  | exc _ _ _ => cases h
  | obj _ _ _ => cases h
def isStrB : U → Option Bool
  | .str _ => some true
  | .dit _ => none
  | .tpd _ => none
  | .dib _ => none
  | .mt => none
  | .exc _ _ => none
  | .rsd _ _ => none
  | .obj _ _ => none
  | _ => some false
def isTupB : U → Option Bool
  | .tup _ => some true
  | .dit _ => none
  | .tpd _ => none
  | .dib _ => none
  | .mt => none
  | .exc _ _ => none
  | .rsd _ _ => none
  | .obj _ _ => none
  | _ => some false
theorem isStr_kit {x : U} {b : Bool} (h : isStrB x = some b) : ∃ T, x.tyn = some T ∧ kitB T "str" = some b := by
  cases x <;> cases h <;> exact ⟨_, rfl, by decide +kernel⟩
theorem isTup_kit {x : U} {b : Bool} (h : isTupB x = some b) : ∃ T, x.tyn = some T ∧ kitB T "tuple" = some b := by
  cases x <;> cases h <;> exact ⟨_, rfl, by decide +kernel⟩
section
variable {σ : St} {B H : Hp} {te : TE} {oa : Option U} {K : PySem.W.Frag}
theorem eo_isi {T : String} {f : U → Option Bool} (hf : ∀ {x b}, f x = some b → ∃ S, x.tyn = some S ∧ kitB S T = some b) (h : EvO te σ B H oa) :
    EvO (tCB (rIsi K) (tCons te (tCons (tC (.ty T)) tNil))) σ B H (oa.bind fun x => (f x).map U.bl) := fun z e B1 H1 g Q q => by
  obtain ⟨x, ex, e⟩ := bind_some e
  obtain ⟨b, eb, e⟩ := map_some e
  subst e
  obtain ⟨S, e1, e2⟩ := hf eb
  exact h x ex B1 H1 g _ fun v B2 H2 g2 r => ⟨v, .ty T, .type S, .type T, b, rfl, .ty T, tyx_of e1 g2.bh r, kit_ty e2, q _ B2 H2 g2 (.bl b)⟩
theorem eo_isStr (h : EvO te σ B H oa) : EvO (tCB (rIsi K) (tCons te (tCons (tC (.ty "str")) tNil))) σ B H (oa.bind fun x => (isStrB x).map U.bl) := eo_isi isStr_kit h
theorem eo_isTup (h : EvO te σ B H oa) : EvO (tCB (rIsi K) (tCons te (tCons (tC (.ty "tuple")) tNil))) σ B H (oa.bind fun x => (isTupB x).map U.bl) := eo_isi isTup_kit h
end
def bools : List U → Option (List Bool)
  | [] => some []
  | .bl b :: xs => (bools xs).map fun r => b :: r
  | _ :: _ => none
def intsU : List U → Option (List Int)
  | [] => some []
  | .int b :: xs => (intsU xs).map fun r => b :: r
  | _ :: _ => none
theorem Rps.bools {B : Hp} : ∀ {xs : List U} {vs : List V} {bs : List Bool}, Rps B xs vs → Dn.bools xs = some bs → vs = bs.map V.bl
  | _, _, _, .nil, h => by cases h; rfl
  | _, _, _, .cons r t, h => by
    cases r with
    | bl b =>
      obtain ⟨c, ec, h⟩ := map_some h
      subst h
      rw [List.map_cons, t.bools ec]
    | _ => cases h
theorem Rps.intsOf {B : Hp} : ∀ {xs : List U} {vs : List V} {bs : List Int}, Rps B xs vs → intsU xs = some bs → vs = bs.map V.int
  | _, _, _, .nil, h => by cases h; rfl
  | _, _, _, .cons r t, h => by
    cases r with
    | int b =>
      obtain ⟨c, ec, h⟩ := map_some h
      subst h
      rw [List.map_cons, t.intsOf ec]
    | _ => cases h
/-- a call of one argument -/
def c1 (f : U → Option U) : List U → Option U
  | [x] => f x
  | _ => none
theorem c1_one {f : U → Option U} : ∀ xs z, c1 f xs = some z → ∃ x, xs = [x]
  | [x], _, _ => ⟨x, rfl⟩
  | [], _, e => by cases e
  | _ :: _ :: _, _, e => by cases e
def allV : U → Option U
  | .lst xs => (bools xs).map fun bs => .bl (bs.all id)
  | _ => none
def anyV : U → Option U
  | .lst xs => (bools xs).map fun bs => .bl (bs.any id)
  | _ => none
theorem rc_all {K : PySem.W.Frag} : RC (rAll K) (c1 allV) := rc_one c1_one fun x z e v B H s rx Q q => by
  cases rx with
  | @lst a xs vs h r =>
    obtain ⟨bs, eb, e⟩ := map_some e
    subst e
    exact ⟨a, bs, rfl, by rw [← r.bools eb]; exact SqL.of (s _ _ h), q _ B H (Go.refl s) (.bl _)⟩
  | _ => cases e
theorem rc_any {K : PySem.W.Frag} : RC (rAny K) (c1 anyV) := rc_one c1_one fun x z e v B H s rx Q q => by
  cases rx with
  | @lst a xs vs h r =>
    obtain ⟨bs, eb, e⟩ := map_some e
    subst e
    exact ⟨a, bs, rfl, by rw [← r.bools eb]; exact SqL.of (s _ _ h), q _ B H (Go.refl s) (.bl _)⟩
  | _ => cases e
def kU : Key → U
  | .inl i => .int i
  | .inr x => .str x
theorem rp_key {B : Hp} (k : Key) : Rp B (kU k) (kV k) := by
  cases k with
  | inl i => exact .int i
  | inr i => exact .str i
theorem Rpk.keys {B : Hp} : ∀ {xs : List (Key × U)} {vs : List (Key × V)}, Rpk B xs vs → Rps B (xs.map fun kv => kU kv.1) (vs.map fun kv => kV kv.1)
  | _, _, .nil => .nil
  | _, _, .cons _ t => .cons (rp_key _) (Rpk.keys t)
def tupleV : U → Option U
  | .lst xs => some (.tup xs)
  | .tup xs => some (.tup xs)
  | _ => none
def rTupleA (K : PySem.W.Frag) : List V → Hp → VK → Prop := fun xs H Q => ∃ p ys, xs = [.ref p] ∧ ((SqL K H p ys ∧ ∀ l, H l = none → Q (.ref l) (upd H l (.tup ys))) ∨ (SqT K H p ys ∧ Q (.ref p) H))
theorem rc_tuple {K : PySem.W.Frag} : RC (rTupleA K) (c1 tupleV) := rc_one c1_one fun x z e v B H s rx Q q => by
  cases rx with
  | @lst a xs vs h r => cases e; exact ⟨a, vs, rfl, .inl ⟨SqL.of (s _ _ h), fun p hp => q _ _ _ (Go.new s hp) (.tup upd_same (r.new s hp))⟩⟩
  | @tup a xs vs h r => cases e; exact ⟨a, vs, rfl, .inr ⟨SqT.of (s _ _ h), q _ B H (Go.refl s) (.tup h r)⟩⟩
  | _ => cases e
def absU : U → Option U
  | .int i => some (.int (if i < 0 then -i else i))
  | _ => none
theorem rc_abs : RC (fun xs H Q => ∃ i, xs = [V.int i] ∧ Q (.int (if i < 0 then -i else i)) H) (c1 absU) := rc_one c1_one fun x z e v B H s rx Q q => by
  cases rx with
  | int i => cases e; exact ⟨i, rfl, q _ B H (Go.refl s) (.int _)⟩
  | _ => cases e
def intV : U → Option U
  | .int i => some (.int i)
  | .bl b => some (.int (if b then 1 else 0))
  | _ => none
theorem rc_int : RC (fun xs H Q => (∃ i, xs = [V.int i] ∧ Q (.int i) H) ∨ ∃ k, xs = [V.bl k] ∧ Q (.int (if k then 1 else 0)) H) (c1 intV) := rc_one c1_one fun x z e v B H s rx Q q => by
  cases rx with
  | int i => cases e; exact .inl ⟨i, rfl, q _ B H (Go.refl s) (.int _)⟩
  | bl b => cases e; exact .inr ⟨b, rfl, q _ B H (Go.refl s) (.int _)⟩
  | _ => cases e
/-- a call of two ints -/
def c2i (f : Int → Int → Option U) : List U → Option U
  | [.int i, .int j] => f i j
  | _ => none
theorem rc_two {f : Int → Int → Option U} {r : List V → Hp → VK → Prop}
    (h : ∀ i j z, f i j = some z → ∀ B H, Ok B H → ∀ Q : VK, (∀ v2 B2 H2, Go B H B2 H2 → Rp B2 z v2 → Q v2 H2) → r [.int i, .int j] H Q) : RC r (c2i f) := fun xs z e vs B H s rs Q q => by
  unfold c2i at e
  split at e
  · rename_i i j
    cases rs with
    | cons r1 t =>
      cases t with
      | cons r2 t =>
        cases t
        cases r1
        cases r2
        exact h i j z e B H s Q q
  · cases e
def maxU : List U → Option U := c2i fun i j => some (.int (if j > i then j else i))
def minU : List U → Option U := c2i fun i j => some (.int (if j < i then j else i))
def divmodU : List U → Option U := c2i fun i j => if 0 < j ∧ j < 1073741824 then some (.tup [.int (i / j), .int (i % j)]) else none
theorem rc_max : RC (fun xs H Q => ∃ i j, xs = [V.int i, .int j] ∧ Q (.int (if j > i then j else i)) H) maxU := rc_two fun i j z e B H s Q q => by cases e; exact ⟨i, j, rfl, q _ B H (Go.refl s) (.int _)⟩
theorem rc_min : RC (fun xs H Q => ∃ i j, xs = [V.int i, .int j] ∧ Q (.int (if j < i then j else i)) H) minU := rc_two fun i j z e B H s Q q => by cases e; exact ⟨i, j, rfl, q _ B H (Go.refl s) (.int _)⟩
theorem rc_divmod : RC (fun xs H Q => ∃ i j, xs = [V.int i, .int j] ∧ CDiv i j ∧ ∀ p, H p = none → Q (.ref p) (upd H p (.tup [.int (i / j), .int (i % j)]))) divmodU := rc_two fun i j z e B H s Q q => by
  split at e
  · rename_i hj
    cases e
    exact ⟨i, j, rfl, hj, fun p hp => q _ _ _ (Go.new s hp) (.tup upd_same (.cons (.int _) (.cons (.int _) .nil)))⟩
  · cases e
end Dn
set_option Elab.async false
set_option linter.all false
set_option maxRecDepth 100000
set_option maxHeartbeats 2000000
namespace Dn
open PySem L2
variable [CTab]
structure WalkU (J : It) (xs : List U) (B2 : Hp) : Prop where
  goes : ∀ i H, i < xs.length → Ok B2 H → J.go i H
  stops : ∀ H, Ok B2 H → J.stop xs.length H
  yields : ∀ i H x H' B, i < xs.length → Same B2 B → Ok B H → J.yld i H x H' → ∃ B' u, Go B H B' H' ∧ xs[i]? = some u ∧ Rp B' u x
def EvI (wi : TI) (σ : St) (B H : Hp) (o : Option (List U)) : Prop :=
  ∀ xs, o = some xs → ∀ B1 H1, At B B1 H1 → ∀ R : It → Hp → Prop, (∀ J B2 H2, Go B1 H1 B2 H2 → WalkU J xs B2 → R J H2) → wi σ H1 R
/-- a walk that leaves the heap as it is -/
theorem WalkU.of {J : It} {n : Nat} {G : Hp → Prop} {vs : List V} {xs : List U} {B2 : Hp} (w : Walk J n G (YAt vs)) (hn : n = xs.length) (hG : ∀ H, Ok B2 H → G H) (r : Rps B2 xs vs) : WalkU J xs B2 := by
  subst hn
  refine ⟨fun i H hi s => w.goes i H hi (hG H s), fun H s => w.stops H (hG H s), fun i H x H' B hi s1 s2 y => ?_⟩
  obtain ⟨e1, e2⟩ := w.yields i H x H' hi (hG H (s2.less s1)) y
  subst e1
  obtain ⟨u, eu, ru⟩ := r.back e2
  exact ⟨B, u, Go.refl s2, eu, ru.kp (Kp.of s1)⟩
section
variable {σ : St} {B H : Hp} {te tl : TE} {oa : Option U} {K : PySem.W.Frag}
/-- range -/
def rangeU (lo : Int) (n : Nat) : List U := (List.range n).map fun i => U.int (lo + (i : Nat))
theorem walk_rangeU {lo : Int} {n : Nat} {B2 : Hp} : WalkU (Itr lo n) (rangeU lo n) B2 := by
  have hl : (rangeU lo n).length = n := by simp [rangeU]
  refine ⟨fun i H hi _ => (walk_range (lo := lo) (n := n)).goes i H (by omega) trivial, fun H _ => by rw [hl]; exact (walk_range (lo := lo) (n := n)).stops H trivial, fun i H x H' B hi s1 s2 y => ?_⟩
  obtain ⟨e1, e2⟩ := (walk_range (lo := lo) (n := n)).yields i H x H' (by omega) trivial y
  subst e1 e2
  exact ⟨B, .int (lo + (i : Nat)), Go.refl s2, by simp [rangeU, show i < n by omega], .int _⟩
def rng1 : List U → Option (List U)
  | [.int j] => if j ≤ 100000 ∧ -100000 ≤ j then some (rangeU 0 j.toNat) else none
  | _ => none
theorem ei_rng1 {ta : TA} {ol : Option (List U)} (h : EvA ta σ B H ol) : EvI (iRng1 ta) σ B H (ol.bind rng1) := fun xs e B1 H1 g R q => by
  obtain ⟨x, ex, e⟩ := bind_some e
  unfold rng1 at e
  split at e
  · rename_i j
    split at e
    · rename_i hj
      cases e
      refine h _ ex B1 H1 g _ fun v B2 H2 g2 r => ?_
      cases r with
      | cons r1 t =>
        cases t
        cases r1
        exact ⟨j, rfl, by omega, by omega, q _ B2 H2 g2 walk_rangeU⟩
    · cases e
  · cases e
/-- a text, sign by sign -/
def signsU (z : Str) : List U := z.cps.toList.map fun c => U.str ⟨#[c]⟩
def U.signs : U → Option (List U)
  | .str z => some (signsU z)
  | _ => none
theorem ei_str (h : EvO te σ B H oa) : EvI (iStr te) σ B H (oa.bind U.signs) := fun xs e B1 H1 g R q => by
  obtain ⟨x, ex, e⟩ := bind_some e
  refine h x ex B1 H1 g _ fun v B2 H2 g2 r => ?_
  cases r with
  | str z =>
    cases e
    refine ⟨z, rfl, q _ B2 H2 g2 ?_⟩
    have hl : (signsU z).length = z.cps.size := by simp [signsU]
    refine ⟨fun i H hi _ => (walk_str (z := z)).goes i H (by omega) trivial, fun H _ => by rw [hl]; exact (walk_str (z := z)).stops H trivial, fun i H x H' B hi s1 s2 y => ?_⟩
    obtain ⟨e1, c, e2, e3⟩ := (walk_str (z := z)).yields i H x H' (by omega) trivial y
    subst e1 e3
    exact ⟨B, .str ⟨#[c]⟩, Go.refl s2, by simp [signsU, e2], .str _⟩
  | _ => cases e
def lcL (p : U → Option Bool) (f : U → Option U) : List U → Option (List U)
  | [] => some []
  | x :: r => (p x).bind fun b => if b = true then (f x).bind fun y => (lcL p f r).map fun z => y :: z else lcL p f r
def lcO (p : U → Option Bool) (f : U → Option U) (xs : List U) : Option U := if xs.length ≤ lim then (lcL p f xs).map U.lst else none
theorem et_yes {σ : St} {B H : Hp} : EvT tYes σ B H (some true) := fun z e B1 H1 g Q q => by cases e; exact q B1 H1 (Go.refl g.bh)
theorem drop_at {xs : List U} {i : Nat} {u : U} (h : xs[i]? = some u) : xs.drop i = u :: xs.drop (i + 1) := by
  obtain ⟨hi, e⟩ := List.getElem?_eq_some_iff.mp h
  rw [List.drop_eq_getElem_cons hi, e]
/-- the general form: g binds, σ2 is what it leaves -/
theorem eo_lcG {wi : TI} {g : TG} {tt : TT} {te : TE} {vs : List Nat} {oxs : Option (List U)} {p : U → Option Bool} {f : U → Option U} (hi : EvI wi σ B H oxs)
    (hg : ∀ u v B1 H1 (Q : St → Hp → Prop) b, At B B1 H1 → Rp B1 u v → p u = some b → (∀ σ2, wipe σ2 vs = wipe σ vs → EvT tt σ2 B1 H1 (some b) → (b = true → EvO te σ2 B1 H1 (f u)) → Q σ2 H1) → g v (wipe σ vs) H1 Q) :
    EvO (tLc wi g tt te vs) σ B H (oxs.bind fun xs => lcO p f xs) := fun z e B0 H0 g0 Q q => by
  obtain ⟨xs, exs, e⟩ := bind_some e
  unfold lcO at e
  split at e
  · rename_i hlim
    obtain ⟨zs, ezs, e⟩ := map_some e
    subst e
    refine hi xs exs B0 H0 g0 _ fun J B2 H2 g2 w => fun D hD => ?_
    have w' : Walk J xs.length (fun H' => Ok B2 H') (J.yld) := ⟨w.goes, w.stops, fun _ _ _ _ _ _ y => y⟩
    refine lc_it w' (fun i H' => ∃ Bi acc ys, Go B2 H2 Bi H' ∧ Bi D = none ∧ H' D = some (.lst acc) ∧ Rps Bi ys acc ∧ (lcL p f (xs.drop i)).map (fun r => ys ++ r) = some zs ∧ ys.length ≤ i) ?_ ?_ ?_ ?_
    · exact ⟨B2, [], [], Go.own g2.bh hD, g2.bh.free hD, upd_same, .nil, by simp [ezs], Nat.le_refl _⟩
    · rintro i H' _ ⟨Bi, _, _, gi, _⟩
      exact gi.bh.less gi.b
    · rintro i x H' H'' hin ⟨Bi, acc, ys, gi, hBD, hHD, ra, hr, hy⟩ y
      obtain ⟨B', u, g', eu, ru⟩ := w.yields i H' x H'' Bi hin gi.b gi.bh y
      rw [drop_at eu] at hr
      obtain ⟨rr, err, hr⟩ := map_some hr
      obtain ⟨b, eb, err⟩ := bind_some err
      have gg : At B B' H'' := (g0.trans g2).trans (gi.trans g')
      refine hg u x B' H'' _ b gg ru eb fun σ2 hw ht hte => ⟨hw, ?_⟩
      refine ht b rfl B' H'' (Go.refl gg.bh) _ fun B3 H3 g3 => ?_
      have hB'D : B' D = none := g'.noB hBD hHD
      have hH''D : H'' D = some (.lst acc) := g'.h _ _ hHD
      cases b with
      | true =>
        obtain ⟨yv, ey, err⟩ := bind_some (show (f u).bind _ = _ from err)
        obtain ⟨r2, er2, err⟩ := map_some err
        subst err
        refine hte rfl yv ey B3 H3 g3 _ fun v4 B4 H4 g4 r4 => ?_
        have g34 := g3.trans g4
        have hB4 : B4 D = none := g34.noB hB'D hH''D
        have hH4 : H4 D = some (.lst acc) := g34.h _ _ hH''D
        refine ⟨acc, hH4, lim_lt (by have := ra.length; omega), B4, acc ++ [v4], ys ++ [yv], ((gi.trans g').trans g34).mut hD hB4 (by assumption), hB4, upd_same, (((ra.up g').up g34).append (.one r4)), ?_, ?_⟩
        · rw [er2]
          simp only [Option.map_some]
          rw [← hr]
          simp
        · rw [List.length_append, List.length_singleton]; omega
      | false =>
        have hB3 : B3 D = none := g3.noB hB'D hH''D
        have hH3 : H3 D = some (.lst acc) := g3.h _ _ hH''D
        refine ⟨B3, acc, ys, (gi.trans g').trans g3, hB3, hH3, (ra.up g').up g3, ?_, by omega⟩
        have err : lcL p f (xs.drop (i + 1)) = some rr := err
        rw [err]
        exact congrArg some hr
    · rintro H' ⟨Bi, acc, ys, gi, hBD, hHD, ra, hr, _⟩
      rw [List.drop_length] at hr
      have e1 : ys = zs := by simpa [lcL] using hr
      subst e1
      exact q _ (upd Bi D (.lst acc)) H' (g2.trans (gi.keep hD hBD hHD)) (.lst upd_same (ra.kp (Kp.of fun b o e => by rw [upd_ne (ne_of_none e hBD)]; exact e)))
  · cases e
/-- one name -/
theorem eo_lc {wi : TI} {tt : TT} {te : TE} {vs : List Nat} {j : Nat} {oxs : Option (List U)} {p : U → Option Bool} {f : U → Option U} (hi : EvI wi σ B H oxs) (hw : ∀ x, wipe ((wipe σ vs).set j (some x)) vs = wipe σ vs)
    (hp : ∀ u v B1 H1, At B B1 H1 → Rp B1 u v → EvT tt ((wipe σ vs).set j (some v)) B1 H1 (p u)) (hf : ∀ u v B1 H1, At B B1 H1 → Rp B1 u v → EvO te ((wipe σ vs).set j (some v)) B1 H1 (f u)) :
    EvO (tLc wi (gName j) tt te vs) σ B H (oxs.bind fun xs => lcO p f xs) :=
  eo_lcG hi fun u v B1 H1 Q b g r eb k => k _ (hw v) (by rw [← eb]; exact hp u v B1 H1 g r) fun _ => hf u v B1 H1 g r
/-- two names -/
def unp2 : U → Option (U × U)
  | .tup [a, b] => some (a, b)
  | _ => none
theorem unp2_tup {u : U} {a b : U} (h : unp2 u = some (a, b)) : u = .tup [a, b] := by
  unfold unp2 at h
  split at h
  · cases h; rfl
  · cases h
theorem g_two {i j : Nat} {u a b : U} {v : V} {B1 H1 : Hp} {σ : St} {Q : St → Hp → Prop} (s : Ok B1 H1) (r : Rp B1 u v) (h : unp2 u = some (a, b)) (k : ∀ x y, Rp B1 a x → Rp B1 b y → Q ((σ.set i (some x)).set j (some y)) H1) :
    gTup K 2 (gCons (gName i) (gCons (gName j) gNil)) v σ H1 Q := by
  have e := unp2_tup h
  subst e
  cases r with
  | @tup ad _ vs e r =>
    cases r with
    | cons r1 t =>
      cases t with
      | cons r2 t =>
        cases t
        exact ⟨ad, _, rfl, SqT.of (s _ _ e), rfl, _, _, rfl, _, _, rfl, rfl, k _ _ r1 r2⟩
theorem eo_lc2n {wi : TI} {tt : TT} {te : TE} {vs : List Nat} {j1 j2 : Nat} {oxs : Option (List U)} {p : U → U → Option Bool} {f : U → U → Option U} (hi : EvI wi σ B H oxs) (hw : ∀ x y, wipe (((wipe σ vs).set j1 (some x)).set j2 (some y)) vs = wipe σ vs)
    (hp : ∀ a b v w B1 H1, At B B1 H1 → Rp B1 a v → Rp B1 b w → EvT tt (((wipe σ vs).set j1 (some v)).set j2 (some w)) B1 H1 (p a b)) (hf : ∀ a b v w B1 H1, At B B1 H1 → Rp B1 a v → Rp B1 b w → EvO te (((wipe σ vs).set j1 (some v)).set j2 (some w)) B1 H1 (f a b)) :
    EvO (tLc wi (gTup K 2 (gCons (gName j1) (gCons (gName j2) gNil))) tt te vs) σ B H (oxs.bind fun xs => lcO (fun u => (unp2 u).bind fun ab => p ab.1 ab.2) (fun u => (unp2 u).bind fun ab => f ab.1 ab.2) xs) :=
  eo_lcG hi fun u v B1 H1 Q b g r eb k => by
    obtain ⟨⟨x, y⟩, eu, eb⟩ := bind_some eb
    refine g_two g.bh r eu fun a' b' ra rb => k _ (hw a' b') (by rw [← eb]; exact hp x y a' b' B1 H1 g ra rb) fun _ => ?_
    rw [eu]
    exact hf x y a' b' B1 H1 g ra rb
end
end Dn
set_option Elab.async false
set_option linter.all false
set_option maxRecDepth 100000
set_option maxHeartbeats 2000000
namespace Dn
open PySem L2
variable [CTab]
def lc2L (p : U → Option Bool) (ys : U → Option (List U)) (p1 : U → U → Option Bool) (f : U → U → Option U) : List U → Option (List U)
  | [] => some []
  | x :: r => (p x).bind fun b => if b = true then (ys x).bind fun l => if l.length ≤ lim then (lcL (p1 x) (f x) l).bind fun a => (lc2L p ys p1 f r).map fun z => a ++ z else none else lc2L p ys p1 f r
def lc2O (p : U → Option Bool) (ys : U → Option (List U)) (p1 : U → U → Option Bool) (f : U → U → Option U) (xs : List U) : Option U := (lc2L p ys p1 f xs).bind fun zs => if zs.length ≤ lim then some (.lst zs) else none
section
variable {σ : St} {B H : Hp} {K : PySem.W.Frag}
theorem eo_lc2G {wi wi1 : TI} {g g1 : TG} {tt tt1 : TT} {te : TE} {vs vs1 : List Nat} {oxs : Option (List U)} {p : U → Option Bool} {ys : U → Option (List U)} {p1 : U → U → Option Bool} {f : U → U → Option U} (hi : EvI wi σ B H oxs)
    (hg : ∀ u v B1 H1 (Q : St → Hp → Prop) b, At B B1 H1 → Rp B1 u v → p u = some b → (∀ σ2, wipe σ2 vs = wipe σ vs → EvT tt σ2 B1 H1 (some b) → (b = true → EvI wi1 σ2 B1 H1 (ys u) ∧
      ∀ u' v' B2 H2 (Q' : St → Hp → Prop) b', At B1 B2 H2 → Rp B2 u' v' → p1 u u' = some b' → (∀ σ3, wipe σ3 vs1 = wipe σ2 vs1 → EvT tt1 σ3 B2 H2 (some b') → (b' = true → EvO te σ3 B2 H2 (f u u')) → Q' σ3 H2) → g1 v' (wipe σ2 vs1) H2 Q') → Q σ2 H1) → g v (wipe σ vs) H1 Q) :
    EvO (tLc2 wi g tt wi1 g1 tt1 te vs vs1) σ B H (oxs.bind fun xs => lc2O p ys p1 f xs) := fun z e B0 H0 g0 Q q => by
  obtain ⟨xs, exs, e⟩ := bind_some e
  obtain ⟨zs, ezs, e⟩ := bind_some e
  split at e
  · rename_i hzs
    cases e
    refine hi xs exs B0 H0 g0 _ fun J B2 H2 g2 w => fun D hD => ?_
    let Pv : Nat → Hp → Prop := fun i H' => ∃ Bi acc as, Go B2 H2 Bi H' ∧ Bi D = none ∧ H' D = some (.lst acc) ∧ Rps Bi as acc ∧ (lc2L p ys p1 f (xs.drop i)).map (fun r => as ++ r) = some zs
    refine ⟨fun i m H' => m = xs.length - i ∧ i ≤ xs.length ∧ Pv i H', ⟨xs.length, by simp, Nat.zero_le _, B2, [], [], Go.own g2.bh hD, g2.bh.free hD, upd_same, .nil, by simp [ezs]⟩, ?_⟩
    rintro i m H' ⟨rfl, hin, Bi, acc, as, gi, hBD, hHD, ra, hr⟩
    have sB : Ok B2 H' := gi.bh.less gi.b
    by_cases hlt : i < xs.length
    · refine .inr ⟨w.goes i H' hlt sB, Pv (i + 1), fun H'' p' => ⟨xs.length - (i + 1), by omega, rfl, hlt, p'⟩, fun x H'' y => ?_⟩
      obtain ⟨B', u, g', eu, ru⟩ := w.yields i H' x H'' Bi hlt gi.b gi.bh y
      rw [drop_at eu] at hr
      obtain ⟨rr, err, hr⟩ := map_some hr
      obtain ⟨b, eb, err⟩ := bind_some err
      have gg : At B B' H'' := (g0.trans g2).trans (gi.trans g')
      refine hg u x B' H'' _ b gg ru eb fun σ2 hw ht hte => ⟨hw, ?_⟩
      refine ht b rfl B' H'' (Go.refl gg.bh) _ fun B3 H3 g3 => ?_
      have hB'D : B' D = none := g'.noB hBD hHD
      have hH''D : H'' D = some (.lst acc) := g'.h _ _ hHD
      cases b with
      | false =>
        have hB3 : B3 D = none := g3.noB hB'D hH''D
        have hH3 : H3 D = some (.lst acc) := g3.h _ _ hH''D
        refine ⟨B3, acc, as, (gi.trans g').trans g3, hB3, hH3, (ra.up g').up g3, ?_⟩
        have err : lc2L p ys p1 f (xs.drop (i + 1)) = some rr := err
        rw [err]
        exact congrArg some hr
      | true =>
        obtain ⟨hI, hG1⟩ := hte rfl
        obtain ⟨l, el, err⟩ := bind_some (show (ys u).bind _ = _ from err)
        split at err
        · rename_i hl
          obtain ⟨a1, ea1, err⟩ := bind_some err
          obtain ⟨r2, er2, err⟩ := map_some err
          subst err
          refine hI l el B3 H3 g3 _ fun J1 B4 H4 g4 w1 => ?_
          have g34 : Go B' H'' B4 H4 := g3.trans g4
          have hB4D : B4 D = none := g34.noB hB'D hH''D
          have hH4D : H4 D = some (.lst acc) := g34.h _ _ hH''D
          have hrl : as.length + a1.length ≤ lim := by
            have e1 : zs = as ++ (a1 ++ r2) := hr.symm
            rw [e1] at hzs
            simp only [List.length_append] at hzs
            omega
          let Pw : Nat → Hp → Prop := fun j Hj => ∃ Bj accj bs, Go B4 H2 Bj Hj ∧ Bj D = none ∧ Hj D = some (.lst accj) ∧ Rps Bj (as ++ bs) accj ∧ (lcL (p1 u) (f u) (l.drop j)).map (fun r => bs ++ r) = some a1
          -- the position: B4 over H2, D is one's own
          have gB : Go B4 H2 B4 H4 := ⟨fun a o e n => g34.h a o ((gi.trans g').h a o e n) n, fun a e => (gi.trans g').n a (g34.n a e), Same.refl _, g34.bh, fun a o e => .inl e⟩
          refine ⟨fun j k Hj => k = l.length - j ∧ j ≤ l.length ∧ Pw j Hj ∧ True, ⟨l.length, by simp, Nat.zero_le _, ⟨B4, acc, [], gB, hB4D, hH4D, by simpa using (ra.up g').up g34, by simp [ea1]⟩, trivial⟩, ?_⟩
          rintro j k Hj ⟨rfl, hjn, ⟨Bj, accj, bs, gj, hBjD, hHjD, raj, hrj⟩, _⟩
          have sBj : Ok B4 Hj := gj.bh.less gj.b
          by_cases hjlt : j < l.length
          · refine .inr ⟨w1.goes j Hj hjlt sBj, Pw (j + 1), fun Hk p' => ⟨l.length - (j + 1), by omega, rfl, hjlt, p', trivial⟩, fun x1 Hk y1 => ?_⟩
            obtain ⟨Bk, u1, gk, eu1, ru1⟩ := w1.yields j Hj x1 Hk Bj hjlt gj.b gj.bh y1
            rw [drop_at eu1] at hrj
            obtain ⟨rj, erj, hrj⟩ := map_some hrj
            obtain ⟨b1, eb1, erj⟩ := bind_some erj
            have hBkD : Bk D = none := gk.noB hBjD hHjD
            have hHkD : Hk D = some (.lst accj) := gk.h _ _ hHjD
            have gBk : At B' Bk Hk := ⟨g34.b.trans (gj.b.trans gk.b), gk.bh⟩
            refine hG1 u1 x1 Bk Hk _ b1 gBk ru1 eb1 fun σ3 hw3 ht3 hte3 => ⟨hw3, ?_⟩
            refine ht3 b1 rfl Bk Hk (Go.refl gBk.bh) _ fun B5 H5 g5 => ?_
            have gj5 : Go B4 H2 B5 H5 := (gj.trans gk).trans g5
            have raj5 := (raj.up gk).up g5
            cases b1 with
            | true =>
              obtain ⟨yv, ey, erj⟩ := bind_some (show (f u u1).bind _ = _ from erj)
              obtain ⟨r3, er3, erj⟩ := map_some erj
              subst erj
              refine hte3 rfl yv ey B5 H5 g5 _ fun v6 B6 H6 g6 r6 => ?_
              have hB6 : B6 D = none := (g5.trans g6).noB hBkD hHkD
              have hH6 : H6 D = some (.lst accj) := (g5.trans g6).h _ _ hHkD
              refine ⟨accj, hH6, lim_lt ?_, B6, accj ++ [v6], bs ++ [yv], (gj5.trans g6).mut hD hB6 (by assumption), hB6, upd_same, ?_, ?_⟩
              · have e1 := raj.length
                have e2 : a1 = bs ++ (yv :: r3) := hrj.symm
                rw [e2] at hrl
                simp only [List.length_append, List.length_cons] at hrl e1
                omega
              · rw [← List.append_assoc]
                exact (raj5.up g6).append (.one r6)
              · rw [er3, ← hrj]
                simp
            | false =>
              have hB5 : B5 D = none := g5.noB hBkD hHkD
              have hH5 : H5 D = some (.lst accj) := g5.h _ _ hHkD
              refine ⟨B5, accj, bs, gj5, hB5, hH5, raj5, ?_⟩
              have erj : lcL (p1 u) (f u) (l.drop (j + 1)) = some rj := erj
              rw [erj]
              exact congrArg some hrj
          · have e1 : j = l.length := by omega
            subst e1
            rw [List.drop_length] at hrj
            have e1 : bs = a1 := by simpa [lcL] using hrj
            subst e1
            have g24 : Go B2 H2 B4 H4 := (gi.trans g').trans g34
            refine .inl ⟨w1.stops Hj sBj, Bj, accj, as ++ bs, ⟨fun a o e n => gj.h a o e n, gj.n, g24.b.trans gj.b, gj.bh, fun a o e => ?_⟩, hBjD, hHjD, raj, ?_⟩
            · rcases gj.fr a o e with e | e
              · exact g24.fr a o e
              · exact .inr e
            · rw [er2]
              rw [← hr]
              simp
        · cases err
    · have e1 : i = xs.length := by omega
      subst e1
      rw [List.drop_length] at hr
      have e1 : as = zs := by simpa [lc2L] using hr
      subst e1
      exact .inl ⟨w.stops H' sB, q _ (upd Bi D (.lst acc)) H' (g2.trans (gi.keep hD hBD hHD)) (.lst upd_same (ra.kp (Kp.of fun b o e => by rw [upd_ne (ne_of_none e hBD)]; exact e)))⟩
  · cases e
/-- one name each -/
theorem eo_lc2 {wi wi1 : TI} {tt tt1 : TT} {te : TE} {vs vs1 : List Nat} {j j1 : Nat} {oxs : Option (List U)} {p : U → Option Bool} {ys : U → Option (List U)} {p1 : U → U → Option Bool} {f : U → U → Option U} (hi : EvI wi σ B H oxs)
    (hw : ∀ x, wipe ((wipe σ vs).set j (some x)) vs = wipe σ vs) (hw1 : ∀ x y, wipe ((wipe ((wipe σ vs).set j (some x)) vs1).set j1 (some y)) vs1 = wipe ((wipe σ vs).set j (some x)) vs1)
    (hp : ∀ u v B1 H1, At B B1 H1 → Rp B1 u v → EvT tt ((wipe σ vs).set j (some v)) B1 H1 (p u)) (hy : ∀ u v B1 H1, At B B1 H1 → Rp B1 u v → EvI wi1 ((wipe σ vs).set j (some v)) B1 H1 (ys u))
    (hp1 : ∀ u v u' v' B1 H1, At B B1 H1 → Rp B1 u v → Rp B1 u' v' → EvT tt1 ((wipe ((wipe σ vs).set j (some v)) vs1).set j1 (some v')) B1 H1 (p1 u u'))
    (hf : ∀ u v u' v' B1 H1, At B B1 H1 → Rp B1 u v → Rp B1 u' v' → EvO te ((wipe ((wipe σ vs).set j (some v)) vs1).set j1 (some v')) B1 H1 (f u u')) :
    EvO (tLc2 wi (gName j) tt wi1 (gName j1) tt1 te vs vs1) σ B H (oxs.bind fun xs => lc2O p ys p1 f xs) :=
  eo_lc2G hi fun u v B1 H1 Q b g r eb k => k _ (hw v) (by rw [← eb]; exact hp u v B1 H1 g r) fun _ => ⟨hy u v B1 H1 g r, fun u' v' B2 H2 Q' b' g' r' eb' k' => by
    have gg : At B B2 H2 := g.tr g'
    exact k' _ (hw1 v v') (by rw [← eb']; exact hp1 u v u' v' B2 H2 gg (r.upA g') r') fun _ => hf u v u' v' B2 H2 gg (r.upA g') r'⟩
end
section
variable {σ : St} {B H B0 H0 : Hp} {K : PySem.W.Frag} {te tb : TE} {t : TT} {tu tw tz : TS} {D : Ends} {o : Option U} {r : U}
theorem q_ret (h : EvO te σ B H o) (e : o = some r) (g : Go B0 H0 B H) (k : ∀ v B2 H2, Go B0 H0 B2 H2 → Rp B2 r v → D.rt v H2) : tSeq (tRet te) tz D σ H :=
  h r e B H (Go.refl g.bh) _ fun v B2 H2 g2 r2 => k v B2 H2 (g.trans g2) r2
theorem q_asg {α : Type} {i : Nat} {f : U → Option α} {m : α} (s : Ok B H) (h : EvO te σ B H o) (e : o.bind f = some m) (k : ∀ x v B1 H1, Go B H B1 H1 → Rp B1 x v → f x = some m → tz D (σ.set i (some v)) H1) : tSeq (tAsg te (gName i)) tz D σ H := by
  obtain ⟨x, ex, e⟩ := bind_some e
  exact h x ex B H (Go.refl s) _ fun v B2 H2 g2 r2 => k x v B2 H2 g2 r2 e
theorem q_expr {α : Type} {f : U → Option α} {m : α} (s : Ok B H) (h : EvO te σ B H o) (e : o.bind f = some m) (k : ∀ x v B1 H1, Go B H B1 H1 → Rp B1 x v → f x = some m → tz D σ H1) : tSeq (tDrop te) tz D σ H := by
  obtain ⟨x, ex, e⟩ := bind_some e
  exact h x ex B H (Go.refl s) _ fun v B2 H2 g2 r2 => k x v B2 H2 g2 r2 e
theorem q_if {α : Type} {c : Option Bool} {m1 m2 : Option α} {m : α} (s : Ok B H) (h : EvT t σ B H c) (e : ifO c m1 m2 = some m) (h1 : c = some true → m1 = some m → ∀ B1 H1, Go B H B1 H1 → tu { D with nx := tz D } σ H1) (h2 : c = some false → m2 = some m → ∀ B1 H1, Go B H B1 H1 → tw { D with nx := tz D } σ H1) : tSeq (tIfS t tu tw) tz D σ H := by
  obtain ⟨x, ex, e⟩ := bind_some e
  refine h x ex B H (Go.refl s) _ fun B2 H2 g2 => ?_
  cases x with
  | true => exact h1 ex e B2 H2 g2
  | false => exact h2 ex e B2 H2 g2
theorem q_for {wi : TI} {g : TG} {oxs : Option (List U)} {xs : List U} (s : Ok B H) (hi : EvI wi σ B H oxs) (exs : oxs = some xs)
    (k : ∀ B2 H2, Go B H B2 H2 → ∃ R : List U → St → Hp → Hp → Prop, R xs σ B2 H2 ∧ (∀ l σ' B' H', R l σ' B' H' → Same B2 B' ∧ Ok B' H') ∧
      (∀ u l v σ' B' H' B'' H'', R (u :: l) σ' B' H' → Go B' H' B'' H'' → Rp B'' u v → g v σ' H'' fun σ2 H3 => tu { D with nx := fun σ3 H4 => ∃ B4, R l σ3 B4 H4, ct := fun σ3 H4 => ∃ B4, R l σ3 B4 H4, bk := tz D } σ2 H3) ∧
      (∀ σ' B' H', R [] σ' B' H' → tz D σ' H')) : tSeq (tFor wi g tu) tz D σ H := by
  refine hi xs exs B H (Go.refl s) _ fun J B2 H2 g2 w => ?_
  obtain ⟨R, r0, rs, rt, rd⟩ := k B2 H2 g2
  have w' : Walk J xs.length (fun H' => Ok B2 H') (J.yld) := ⟨w.goes, w.stops, fun _ _ _ _ _ _ y => y⟩
  refine for_it (D := { D with nx := tz D }) w' (fun i σ' H' => ∃ B', R (xs.drop i) σ' B' H') ⟨B2, r0⟩ (fun i σ' H' _ ⟨B', r⟩ => (rs _ _ _ _ r).2.less (rs _ _ _ _ r).1) ?_ ?_
  · rintro i x σ' H' H'' hin ⟨B', r⟩ y
    obtain ⟨s1, s2⟩ := rs _ _ _ _ r
    obtain ⟨B'', u, g', eu, ru⟩ := w.yields i H' x H'' B' hin s1 s2 y
    rw [drop_at eu] at r
    exact rt u _ x σ' B' H' B'' H'' r g' ru
  · rintro σ' H' ⟨B', r⟩
    rw [List.drop_length] at r
    exact rd σ' B' H' r
end
def a1 (f : U → Option U) : List U → Option U
  | [x] => f x
  | _ => none
def a2 (f : U → U → Option U) : List U → Option U
  | [x, y] => f x y
  | _ => none
def a3 (f : U → U → U → Option U) : List U → Option U
  | [x, y, z] => f x y z
  | _ => none
def a4 (f : U → U → U → U → Option U) : List U → Option U
  | [x, y, z, w] => f x y z w
  | _ => none
def a5 (f : U → U → U → U → U → Option U) : List U → Option U
  | [x, y, z, w, q] => f x y z w q
  | _ => none
section
variable {vs : List V} {H : Hp} {Q : VK} {E : XK}
theorem sp1 {f : U → Option U} (h : spU (a1 f) vs H Q E) : ∃ B x v r, vs = [v] ∧ Ok B H ∧ Rp B x v ∧ f x = some r ∧ ∀ v B2 H2, Go B H B2 H2 → Rp B2 r v → Q v H2 := by
  obtain ⟨B, xs, r, s, rs, e, k⟩ := h
  match xs, rs, e with
  | [x], .cons r1 .nil, e => exact ⟨B, x, _, r, rfl, s, r1, e, k⟩
theorem sp2 {f : U → U → Option U} (h : spU (a2 f) vs H Q E) : ∃ B x y v w r, vs = [v, w] ∧ Ok B H ∧ Rp B x v ∧ Rp B y w ∧ f x y = some r ∧ ∀ v B2 H2, Go B H B2 H2 → Rp B2 r v → Q v H2 := by
  obtain ⟨B, xs, r, s, rs, e, k⟩ := h
  match xs, rs, e with
  | [x, y], .cons r1 (.cons r2 .nil), e => exact ⟨B, x, y, _, _, r, rfl, s, r1, r2, e, k⟩
end
end Dn
set_option Elab.async false
set_option linter.all false
set_option maxRecDepth 100000
set_option maxHeartbeats 2000000
namespace Dn
open PySem L2
variable [CTab]
def op2 (f : U → U → Option U) (a b : Option U) : Option U := a.bind fun x => b.bind fun y => f x y
def op1 (f : U → Option U) (a : Option U) : Option U := a.bind f
def isO (f : U → Option Bool) (a : Option U) : Option U := a.bind fun x => (f x).map U.bl
def slO (a : Option U) (l h : Option (Option Int)) : Option U := a.bind fun x => l.bind fun lo => h.bind fun hi => sliceV x lo hi
def ptO (a : Option U) : Option (Option Int) := (a.bind U.asI).map some
def testO (a : Option U) : Option Bool := a.bind U.asB
def callO (m : List U → Option U) (a : Option (List U)) : Option U := a.bind m
def iterO (f : U → Option (List U)) (a : Option U) : Option (List U) := a.bind f
def rngO (f : List U → Option (List U)) (a : Option (List U)) : Option (List U) := a.bind f
def compO (p : U → Option Bool) (f : U → Option U) (xs : Option (List U)) : Option U := xs.bind fun l => lcO p f l
def compO2 (p : U → U → Option Bool) (f : U → U → Option U) (xs : Option (List U)) : Option U := xs.bind fun l => lcO (fun u => (unp2 u).bind fun ab => p ab.1 ab.2) (fun u => (unp2 u).bind fun ab => f ab.1 ab.2) l
def compOO (p : U → Option Bool) (ys : U → Option (List U)) (p1 : U → U → Option Bool) (f : U → U → Option U) (xs : Option (List U)) : Option U := xs.bind fun l => lc2O p ys p1 f l
/-- a < b <= c -/
def chainO (f f' : U → U → Option U) (a b c : Option U) : Option U := a.bind fun x => b.bind fun y => (f x y).bind fun z => z.asB.bind fun k => if k = true then c.bind fun w => f' y w else some (.bl false)
section
variable {σ : St} {B H B1 H1 : Hp} {ta tb te tc : TE} {t u : TT} {oa ob oc : Option U} {K : PySem.W.Frag}
theorem eo_op2 {r : R2} {f : U → U → Option U} (hr : RV r f) (ha : EvO ta σ B H oa) (hb : EvO tb σ B H ob) : EvO (tOp r ta tb) σ B H (op2 f oa ob) := eo_op ha hb hr
theorem eo_op1 {r : V → Hp → VK → Prop} {f : U → Option U} (hr : RU r f) (ha : EvO ta σ B H oa) : EvO (tUn r ta) σ B H (op1 f oa) := eo_un ha hr
theorem eo_cb' {r : List V → Hp → VK → Prop} {f : List U → Option U} {tl : TA} {ol : Option (List U)} (hr : RC r f) (ha : EvA tl σ B H ol) : EvO (tCB r tl) σ B H (callO f ol) := eo_cb ha hr
theorem eo_chain {r r' : R2} {f f' : U → U → Option U} (hr : RV r f) (hr' : RV r' f') (ha : EvO ta σ B H oa) (hb : EvO tb σ B H ob) (hc : EvO tc σ B H oc) : EvO (tChain r r' ta tb tc) σ B H (chainO f f' oa ob oc) := fun z e B1 H1 g Q q => by
  obtain ⟨x, ex, e⟩ := bind_some e
  obtain ⟨y, ey, e⟩ := bind_some e
  obtain ⟨z1, ez, e⟩ := bind_some e
  obtain ⟨k, ek, e⟩ := bind_some e
  refine ha x ex B1 H1 g _ fun v B2 H2 g2 r2 => hb y ey B2 H2 (g.trans g2) _ fun w B3 H3 g3 r3 => hr x y z1 ez v w B3 H3 g3.bh (r2.up g3) r3 _ fun v2 B4 H4 g4 r4 => ?_
  cases z1 <;> cases ek
  cases r4
  refine ⟨k, rfl, ?_⟩
  cases k with
  | true =>
    obtain ⟨w1, ew, e⟩ := bind_some (show oc.bind _ = _ from e)
    exact hc w1 ew B4 H4 (((g.trans g2).trans g3).trans g4) _ fun v5 B5 H5 g5 r5 => hr' y w1 z e w v5 B5 H5 g5.bh ((r3.up g4).up g5) r5 Q fun v6 B6 H6 g6 r6 => q v6 B6 H6 ((((g2.trans g3).trans g4).trans g5).trans g6) r6
  | false =>
    cases e
    exact q _ B4 H4 ((g2.trans g3).trans g4) (.bl false)
end
theorem Rp.sm {B B' : Hp} {u : U} {v : V} (r : Rp B u v) (s : Same B B') : Rp B' u v := r.kp (Kp.of s)
section
variable {σ : St} {B H B0 H0 : Hp} {K : PySem.W.Frag} {te tb : TE} {t : TT} {tu tw tz : TS} {D : Ends} {o : Option U} {r : U}
theorem q_forM {α : Type} {wi : TI} {g : TG} {oxs : Option (List U)} {F : List U → Option α} {m : α} (s : Ok B H) (hi : EvI wi σ B H oxs) (e : oxs.bind F = some m)
    (k : ∀ xs B2 H2, F xs = some m → Go B H B2 H2 → ∃ R : List U → St → Hp → Hp → Prop, R xs σ B2 H2 ∧ (∀ l σ' B' H', R l σ' B' H' → Same B2 B' ∧ Ok B' H') ∧
      (∀ u l v σ' B' H' B'' H'', R (u :: l) σ' B' H' → Go B' H' B'' H'' → Rp B'' u v → g v σ' H'' fun σ2 H3 => tu { D with nx := fun σ3 H4 => ∃ B4, R l σ3 B4 H4, ct := fun σ3 H4 => ∃ B4, R l σ3 B4 H4, bk := tz D } σ2 H3) ∧
      (∀ σ' B' H', R [] σ' B' H' → tz D σ' H')) : tSeq (tFor wi g tu) tz D σ H := by
  obtain ⟨xs, exs, e⟩ := bind_some e
  exact q_for s hi exs fun B2 H2 g2 => k xs B2 H2 e g2
end
end Dn
set_option Elab.async false
set_option linter.all false
set_option maxRecDepth 100000
set_option maxHeartbeats 2000000
namespace Dn
open PySem L2
end Dn
set_option Elab.async false
set_option linter.all false
set_option maxRecDepth 100000
set_option maxHeartbeats 2000000
namespace Dn
open PySem PySem.Spec PyProof.Rows L2
variable [CTab]
def IterX (k : Bool) (h : Heap) (it a : Addr) (i : Nat) : Prop := if k = true then h.IsTupleIter it a i else h.IsListIter it a i
theorem IterX.at {k : Bool} {h h' : Heap} {it a : Addr} {i : Nat} (x : IterX k h it a i) (e : ∀ o, h.get? it = some o → h'.get? it = some o) : IterX k h' it a i := by
  cases k with
  | true => exact (show h.IsTupleIter it a i from x).at e
  | false => exact (show h.IsListIter it a i from x).at e
end Dn
set_option Elab.async false
set_option linter.all false
set_option maxRecDepth 100000
set_option maxHeartbeats 2000000
namespace Dn
open PySem L2
variable [CTab]
structure Gs (M : Addr → Prop) (B H B2 H2 : Hp) : Prop where
  h : ∀ a o, H a = some o → ¬ M a → (n : NT o := by (first | rfl | assumption)) → H2 a = some o
  n : ∀ a, H2 a = none → H a = none
  b : Same B B2
  bh : Ok B2 H2
  fr : ∀ a o, B2 a = some o → B a = some o ∨ H a = none ∨ M a
section
variable {M M' : Addr → Prop} {B H B1 H1 B2 H2 B3 H3 : Hp}
theorem Gs.of (g : Go B H B2 H2) : Gs M B H B2 H2 := ⟨fun a o e _ n => g.h a o e n, g.n, g.b, g.bh, fun a o e => (g.fr a o e).imp_right .inl⟩
theorem Gs.go (g : Gs (fun _ => False) B H B2 H2) : Go B H B2 H2 := ⟨fun a o e n => g.h a o e id n, g.n, g.b, g.bh, fun a o e => by
  rcases g.fr a o e with e | e | e
  · exact .inl e
  · exact .inr e
  · exact e.elim⟩
theorem Gs.refl (s : Ok B H) : Gs M B H B H := .of (Go.refl s)
theorem Gs.trans (x : Gs M B H B2 H2) (y : Gs M B2 H2 B3 H3) : Gs M B H B3 H3 :=
  ⟨fun a o e hm n => y.h a o (x.h a o e hm n) hm n, fun a e => x.n a (y.n a e), x.b.trans y.b, y.bh, fun a o e => by
    rcases y.fr a o e with e | e | e
    · exact x.fr a o e
    · exact .inr (.inl (x.n a e))
    · exact .inr (.inr e)⟩
theorem Gs.mono (x : Gs M B H B2 H2) (h : ∀ a, M a → M' a) : Gs M' B H B2 H2 := ⟨fun a o e hm n => x.h a o e (fun z => hm (h a z)) n, x.n, x.b, x.bh, fun a o e => by
    rcases x.fr a o e with e | e | e
    · exact .inl e
    · exact .inr (.inl e)
    · exact .inr (.inr (h a e))⟩
theorem Gs.noB {p : Addr} {o : HO} (g : Gs M B H B2 H2) (hb : B p = none) (hp : H p = some o) (hM : ¬ M p) : B2 p = none := by
  cases q : B2 p with
  | none => rfl
  | some u =>
    rcases g.fr p u q with z | z | z
    · rw [hb] at z; cases z
    · rw [hp] at z; cases z
    · exact absurd z hM
theorem At.trs (x : At B B1 H1) (y : Gs M B1 H1 B2 H2) : At B B2 H2 := ⟨x.b.trans y.b, y.bh⟩
theorem Gs.at (g : Gs M B H B2 H2) : At B B2 H2 := ⟨g.b, g.bh⟩
/-- what changes below the base: what the base lets, or what is not there yet -/
theorem Gs.base {B0 H0 : Hp} (x : Gs M B0 H0 B H) (y : Gs M' B H B2 H2) (h : ∀ a, M' a → M a ∨ H0 a = none) : Gs M B0 H0 B2 H2 :=
  ⟨fun a o e hm n => y.h a o (x.h a o e hm n) (fun z => by
      rcases h a z with z | z
      · exact hm z
      · (rw [e] at z; exact nomatch z)) n, fun a e => x.n a (y.n a e), x.b.trans y.b, y.bh, fun a o e => by
    rcases y.fr a o e with e | e | e
    · exact x.fr a o e
    · exact .inr (.inl (x.n a e))
    · rcases h a e with e | e
      · exact .inr (.inr e)
      · exact .inr (.inl e)⟩
end
def U.own : U → Bool
  | .frl _ | .dic _ | .dit _ => true
  | _ => false
/-- one's own object at p -/
def OwnAt (B H : Hp) (p : Addr) : U → Prop
  | .frl xs => ∃ vs, H p = some (.lst vs) ∧ Rps B xs vs
  | .dic kvs => ∃ es, H p = some (.dK es) ∧ Rpk B kvs es
  | .dit kvs => ∃ es, H p = some (.dT es) ∧ Rpt B kvs es
  | .obj C fs => ∃ dx es, H p = some (.ins (CTab.ct C) dx es) ∧ Rpf B fs es
  | _ => False
/-- an instance of one's own -/
def U.isO : U → Bool
  | .obj _ _ => true
  | _ => false
theorem OwnAt.ex {B H : Hp} {p : Addr} {u : U} (h : OwnAt B H p u) : ∃ o, H p = some o ∧ NT o := by
  cases u with
  | frl xs => obtain ⟨_, e, _⟩ := h; exact ⟨_, e, rfl⟩
  | dic xs => obtain ⟨_, e, _⟩ := h; exact ⟨_, e, rfl⟩
  | dit xs => obtain ⟨_, e, _⟩ := h; exact ⟨_, e, rfl⟩
  | obj C xs => obtain ⟨_, _, e, _⟩ := h; exact ⟨_, e, rfl⟩
  | _ => exact h.elim
theorem OwnAt.up {B H B2 H2 : Hp} {p : Addr} {u : U} (h : OwnAt B H p u) (e : ∀ o, H p = some o → NT o → H2 p = some o) (s : Same B B2) : OwnAt B2 H2 p u := by
  cases u with
  | frl xs => obtain ⟨vs, h1, r⟩ := h; exact ⟨vs, e _ h1 rfl, r.kp (Kp.of s)⟩
  | dic xs => obtain ⟨vs, h1, r⟩ := h; exact ⟨vs, e _ h1 rfl, r.kp (Kp.of s)⟩
  | dit xs => obtain ⟨vs, h1, r⟩ := h; exact ⟨vs, e _ h1 rfl, r.kp (Kp.of s)⟩
  | obj C xs => obtain ⟨dx, vs, h1, r⟩ := h; exact ⟨dx, vs, e _ h1 rfl, r.kp (Kp.of s)⟩
  | _ => exact h.elim
/-- .non: it is taken away, nothing is said -/
structure OwP (M : Addr → Prop) (B H : Hp) (p : Addr) (u : U) : Prop where
  m : M p
  ex : ∃ o, H p = some o ∧ NT o
  at_ : u = .non ∨ (B p = none ∧ OwnAt B H p u)
theorem OwP.own {M : Addr → Prop} {B H : Hp} {p : Addr} {u : U} (w : OwP M B H p u) (h : u.own = true) : B p = none ∧ OwnAt B H p u := by
  rcases w.at_ with e | e
  · subst e; cases h
  · exact e
theorem OwP.obj {M : Addr → Prop} {B H : Hp} {p : Addr} {u : U} (w : OwP M B H p u) (h : u.isO = true) : B p = none ∧ OwnAt B H p u := by
  rcases w.at_ with e | e
  · subst e; cases h
  · exact e
structure Ows (M : Addr → Prop) (B H : Hp) (ps : List Addr) (us : List U) : Prop where
  len : us.length = ps.length
  nd : ∀ (i j : Nat) p, ps[i]? = some p → ps[j]? = some p → i = j
  at_ : ∀ (j : Nat) p u, ps[j]? = some p → us[j]? = some u → OwP M B H p u
abbrev inP (ps : List Addr) : Addr → Prop := fun a => a ∈ ps
section
variable {M : Addr → Prop} {B H B1 H1 B2 H2 : Hp} {ps : List Addr} {us : List U}
theorem ows_nil : Ows M B H [] [] := ⟨rfl, fun i j p h => by simp at h, fun j p u h => by simp at h⟩
theorem Ows.get (w : Ows M B H ps us) {j : Nat} {u : U} (h : us[j]? = some u) : ∃ p, ps[j]? = some p ∧ OwP M B H p u := by
  have hl : j < ps.length := by rw [← w.len]; exact (List.getElem?_eq_some_iff.mp h).1
  exact ⟨ps[j], by simp [hl], w.at_ j _ u (by simp [hl]) h⟩
theorem Ows.ofMem (w : Ows M B H ps us) {p : Addr} (h : p ∈ ps) : ∃ (j : Nat) (u : U), ps[j]? = some p ∧ us[j]? = some u ∧ OwP M B H p u := by
  obtain ⟨j, hj, e⟩ := List.getElem_of_mem h
  have hl : j < us.length := by rw [w.len]; exact hj
  exact ⟨j, us[j], by simp [hj, e], by simp [hl], w.at_ j p _ (by simp [hj, e]) (by simp [hl])⟩
theorem Ows.exs (w : Ows M B H ps us) {p : Addr} (h : p ∈ ps) : ∃ o, H p = some o := by
  obtain ⟨j, u, _, _, q⟩ := w.ofMem h
  obtain ⟨o, e, _⟩ := q.ex
  exact ⟨o, e⟩
theorem Ows.ms (w : Ows M B H ps us) {p : Addr} (h : p ∈ ps) : M p := by
  obtain ⟨j, u, _, _, q⟩ := w.ofMem h
  exact q.m
theorem Ows.fresh (w : Ows M B H ps us) {p : Addr} (h : H p = none) : p ∉ ps := fun z => by
  obtain ⟨o, e⟩ := w.exs z
  rw [h] at e; cases e
/-- nothing of one's own has changed -/
theorem Ows.keep (w : Ows M B H ps us) (e : ∀ p ∈ ps, ∀ o, H p = some o → NT o → H2 p = some o) (s : Same B B2) (hb : ∀ p ∈ ps, B p = none → B2 p = none) : Ows M B2 H2 ps us :=
  ⟨w.len, w.nd, fun j p u hp hu => by
    have hm : p ∈ ps := List.mem_of_getElem? hp
    obtain ⟨q1, ⟨o, q2, q2n⟩, q3⟩ := w.at_ j p u hp hu
    refine ⟨q1, ⟨o, e p hm o q2 q2n, q2n⟩, ?_⟩
    rcases q3 with q3 | ⟨q3, q4⟩
    · exact .inl q3
    · exact .inr ⟨hb p hm q3, q4.up (e p hm) s⟩⟩
theorem Ows.go (w : Ows M B H ps us) (g : Go B H B2 H2) : Ows M B2 H2 ps us := w.keep (fun p _ o e n => g.h p o e n) g.b fun p hp hb => by
  obtain ⟨o, e⟩ := w.exs hp
  exact g.noB hb e
theorem Ows.set (w : Ows M B H ps us) {j : Nat} {p : Addr} {u : U} (hp : ps[j]? = some p) (e : ∀ q ∈ ps, q ≠ p → ∀ o, H q = some o → NT o → H2 q = some o) (s : Same B B2) (hb : ∀ q ∈ ps, q ≠ p → B q = none → B2 q = none) (n : OwP M B2 H2 p u) : Ows M B2 H2 ps (us.set j u) := by
  have hj : j < us.length := by rw [w.len]; exact (List.getElem?_eq_some_iff.mp hp).1
  refine ⟨by rw [List.length_set, w.len], w.nd, fun i q v hq hv => ?_⟩
  by_cases hij : i = j
  · subst hij
    rw [hp] at hq; cases hq
    rw [List.getElem?_set_self hj] at hv; cases hv
    exact n
  · rw [List.getElem?_set_ne (Ne.symm hij)] at hv
    have hm : q ∈ ps := List.mem_of_getElem? hq
    have hne : q ≠ p := fun z => hij (w.nd i j q hq (by rw [z]; exact hp))
    obtain ⟨q1, ⟨o, q2, q2n⟩, q3⟩ := w.at_ i q v hq hv
    refine ⟨q1, ⟨o, e q hm hne o q2 q2n, q2n⟩, ?_⟩
    rcases q3 with q3 | ⟨q3, q4⟩
    · exact .inl q3
    · exact .inr ⟨hb q hm hne q3, q4.up (e q hm hne) s⟩
/-- one more -/
theorem Ows.add (w : Ows M B H ps us) {p : Addr} {u : U} (hn : p ∉ ps) (n : OwP M B H p u) : Ows M B H (ps ++ [p]) (us ++ [u]) := by
  refine ⟨by simp [w.len], ?_, fun j q v hq hv => ?_⟩
  · intro a b q ha hb
    have key : ∀ (a : Nat), (ps ++ [p])[a]? = some q → (a < ps.length ∧ ps[a]? = some q) ∨ (a = ps.length ∧ q = p) := fun a ha => by
      by_cases hj : a < ps.length
      · rw [List.getElem?_append_left hj] at ha
        exact .inl ⟨hj, ha⟩
      · rw [List.getElem?_append_right (by omega)] at ha
        have e : a - ps.length = 0 := by
          have := (List.getElem?_eq_some_iff.mp ha).1
          simp at this; omega
        rw [e] at ha
        cases ha
        exact .inr ⟨by omega, rfl⟩
    rcases key a ha with ⟨_, h1⟩ | ⟨h1, h1'⟩
    · rcases key b hb with ⟨_, h2⟩ | ⟨h2, h2'⟩
      · exact w.nd a b q h1 h2
      · exact absurd (List.mem_of_getElem? h1) (h2' ▸ hn)
    · rcases key b hb with ⟨_, h2⟩ | ⟨h2, h2'⟩
      · exact absurd (List.mem_of_getElem? h2) (h1' ▸ hn)
      · omega
  · by_cases hj : j < ps.length
    · rw [List.getElem?_append_left hj] at hq
      rw [List.getElem?_append_left (by rw [w.len]; exact hj)] at hv
      exact w.at_ j q v hq hv
    · rw [List.getElem?_append_right (by omega)] at hq
      rw [List.getElem?_append_right (by rw [w.len]; omega)] at hv
      rw [w.len] at hv
      have e : j - ps.length = 0 := by
        have := (List.getElem?_eq_some_iff.mp hq).1
        simp at this; omega
      rw [e] at hq hv
      cases hq; cases hv
      exact n
theorem Ows.take (w : Ows M B H ps us) (n : Nat) : Ows M B H (ps.take n) (us.take n) := by
  refine ⟨by simp [w.len], fun i j p h1 h2 => ?_, fun j p u hp hu => ?_⟩
  · rw [List.getElem?_take] at h1 h2
    split at h1
    · split at h2
      · exact w.nd i j p h1 h2
      · cases h2
    · cases h1
  rw [List.getElem?_take] at hp hu
  split at hp
  · rename_i hj
    rw [if_pos hj] at hu
    exact w.at_ j p u hp hu
  · cases hp
end
abbrev SM (α : Type) := List U → Option (α × List U)
def pureS {α : Type} (o : Option α) : SM α := fun us => o.map fun x => (x, us)
def bindS {α β : Type} (F : SM α) (k : α → SM β) : SM β := fun us => (F us).bind fun r => k r.1 r.2
theorem pureS_some {α : Type} {o : Option α} {us : List U} {x : α} {us' : List U} (h : pureS o us = some (x, us')) : o = some x ∧ us' = us := by
  obtain ⟨y, e, h⟩ := map_some h
  cases h
  exact ⟨e, rfl⟩
theorem bindS_some {α β : Type} {F : SM α} {k : α → SM β} {us : List U} {z : β × List U} (h : bindS F k us = some z) : ∃ x us1, F us = some (x, us1) ∧ k x us1 = some z := by
  obtain ⟨⟨x, us1⟩, e, h⟩ := bind_some h
  exact ⟨x, us1, e, h⟩
section
variable (M : Addr → Prop) (ps : List Addr) (σ : St) (B : Hp)
def EvS (te : TE) (F : SM U) : Prop :=
  ∀ us z us', F us = some (z, us') → ∀ B1 H1, At B B1 H1 → Ows M B1 H1 ps us → ∀ Q : VK, (∀ v B2 H2, Gs (inP ps) B1 H1 B2 H2 → Rp B2 z v → Ows M B2 H2 ps us' → Q v H2) → te σ H1 Q
def EvTS (tt : TT) (F : SM Bool) : Prop :=
  ∀ us z us', F us = some (z, us') → ∀ B1 H1, At B B1 H1 → Ows M B1 H1 ps us → ∀ Q : Bool → Hp → Prop, (∀ B2 H2, Gs (inP ps) B1 H1 B2 H2 → Ows M B2 H2 ps us' → Q z H2) → tt σ H1 Q
def EvAS (ta : TA) (F : SM (List U)) : Prop :=
  ∀ us z us', F us = some (z, us') → ∀ B1 H1, At B B1 H1 → Ows M B1 H1 ps us → ∀ Q : List V → Hp → Prop, (∀ v B2 H2, Gs (inP ps) B1 H1 B2 H2 → Rps B2 z v → Ows M B2 H2 ps us' → Q v H2) → ta σ H1 Q
def EvPS (tp : TO) (F : SM (Option Int)) : Prop :=
  ∀ us z us', F us = some (z, us') → ∀ B1 H1, At B B1 H1 → Ows M B1 H1 ps us → ∀ Q : Option Int → Hp → Prop, (∀ B2 H2, Gs (inP ps) B1 H1 B2 H2 → Ows M B2 H2 ps us' → Q z H2) → tp σ H1 Q
def EvIS (wi : TI) (F : SM (List U)) : Prop :=
  ∀ us xs us', F us = some (xs, us') → ∀ B1 H1, At B B1 H1 → Ows M B1 H1 ps us → ∀ R : It → Hp → Prop, (∀ J B2 H2, Gs (inP ps) B1 H1 B2 H2 → WalkU J xs B2 → Ows M B2 H2 ps us' → R J H2) → wi σ H1 R
/-- a new object of one's own -/
def EvN (te : TE) (F : SM U) : Prop :=
  ∀ us u us', F us = some (u, us') → ∀ B1 H1, At B B1 H1 → Ows M B1 H1 ps us → ∀ Q : VK, (∀ p B2 H2, Gs (inP ps) B1 H1 B2 H2 → H1 p = none → B2 p = none → OwnAt B2 H2 p u → Ows M B2 H2 ps us' → Q (.ref p) H2) → te σ H1 Q
end
section
variable {M : Addr → Prop} {ps : List Addr} {σ : St} {B H : Hp} {ta tb tc te : TE} {t u : TT} {tl tr : TA} {F G : SM U} {K : PySem.W.Frag}
theorem es_of {o : Option U} (h : EvO te σ B H o) : EvS M ps σ B te (pureS o) := fun us z us' e B1 H1 g w Q q => by
  obtain ⟨ee, rfl⟩ := pureS_some e; clear e; have e := ee; clear ee
  exact h z e B1 H1 g Q fun v B2 H2 g2 r => q v B2 H2 (.of g2) r (w.go g2)
theorem ets_of {o : Option Bool} (h : EvT t σ B H o) : EvTS M ps σ B t (pureS o) := fun us z us' e B1 H1 g w Q q => by
  obtain ⟨ee, rfl⟩ := pureS_some e; clear e; have e := ee; clear ee
  exact h z e B1 H1 g Q fun B2 H2 g2 => q B2 H2 (.of g2) (w.go g2)
theorem eas_of {o : Option (List U)} (h : EvA tl σ B H o) : EvAS M ps σ B tl (pureS o) := fun us z us' e B1 H1 g w Q q => by
  obtain ⟨ee, rfl⟩ := pureS_some e; clear e; have e := ee; clear ee
  exact h z e B1 H1 g Q fun v B2 H2 g2 r => q v B2 H2 (.of g2) r (w.go g2)
theorem eps_of {tp : TO} {o : Option (Option Int)} (h : EvP tp σ B H o) : EvPS M ps σ B tp (pureS o) := fun us z us' e B1 H1 g w Q q => by
  obtain ⟨ee, rfl⟩ := pureS_some e; clear e; have e := ee; clear ee
  exact h z e B1 H1 g Q fun B2 H2 g2 => q B2 H2 (.of g2) (w.go g2)
theorem eis_of {wi : TI} {o : Option (List U)} (h : EvI wi σ B H o) : EvIS M ps σ B wi (pureS o) := fun us z us' e B1 H1 g w Q q => by
  obtain ⟨ee, rfl⟩ := pureS_some e; clear e; have e := ee; clear ee
  exact h z e B1 H1 g Q fun J B2 H2 g2 r => q J B2 H2 (.of g2) r (w.go g2)
def opS (f : U → U → Option U) (F G : SM U) : SM U := bindS F fun x => bindS G fun y => pureS (f x y)
theorem es_op2 {r : R2} {f : U → U → Option U} (hr : RV r f) (ha : EvS M ps σ B ta F) (hb : EvS M ps σ B tb G) : EvS M ps σ B (tOp r ta tb) (opS f F G) := fun us z us' e B1 H1 g w Q q => by
  obtain ⟨x, us1, ex, e⟩ := bindS_some e
  obtain ⟨y, us2, ey, e⟩ := bindS_some e
  obtain ⟨ee, rfl⟩ := pureS_some e; clear e; have e := ee; clear ee
  exact ha _ _ _ ex B1 H1 g w _ fun v B2 H2 g2 r2 w2 => hb _ _ _ ey B2 H2 (g.trs g2) w2 _ fun v' B3 H3 g3 r3 w3 => hr x y z e v v' B3 H3 g3.bh (r2.upA g3.at) r3 Q fun v2 B4 H4 g4 r4 => q v2 B4 H4 ((g2.trans g3).trans (.of g4)) r4 (w3.go g4)
def op1S (f : U → Option U) (F : SM U) : SM U := bindS F fun x => pureS (f x)
def callS (f : List U → Option U) (F : SM (List U)) : SM U := bindS F fun x => pureS (f x)
theorem es_cb {r : List V → Hp → VK → Prop} {f : List U → Option U} {F : SM (List U)} (hr : RC r f) (ha : EvAS M ps σ B tl F) : EvS M ps σ B (tCB r tl) (callS f F) := fun us z us' e B1 H1 g w Q q => by
  obtain ⟨x, us1, ex, e⟩ := bindS_some e
  obtain ⟨ee, rfl⟩ := pureS_some e; clear e; have e := ee; clear ee
  exact ha _ _ _ ex B1 H1 g w _ fun v B2 H2 g2 r2 w2 => hr x z e v B2 H2 g2.bh r2 Q fun v2 B4 H4 g4 r4 => q v2 B4 H4 (g2.trans (.of g4)) r4 (w2.go g4)
def consS (F : SM U) (G : SM (List U)) : SM (List U) := bindS F fun x => bindS G fun r => pureS (some (x :: r))
theorem eas_nil : EvAS M ps σ B tNil (pureS (some [])) := eas_of (H := B) ea_nil
theorem eas_cons {G : SM (List U)} (h : EvS M ps σ B ta F) (hr : EvAS M ps σ B tr G) : EvAS M ps σ B (tCons ta tr) (consS F G) := fun us z us' e B1 H1 g w Q q => by
  obtain ⟨x, us1, ex, e⟩ := bindS_some e
  obtain ⟨r, us2, er, e⟩ := bindS_some e
  obtain ⟨ee, rfl⟩ := pureS_some e; clear e; have e := ee; clear ee
  cases e
  exact h _ _ _ ex B1 H1 g w _ fun v B2 H2 g2 r2 w2 => hr _ _ _ er B2 H2 (g.trs g2) w2 _ fun vs B3 H3 g3 r3 w3 => q _ B3 H3 (g2.trans g3) (.cons (r2.upA g3.at) r3) w3
def tupS (F : SM (List U)) : SM U := bindS F fun xs => pureS (if xs.length ≤ lim then some (.tup xs) else none)
def lstS (F : SM (List U)) : SM U := bindS F fun xs => pureS (if xs.length ≤ lim then some (.lst xs) else none)
theorem es_tup {F : SM (List U)} (h : EvAS M ps σ B tl F) : EvS M ps σ B (tTup tl) (tupS F) := fun us z us' e B1 H1 g w Q q => by
  obtain ⟨x, us1, ex, e⟩ := bindS_some e
  obtain ⟨ee, rfl⟩ := pureS_some e; clear e; have e := ee; clear ee
  split at e
  · rename_i hl
    cases e
    exact h _ _ _ ex B1 H1 g w _ fun vs B2 H2 g2 r w2 => ⟨by rw [r.length]; exact lim_size hl, fun p hp => q _ _ _ (g2.trans (.of (Go.new g2.bh hp))) (.tup upd_same (r.new g2.bh hp)) (w2.go (Go.new g2.bh hp))⟩
  · cases e
theorem es_lst {F : SM (List U)} (h : EvAS M ps σ B tl F) : EvS M ps σ B (tLst tl) (lstS F) := fun us z us' e B1 H1 g w Q q => by
  obtain ⟨x, us1, ex, e⟩ := bindS_some e
  obtain ⟨ee, rfl⟩ := pureS_some e; clear e; have e := ee; clear ee
  split at e
  · rename_i hl
    cases e
    exact h _ _ _ ex B1 H1 g w _ fun vs B2 H2 g2 r w2 => ⟨by rw [r.length]; exact lim_size hl, fun p hp => q _ _ _ (g2.trans (.of (Go.new g2.bh hp))) (.lst upd_same (r.new g2.bh hp)) (w2.go (Go.new g2.bh hp))⟩
  · cases e
def testS (F : SM U) : SM Bool := bindS F fun x => pureS x.asB
theorem ets_test (h : EvS M ps σ B te F) : EvTS M ps σ B (tTest te) (testS F) := fun us z us' e B1 H1 g w _ q => by
  obtain ⟨x, us1, ex, e⟩ := bindS_some e
  obtain ⟨ee, rfl⟩ := pureS_some e; clear e; have e := ee; clear ee
  cases x <;> cases e
  exact h _ _ _ ex B1 H1 g w _ fun v B2 H2 g2 r w2 => by cases r; exact ⟨_, rfl, q B2 H2 g2 w2⟩
theorem ets_B (h : EvS M ps σ B te F) : EvTS M ps σ B (tB te) (testS F) := fun us z us' e B1 H1 g w _ q => by
  obtain ⟨x, us1, ex, e⟩ := bindS_some e
  obtain ⟨ee, rfl⟩ := pureS_some e; clear e; have e := ee; clear ee
  cases x <;> cases e
  exact h _ _ _ ex B1 H1 g w _ fun v B2 H2 g2 r w2 => by cases r; exact ⟨_, rfl, q B2 H2 g2 w2⟩
def andS (F G : SM Bool) : SM Bool := bindS F fun x => if x = true then G else pureS (some false)
def orS (F G : SM Bool) : SM Bool := bindS F fun x => if x = true then pureS (some true) else G
def notS (F : SM Bool) : SM Bool := bindS F fun x => pureS (some (!x))
theorem ets_and {F G : SM Bool} (h1 : EvTS M ps σ B t F) (h2 : EvTS M ps σ B u G) : EvTS M ps σ B (tAnd t u) (andS F G) := fun us z us' e B1 H1 g w Q q => by
  obtain ⟨x, us1, ex, e⟩ := bindS_some e
  refine h1 _ _ _ ex B1 H1 g w _ fun B2 H2 g2 w2 => ?_
  cases x with
  | true => exact h2 _ _ _ e B2 H2 (g.trs g2) w2 Q fun B3 H3 g3 w3 => q B3 H3 (g2.trans g3) w3
  | false =>
    obtain ⟨ee, rfl⟩ := pureS_some (show pureS (some false) us1 = _ from e); clear e; have e := ee; clear ee
    cases e
    exact q B2 H2 g2 w2
theorem ets_or {F G : SM Bool} (h1 : EvTS M ps σ B t F) (h2 : EvTS M ps σ B u G) : EvTS M ps σ B (tOr t u) (orS F G) := fun us z us' e B1 H1 g w Q q => by
  obtain ⟨x, us1, ex, e⟩ := bindS_some e
  refine h1 _ _ _ ex B1 H1 g w _ fun B2 H2 g2 w2 => ?_
  cases x with
  | false => exact h2 _ _ _ e B2 H2 (g.trs g2) w2 Q fun B3 H3 g3 w3 => q B3 H3 (g2.trans g3) w3
  | true =>
    obtain ⟨ee, rfl⟩ := pureS_some (show pureS (some true) us1 = _ from e); clear e; have e := ee; clear ee
    cases e
    exact q B2 H2 g2 w2
theorem ets_not {F : SM Bool} (h1 : EvTS M ps σ B t F) : EvTS M ps σ B (tNot t) (notS F) := fun us z us' e B1 H1 g w _ q => by
  obtain ⟨x, us1, ex, e⟩ := bindS_some e
  obtain ⟨ee, rfl⟩ := pureS_some e; clear e; have e := ee; clear ee
  cases e
  exact h1 _ _ _ ex B1 H1 g w _ fun B2 H2 g2 w2 => q B2 H2 g2 w2
def andVS (F G : SM U) : SM U := bindS (testS F) fun x => if x = true then G else pureS (some (.bl false))
theorem testS_some {us us1 : List U} {x : Bool} (h : testS F us = some (x, us1)) : F us = some (.bl x, us1) := by
  obtain ⟨y, us2, ey, h⟩ := bindS_some h
  obtain ⟨h, rfl⟩ := pureS_some h
  cases y <;> cases h
  exact ey
theorem es_and (h1 : EvS M ps σ B ta F) (h2 : EvS M ps σ B tb G) : EvS M ps σ B (tAndV ta tb) (andVS F G) := fun us z us' e B1 H1 g w Q q => by
  obtain ⟨x, us1, ex, e⟩ := bindS_some e
  refine h1 _ _ _ (testS_some ex) B1 H1 g w _ fun v B2 H2 g2 r w2 => ?_
  cases r
  refine ⟨x, rfl, ?_⟩
  cases x with
  | true => exact h2 _ _ _ e B2 H2 (g.trs g2) w2 Q fun v B3 H3 g3 r3 w3 => q v B3 H3 (g2.trans g3) r3 w3
  | false =>
    obtain ⟨ee, rfl⟩ := pureS_some (show pureS (some (U.bl false)) us1 = _ from e); clear e; have e := ee; clear ee
    cases e
    exact q _ B2 H2 g2 (.bl false) w2
def ifS {α : Type} (c : SM Bool) (F G : SM α) : SM α := bindS c fun x => if x = true then F else G
end
end Dn
set_option Elab.async false
set_option linter.all false
set_option maxRecDepth 100000
set_option maxHeartbeats 2000000
namespace Dn
open PySem L2
variable [CTab]
mutual
def U.pl : U → Bool
  | .non => true
  | .bl _ => true
  | .int _ => true
  | .str _ => true
  | .tup xs => U.pls xs
  | .lst xs => U.pls xs
  | _ => false
def U.pls : List U → Bool
  | [] => true
  | x :: xs => U.pl x && U.pls xs
end
section
variable {B B' : Hp} {p : Addr} {od : Obj} {u0 : HO}
mutual
theorem Rp.erase (hp : B p = some (.frz od u0)) (s : ∀ a o, B a = some o → a ≠ p → B' a = some o) : ∀ {u : U} {v : V}, Rp B u v → u.pl = true → Rp B' u v
  | _, _, .non, _ => .non
  | _, _, .bl b, _ => .bl b
  | _, _, .int i, _ => .int i
  | _, _, .str x, _ => .str x
  | _, _, @Rp.tup _ _ a _ _ h r, e => .tup (s _ _ h (fun z => by rw [z, hp] at h; cases h)) (Rps.erase hp s r (by simpa [U.pl] using e))
  | _, _, @Rp.lst _ _ a _ _ h r, e => .lst (s _ _ h (fun z => by rw [z, hp] at h; cases h)) (Rps.erase hp s r (by simpa [U.pl] using e))
  | _, _, .frl _ _, e => absurd e (by simp [U.pl])
  | _, _, .dic _ _, e => absurd e (by simp [U.pl])
  | _, _, .dit _ _, e => absurd e (by simp [U.pl])
  | _, _, .tpd _ _ _, e => absurd e (by simp [U.pl])
  | _, _, .dib _ _ _, e => absurd e (by simp [U.pl])
  | _, _, .mt, e => absurd e (by simp [U.pl])
  | _, _, .exc0 _, e => absurd e (by simp [U.pl])
  | _, _, .exc _ _ _, e => absurd e (by simp [U.pl])
  | _, _, .obj _ _ _, e => absurd e (by simp [U.pl])
theorem Rps.erase (hp : B p = some (.frz od u0)) (s : ∀ a o, B a = some o → a ≠ p → B' a = some o) : ∀ {u : List U} {v : List V}, Rps B u v → U.pls u = true → Rps B' u v
  | _, _, .nil, _ => .nil
  | _, _, .cons h r, e => by
    rw [U.pls, Bool.and_eq_true] at e
    exact .cons (Rp.erase hp s h e.1) (Rps.erase hp s r e.2)
end
end
def eraseB (B : Hp) (p : Addr) : Hp := fun a => if a = p then none else B a
theorem erase_same {B : Hp} {p : Addr} : eraseB B p p = none := by simp [eraseB]
theorem erase_ne {B : Hp} {p a : Addr} (h : a ≠ p) : eraseB B p a = B a := by simp [eraseB, h]
theorem Ok.lock {B H : Hp} (s : Ok B H) {p : Addr} {u o : HO} (hb : B p = none) (hp : H p = some u) (nu : PL p u := by (first | assumption | exact ⟨rfl, fun _ z => by cases z⟩ | exact ⟨rfl, fun _ z => nomatch z⟩)) (n : NT o := by (first | rfl | assumption)) : Ok (upd B p o) (upd H p o) :=
  ⟨fun b x e => by
    by_cases h : b = p
    · subst h; rw [upd_same] at e ⊢; exact e
    · rw [upd_ne h] at e ⊢; exact s b x e, nt_upd s.nt n, tabs_upd s.tb (onePL hp nu), ot_upd s.ot n⟩
theorem Ok.unlock {B2 H2 : Hp} (s : Ok B2 H2) {p : Addr} {od : Obj} {u o : HO} (e : H2 p = some (.frz od u)) (n : NT o) : Ok (eraseB B2 p) (upd H2 p o) :=
  ⟨fun a x hx => by
    by_cases ha : a = p
    · subst ha; rw [erase_same] at hx; cases hx
    · rw [erase_ne ha] at hx; rw [upd_ne ha]; exact s a x hx, fun a x hx => by
    by_cases ha : a = p
    · subst ha; rw [erase_same] at hx; cases hx
    · rw [erase_ne ha] at hx; exact s.nt a x hx, tabs_upd s.tb (onePL e (by (first | assumption | exact ⟨rfl, fun _ z => by cases z⟩ | exact ⟨rfl, fun _ z => nomatch z⟩))), ot_upd s.ot n⟩
theorem Go.unlock {B1 H1 B2 H2 : Hp} {p : Addr} {od : Obj} {o1 : HO} (g2 : Go (upd B1 p (.frz od o1)) (upd H1 p (.frz od o1)) B2 H2) (s : Ok B1 H1) (hb : B1 p = none) (e1 : H1 p = some o1) (pl1 : PL p o1) : Go B1 H1 (eraseB B2 p) (upd H2 p o1) := by
  refine ⟨fun a x hx n => ?_, fun a hx => ?_, fun a x hx => ?_, g2.bh.unlock (g2.bh _ _ (g2.b _ _ upd_same)) pl1.1, fun a x hx => ?_⟩
  · by_cases ha : a = p
    · subst ha; rw [upd_same, ← e1]; exact hx
    · rw [upd_ne ha]; exact g2.h a x (by rw [upd_ne ha]; exact hx) n
  · have h1 := upd_none hx
    have := g2.n a h1.1
    rwa [upd_ne h1.2] at this
  · have ha : a ≠ p := ne_of_none hx hb
    rw [erase_ne ha]; exact g2.b a x (by rw [upd_ne ha]; exact hx)
  · by_cases ha : a = p
    · subst ha; rw [erase_same] at hx; cases hx
    · rw [erase_ne ha] at hx
      rcases g2.fr a x hx with z | z
      · rw [upd_ne ha] at z; exact .inl z
      · rw [upd_ne ha] at z; exact .inr z
/-- what the heap has of one's own -/
theorem OwnAt.lock {B H : Hp} {p : Addr} {u : U} (h : OwnAt B H p u) (ho : u.own = true) : ∃ o, H p = some o ∧ (Mut (some o) ∧ PL p o) ∧ ∀ od, Rp (upd B p (.frz od o)) u (.ref p) ∨ B p ≠ none := by
  cases u with
  | frl xs =>
    obtain ⟨vs, e, r⟩ := h
    refine ⟨_, e, ⟨trivial, by (first | assumption | exact ⟨rfl, fun _ z => by cases z⟩ | exact ⟨rfl, fun _ z => nomatch z⟩)⟩, fun od => ?_⟩
    cases hb : B p with
    | none => exact .inl (.frl upd_same (r.kp (Kp.of fun b o h => by rw [upd_ne (ne_of_none h hb)]; exact h)))
    | some _ => exact .inr (by simp)
  | dic xs =>
    obtain ⟨vs, e, r⟩ := h
    refine ⟨_, e, ⟨trivial, by (first | assumption | exact ⟨rfl, fun _ z => by cases z⟩ | exact ⟨rfl, fun _ z => nomatch z⟩)⟩, fun od => ?_⟩
    cases hb : B p with
    | none => exact .inl (.dic upd_same (r.kp (Kp.of fun b o h => by rw [upd_ne (ne_of_none h hb)]; exact h)))
    | some _ => exact .inr (by simp)
  | dit xs =>
    obtain ⟨vs, e, r⟩ := h
    refine ⟨_, e, ⟨trivial, by (first | assumption | exact ⟨rfl, fun _ z => by cases z⟩ | exact ⟨rfl, fun _ z => nomatch z⟩)⟩, fun od => ?_⟩
    cases hb : B p with
    | none => exact .inl (.dit upd_same (r.kp (Kp.of fun b o h => by rw [upd_ne (ne_of_none h hb)]; exact h)))
    | some _ => exact .inr (by simp)
  | obj C fs => cases ho
  | _ => exact h.elim
theorem same_lock {B : Hp} {p : Addr} {o : HO} (hb : B p = none) : Same B (upd B p o) := fun b u h => by rw [upd_ne (ne_of_none h hb)]; exact h
/-- a look at one's own object, which is locked the while -/
def lockO (j : Nat) (o : U → Option U) : SM U := fun us => us[j]?.bind fun u => if u.own = true then (o u).bind fun z => if z.pl = true then some (z, us) else none else none
def lockT (j : Nat) (o : U → Option Bool) : SM Bool := fun us => us[j]?.bind fun u => if u.own = true then (o u).map fun z => (z, us) else none
section
variable {M : Addr → Prop} {ps : List Addr} {σ : St} {B H : Hp} {ta tb tc te : TE} {t : TT} {tl tr : TA} {F G : SM U} {K : PySem.W.Frag} {j : Nat} {p : Addr}
theorem es_lockO {o : U → Option U} (hp : ps[j]? = some p) (h : ∀ u B' H', Same B B' → Rp B' u (.ref p) → EvO te σ B' H' (o u)) : EvS M ps σ B (tLockE te) (lockO j o) := fun us z us' e B1 H1 g w Q q => by
  obtain ⟨u, eu, e⟩ := bind_some e
  split at e
  · rename_i ho
    obtain ⟨z1, ez, e⟩ := bind_some e
    split at e
    · rename_i hz
      cases e
      obtain ⟨hb, ow⟩ := (w.at_ j p u hp eu).own ho
      obtain ⟨o1, e1, ⟨mu, pl1⟩, hl⟩ := ow.lock ho
      refine ⟨p, o1, e1, mu, fun od => ?_⟩
      have r1 : Rp (upd B1 p (.frz od o1)) u (.ref p) := (hl od).resolve_right (fun z => z hb)
      have s1 : Ok (upd B1 p (.frz od o1)) (upd H1 p (.frz od o1)) := g.bh.lock hb e1 pl1
      refine h u _ (upd H1 p (.frz od o1)) (g.b.trans (same_lock hb)) r1 z ez _ _ (At.refl s1) _ fun v B2 H2 g2 r2 => ?_
      have eB : B2 p = some (.frz od o1) := g2.b _ _ upd_same
      have eH : H2 p = some (.frz od o1) := g2.bh _ _ eB
      have gg : Go B1 H1 (eraseB B2 p) (upd H2 p o1) := g2.unlock g.bh hb e1 pl1
      exact ⟨eH, q v _ _ (.of gg) (r2.erase eB (fun a x hx ha => by rw [erase_ne ha]; exact hx) hz) (w.go gg)⟩
    · cases e
  · cases e
/-- the var of one's own list: kept for good from here on -/
def takeS (j : Nat) : SM U := fun us => match us[j]? with
  | some (.frl xs) => some (.lst xs, us.set j .non)
  | _ => none
/-- x.append(e) -/
def appS (j : Nat) (y : U) : SM U := fun us => match us[j]? with
  | some (.frl xs) => if xs.length < lim then some (.non, us.set j (.frl (xs ++ [y]))) else none
  | _ => none
theorem own_upd {us : List U} {B2 H2 : Hp} {u : U} {o : HO} (hp : ps[j]? = some p) (w : Ows M B2 H2 ps us) (s : Ok B2 H2) (wp : M p) (hb : B2 p = none) (hn : OwnAt B2 (upd H2 p o) p u) (n : NT o := by (first | rfl | assumption)) : Ows M B2 (upd H2 p o) ps (us.set j u) :=
  w.set hp (fun q _ hq o e _ => by rw [upd_ne hq]; exact e) (Same.refl _) (fun q _ _ hn => hn) ⟨wp, ⟨_, upd_same, n⟩, .inr ⟨hb, hn⟩⟩
theorem gs_upd {B2 H2 : Hp} {u o : HO} (hp : ps[j]? = some p) (s : Ok B2 H2) (hb : B2 p = none) (hu : H2 p = some u) (nu : PL p u := by (first | assumption | exact ⟨rfl, fun _ z => by cases z⟩ | exact ⟨rfl, fun _ z => nomatch z⟩)) (n : NT o := by (first | rfl | assumption)) : Gs (inP ps) B2 H2 B2 (upd H2 p o) :=
  ⟨fun a x e hm _ => by rw [upd_ne (fun z => hm (by rw [z]; exact List.mem_of_getElem? hp))]; exact e, fun a e => by
      by_cases ha : a = p
      · subst ha; rw [upd_same] at e; cases e
      · rw [upd_ne ha] at e; exact e, Same.refl _, same_upd s hb hu nu n, fun a x e => .inl e⟩
theorem es_app {i : Nat} (hp : ps[j]? = some p) (hv : σ[i]? = some (some (.ref p))) (h : EvS M ps σ B te F) (hl : ∀ us y us', F us = some (y, us') → ∀ xs, us'[j]? = some (.frl xs) → ∃ ys, us[j]? = some (.frl ys)) :
    EvS M ps σ B (tBM K "list" rAppend (tVar i) (tCons te tNil)) (bindS F fun y => appS j y) := fun us z us' e B1 H1 g w Q q => by
  obtain ⟨y, us1, ey, e⟩ := bindS_some e
  unfold appS at e
  split at e
  · rename_i xs eu
    split at e
    · rename_i hlim
      cases e
      obtain ⟨ys, eys⟩ := hl _ _ _ ey xs eu
      obtain ⟨_, vs0, e0, _⟩ := (w.at_ j p _ hp eys).own rfl
      refine ⟨_, hv, .inl ⟨rfl, vs0, SqL.of e0⟩, h _ _ _ ey B1 H1 g w _ fun v B2 H2 g2 r2 w2 => ?_⟩
      have wp := w2.at_ j p _ hp eu
      obtain ⟨hb, vs, e1, r⟩ := wp.own rfl
      exact ⟨p, vs, v, rfl, rfl, e1, lim_lt (by rw [r.length]; exact Nat.le_of_lt hlim), q _ B2 _ (g2.trans (gs_upd hp g2.bh hb e1)) .non (own_upd hp w2 g2.bh wp.m hb ⟨_, upd_same, r.append (.one r2)⟩)⟩
    · cases e
  · cases e
/-- x.pop(e) -/
def popS (j : Nat) (y : U) : SM U := fun us => match us[j]?, y with
  | some (.frl xs), .int i => if -(2 ^ 63) ≤ i ∧ i < 2 ^ 63 then (seqIndex? i xs.length).bind fun k => xs[k]?.map fun z => (z, us.set j (.frl (xs.eraseIdx k))) else none
  | _, _ => none
theorem Rps.eraseIdx {B : Hp} : ∀ {xs : List U} {vs : List V} (k : Nat), Rps B xs vs → Rps B (xs.eraseIdx k) (vs.eraseIdx k)
  | _, _, _, .nil => .nil
  | _, _, 0, .cons _ t => t
  | _, _, k + 1, .cons h t => .cons h (Rps.eraseIdx k t)
/-- a state that keeps a list a list -/
def Lk (j : Nat) (F : SM U) : Prop := ∀ us y us', F us = some (y, us') → ∀ xs, us'[j]? = some (.frl xs) → ∃ ys, us[j]? = some (.frl ys)
theorem lk_of {o : Option U} : Lk j (pureS o) := fun us y us' e xs ex => by
  obtain ⟨_, rfl⟩ := pureS_some e
  exact ⟨xs, ex⟩
theorem OwnAt.new {B H : Hp} {xs : List U} {vs : List V} (r : Rps B xs vs) {p : Addr} : OwnAt B (upd H p (.lst vs)) p (.frl xs) := ⟨vs, upd_same, r⟩
def nlstS (F : SM (List U)) : SM U := bindS F fun xs => pureS (if xs.length ≤ lim then some (.frl xs) else none)
theorem en_lst {F : SM (List U)} (h : EvAS M ps σ B tl F) : EvN M ps σ B (tLst tl) (nlstS F) := fun us z us' e B1 H1 g w Q q => by
  obtain ⟨x, us1, ex, e⟩ := bindS_some e
  obtain ⟨ee, rfl⟩ := pureS_some e; clear e; have e := ee; clear ee
  split at e
  · rename_i hl
    cases e
    exact h _ _ _ ex B1 H1 g w _ fun vs B2 H2 g2 r w2 => ⟨by rw [r.length]; exact lim_size hl, fun p hp => q p B2 _ (g2.trans (.of (Go.own g2.bh hp))) (g2.n p hp) (g2.bh.free hp) (OwnAt.new r) (w2.go (Go.own g2.bh hp))⟩
  · cases e
theorem en_dnewK : EvN M ps σ B tDNewK (pureS (some (.dic []))) := fun us z us' e B1 H1 g w Q q => by
  obtain ⟨ee, rfl⟩ := pureS_some e; clear e; have e := ee; clear ee
  cases e
  exact fun p hp => q p B1 _ (.of (Go.own g.bh hp)) hp (g.bh.free hp) ⟨[], upd_same, .nil⟩ (w.go (Go.own g.bh hp))
theorem en_dnewT : EvN M ps σ B tDNewT (pureS (some (.dit []))) := fun us z us' e B1 H1 g w Q q => by
  obtain ⟨ee, rfl⟩ := pureS_some e; clear e; have e := ee; clear ee
  cases e
  exact fun p hp => q p B1 _ (.of (Go.own g.bh hp)) hp (g.bh.free hp) ⟨[], upd_same, .nil⟩ (w.go (Go.own g.bh hp))
/-- a def that gives a new object -/
def spN (m : List U → Option U) : Sp := fun vs H Q _ => ∃ B xs u, Ok B H ∧ Rps B xs vs ∧ m xs = some u ∧ ∀ p B2 H2, Go B H B2 H2 → H p = none → B2 p = none → OwnAt B2 H2 p u → Q (.ref p) H2
theorem en_call {m : List U → Option U} {E : XK} {F : SM (List U)} (ha : EvAS M ps σ B tl F) : EvN M ps σ B (tCall (spN m) [] E tl) (callS m F) := fun us z us' e B1 H1 g w Q q => by
  obtain ⟨x, us1, ex, e⟩ := bindS_some e
  obtain ⟨ee, rfl⟩ := pureS_some e; clear e; have e := ee; clear ee
  refine ha _ _ _ ex B1 H1 g w _ fun vs B2 H2 g2 r w2 => ?_
  show spN m (vs ++ []) H2 Q E
  rw [List.append_nil]
  exact ⟨B2, x, z, g2.bh, r, e, fun p B3 H3 g3 n3 b3 o3 => q p B3 H3 (g2.trans (.of g3)) (g2.n p n3) b3 o3 (w2.go g3)⟩
def spS (m : U → List U → Option (U × U)) : Sp := fun vs H Q _ => ∃ B p ws u xs r u', Ok B H ∧ vs = .ref p :: ws ∧ B p = none ∧ OwnAt B H p u ∧ Rps B xs ws ∧ m u xs = some (r, u') ∧
  ∀ v B2 H2, Gs (fun a => a = p) B H B2 H2 → B2 p = none → OwnAt B2 H2 p u' → Rp B2 r v → Q v H2
def callM (j : Nat) (m : U → List U → Option (U × U)) (xs : List U) : SM U := fun us => us[j]?.bind fun u => if u.own = true then (m u xs).map fun r => (r.1, us.set j r.2) else none
theorem es_callM {i : Nat} {m : U → List U → Option (U × U)} {E : XK} {F : SM (List U)} (hp : ps[j]? = some p) (hv : σ[i]? = some (some (.ref p))) (ha : EvAS M ps σ B tl F) :
    EvS M ps σ B (tCall (spS m) [] E (tCons (tVar i) tl)) (bindS F fun xs => callM j m xs) := fun us z us' e B1 H1 g w Q q => by
  obtain ⟨x, us1, ex, e⟩ := bindS_some e
  obtain ⟨u, eu, e⟩ := bind_some e
  split at e
  · rename_i ho
    obtain ⟨⟨r, u'⟩, er, e⟩ := map_some e
    cases e
    refine ⟨_, hv, ha _ _ _ ex B1 H1 g w _ fun vs B2 H2 g2 rr w2 => ?_⟩
    have wp := w2.at_ j p u hp eu
    obtain ⟨hb, ow⟩ := wp.own ho
    show spS m ((.ref p :: vs) ++ []) H2 Q E
    rw [List.append_nil]
    refine ⟨B2, p, vs, u, x, r, u', g2.bh, rfl, hb, ow, rr, er, fun v B3 H3 g3 b3 o3 r3 => ?_⟩
    refine q v B3 H3 (g2.trans (g3.mono fun a ha => by subst ha; exact List.mem_of_getElem? hp)) r3 ?_
    refine w2.set hp (fun q hq hne o e n => g3.h q o e hne n) g3.b (fun q hq hne hn => ?_) ⟨wp.m, o3.ex, .inr ⟨b3, o3⟩⟩
    obtain ⟨o, eo⟩ := w2.exs hq
    exact g3.noB hn eo hne
  · cases e
/-- .. called with a new object, which is not kept -/
def callF (m : U → List U → Option (U × U)) (F : SM U) (G : SM (List U)) : SM U := bindS F fun u => bindS G fun xs => pureS ((m u xs).map Prod.fst)
theorem es_callF {m : U → List U → Option (U × U)} {E : XK} {o : Option (List U)} (hn : EvN M ps σ B te F) (ha : EvA tl σ B H o) : EvS M ps σ B (tCall (spS m) [] E (tCons te tl)) (callF m F (pureS o)) := fun us z us' e B1 H1 g w Q q => by
  obtain ⟨u, us1, eu, e⟩ := bindS_some e
  obtain ⟨xs, us2, ex, e⟩ := bindS_some e
  obtain ⟨ee, rfl⟩ := pureS_some e; clear e
  obtain ⟨ex', rfl⟩ := pureS_some ex
  obtain ⟨⟨r, u'⟩, er, e⟩ := map_some ee
  cases e
  refine hn _ _ _ eu B1 H1 g w _ fun p B2 H2 g2 n2 b2 o2 w2 => ha xs ex' B2 H2 (g.trs g2) _ fun vs B3 H3 g3 r3 => ?_
  obtain ⟨ob, eb, _⟩ := o2.ex
  show spS m ((.ref p :: vs) ++ []) H3 Q E
  rw [List.append_nil]
  have o3 : OwnAt B3 H3 p u := o2.up (fun o e n => g3.h p o e n) g3.b
  refine ⟨B3, p, vs, u, xs, r, u', g3.bh, rfl, g3.noB b2 eb, o3, r3, er, fun v B4 H4 g4 b4 o4 r4 => ?_⟩
  have w3 := w2.go g3
  have hnp : p ∉ ps := w.fresh n2
  have g14 : Gs (inP ps) B1 H1 B4 H4 := by
    have g13 := g2.trans (.of g3)
    refine ⟨fun a o e hm n => g4.h a o (g13.h a o e hm n) (fun z => by subst z; rw [n2] at e; cases e) n, fun a e => g13.n a (g4.n a e), g13.b.trans g4.b, g4.bh, fun a o e => ?_⟩
    rcases g4.fr a o e with e | e | e
    · exact g13.fr a o e
    · exact .inr (.inl (g13.n a e))
    · subst e; exact .inr (.inl n2)
  refine q v B4 H4 g14 r4 (w3.keep (fun a ha o e n => g4.h a o e (fun z => hnp (z ▸ ha)) n) g4.b fun a ha hb => ?_)
  obtain ⟨o, eo⟩ := w3.exs ha
  exact g4.noB hb eo fun z => hnp (z ▸ ha)
end
end Dn
set_option Elab.async false
set_option linter.all false
set_option maxRecDepth 100000
set_option maxHeartbeats 2000000
namespace Dn
open PySem L2
variable [CTab]
theorem mem_ne {ps : List Addr} {a p : Addr} (ha : a ∈ ps) (hn : p ∉ ps) : a ≠ p := fun z => hn (by rw [← z]; exact ha)
def keepN (F : SM U) : SM U := bindS F fun u => match u with
  | .frl xs => pureS (some (.lst xs))
  | _ => pureS none
def lcSL (p : U → SM Bool) (f : U → SM U) : List U → SM (List U)
  | [] => pureS (some [])
  | x :: r => bindS (p x) fun b => if b = true then bindS (f x) fun y => bindS (lcSL p f r) fun z => pureS (some (y :: z)) else lcSL p f r
def lcS (p : U → SM Bool) (f : U → SM U) (F : SM (List U)) : SM U := bindS F fun xs => if xs.length ≤ lim then bindS (lcSL p f xs) fun zs => pureS (some (.frl zs)) else pureS none
section
variable {M : Addr → Prop} {ps : List Addr} {σ : St} {B H : Hp} {ta tb tc te : TE} {t : TT} {tl tr : TA} {F G : SM U} {K : PySem.W.Frag} {j : Nat} {p : Addr}
theorem es_ofN (h : EvN M ps σ B te F) : EvS M ps σ B te (keepN F) := fun us z us' e B1 H1 g w Q q => by
  obtain ⟨u, us1, eu, e⟩ := bindS_some e
  split at e
  · rename_i xs
    obtain ⟨ee, rfl⟩ := pureS_some e; clear e; have e := ee; clear ee
    cases e
    refine h _ _ _ eu B1 H1 g w Q fun p B2 H2 g2 n2 b2 o2 w2 => ?_
    obtain ⟨vs, e1, r⟩ := o2
    have s1 : Same B2 (upd B2 p (.lst vs)) := same_lock b2
    have sb : Ok (upd B2 p (.lst vs)) H2 := g2.bh.keep b2 e1
    have hnp : p ∉ ps := w.fresh n2
    refine q _ (upd B2 p (.lst vs)) H2 ⟨fun a o e hm n => g2.h a o e hm n, g2.n, g2.b.trans s1, sb, fun a o e => ?_⟩ (.lst upd_same (r.kp (Kp.of s1))) (w2.keep (fun a _ o e _ => e) s1 fun a ha hb => by rw [upd_ne (mem_ne ha hnp)]; exact hb)
    by_cases ha : a = p
    · subst ha; exact .inr (.inl n2)
    · rw [upd_ne ha] at e; exact g2.fr a o e
  · obtain ⟨ee, rfl⟩ := pureS_some e
    cases ee
theorem en_lcG {wi : TI} {g : TG} {tt : TT} {te : TE} {vs : List Nat} {F : SM (List U)} {p : U → SM Bool} {f : U → SM U} (hi : EvIS M ps σ B wi F)
    (hg : ∀ u v B1 H1 us (Q : St → Hp → Prop) b us', At B B1 H1 → Rp B1 u v → p u us = some (b, us') → (∀ σ2 (c : SM Bool) (d : SM U), wipe σ2 vs = wipe σ vs → c us = some (b, us') → (b = true → d us' = f u us') → EvTS M ps σ2 B1 tt c → EvS M ps σ2 B1 te d → Q σ2 H1) → g v (wipe σ vs) H1 Q) :
    EvN M ps σ B (tLc wi g tt te vs) (lcS p f F) := fun us z us' e B0 H0 g0 w0 Q q => by
  obtain ⟨xs, us1, exs, e⟩ := bindS_some e
  split at e
  · rename_i hlim
    obtain ⟨zs, us2, ezs, e⟩ := bindS_some e
    obtain ⟨ee, rfl⟩ := pureS_some e; clear e; have e := ee; clear ee
    cases e
    refine hi _ _ _ exs B0 H0 g0 w0 _ fun J B2 H2 g2 w w2 => fun D hD => ?_
    have hnD : D ∉ ps := w2.fresh hD
    have w' : Walk J xs.length (fun H' => Ok B2 H') (J.yld) := ⟨w.goes, w.stops, fun _ _ _ _ _ _ y => y⟩
    refine lc_it w' (fun i H' => ∃ Bi acc ys usi, Gs (inP ps) B2 H2 Bi H' ∧ Bi D = none ∧ H' D = some (.lst acc) ∧ Rps Bi ys acc ∧ Ows M Bi H' ps usi ∧ (lcSL p f (xs.drop i) usi).map (fun r => (ys ++ r.1, r.2)) = some (zs, us') ∧ ys.length ≤ i) ?_ ?_ ?_ ?_
    · exact ⟨B2, [], [], us1, .of (Go.own g2.bh hD), g2.bh.free hD, upd_same, .nil, w2.go (Go.own g2.bh hD), by simp [ezs], Nat.le_refl _⟩
    · rintro i H' _ ⟨Bi, _, _, _, gi, _⟩
      exact gi.bh.less gi.b
    · rintro i x H' H'' hin ⟨Bi, acc, ys, usi, gi, hBD, hHD, ra, wi', hr, hy⟩ y
      obtain ⟨B', u, g', eu, ru⟩ := w.yields i H' x H'' Bi hin gi.b gi.bh y
      rw [drop_at eu] at hr
      obtain ⟨⟨rr, usr⟩, err, hr⟩ := map_some hr
      obtain ⟨b, usb, eb, err⟩ := bindS_some err
      have w'' := wi'.go g'
      have gg : At B B' H'' := (g0.trs g2).tr (gi.at.trans g')
      refine hg u x B' H'' usi _ b usb gg ru eb fun σ2 c d hw hc hd ht hte => ⟨hw, ?_⟩
      refine ht _ _ _ hc B' H'' (At.refl gg.bh) w'' _ fun B3 H3 g3 w3 => ?_
      have hB'D : B' D = none := g'.noB hBD hHD
      have hH''D : H'' D = some (.lst acc) := g'.h _ _ hHD
      have hB3 : B3 D = none := g3.noB hB'D hH''D hnD
      have hH3 : H3 D = some (.lst acc) := g3.h _ _ hH''D hnD
      have gi3 := (gi.trans (.of g')).trans g3
      cases b with
      | true =>
        rw [if_pos rfl] at err
        obtain ⟨yv, usy, ey, err⟩ := bindS_some err
        obtain ⟨r2, usz, er2, err⟩ := bindS_some err
        obtain ⟨ee, rfl⟩ := pureS_some err
        cases ee
        refine hte _ _ _ ((hd rfl).trans ey) B3 H3 g3.at w3 _ fun v4 B4 H4 g4 r4 w4 => ?_
        have hB4 : B4 D = none := g4.noB hB3 hH3 hnD
        have hH4 : H4 D = some (.lst acc) := g4.h _ _ hH3 hnD
        have gm : Gs (inP ps) B2 H2 B4 (upd H4 D (.lst (acc ++ [v4]))) := by
          have gi4 := gi3.trans g4
          refine ⟨fun a o e hm n => ?_, fun a e => ?_, gi4.b, same_upd gi4.bh hB4 hH4, gi4.fr⟩
          · rw [upd_ne (ne_of_none e hD)]; exact gi4.h a o e hm n
          · by_cases ha : a = D
            · subst ha; rw [upd_same] at e; cases e
            · rw [upd_ne ha] at e; exact gi4.n a e
        refine ⟨acc, hH4, lim_lt (by have := ra.length; omega), B4, acc ++ [v4], ys ++ [yv], usy, gm, hB4, upd_same, ((((ra.up g').kp (Kp.of g3.b)).kp (Kp.of g4.b)).append (.one r4)), ?_, ?_, ?_⟩
        · exact w4.keep (fun a ha o e _ => by rw [upd_ne (mem_ne ha hnD)]; exact e) (Same.refl _) fun a _ hb => hb
        · rw [er2]
          simp only [Option.map_some]
          rw [← hr]
          simp
        · rw [List.length_append, List.length_singleton]; omega
      | false =>
        refine ⟨B3, acc, ys, usb, gi3, hB3, hH3, (ra.up g').kp (Kp.of g3.b), w3, ?_, by omega⟩
        rw [if_neg (by decide)] at err
        rw [err]
        exact congrArg some hr
    · rintro H' ⟨Bi, acc, ys, usi, gi, hBD, hHD, ra, wi', hr, _⟩
      rw [List.drop_length] at hr
      obtain ⟨⟨r1, r2⟩, er, hr⟩ := map_some hr
      obtain ⟨ee, rfl⟩ := pureS_some er
      cases ee
      have e1 : ys = zs := by
        have := congrArg Prod.fst hr
        simpa using this
      have e2 : r2 = us' := congrArg Prod.snd hr
      subst e1 e2
      exact q D Bi H' (g2.trans gi) (g2.n D hD) hBD ⟨acc, hHD, ra⟩ wi'
  · obtain ⟨ee, rfl⟩ := pureS_some e
    cases ee
/-- one name -/
theorem en_lc {wi : TI} {tt : TT} {te : TE} {vs : List Nat} {jj : Nat} {F : SM (List U)} {p : U → SM Bool} {f : U → SM U} (hi : EvIS M ps σ B wi F) (hw : ∀ x, wipe ((wipe σ vs).set jj (some x)) vs = wipe σ vs)
    (hp : ∀ u v B1 H1, At B B1 H1 → Rp B1 u v → EvTS M ps ((wipe σ vs).set jj (some v)) B1 tt (p u)) (hf : ∀ u v B1 H1, At B B1 H1 → Rp B1 u v → EvS M ps ((wipe σ vs).set jj (some v)) B1 te (f u)) :
    EvN M ps σ B (tLc wi (gName jj) tt te vs) (lcS p f F) :=
  en_lcG hi fun u v B1 H1 us Q b us' g r eb k => k _ (p u) (f u) (hw v) eb (fun _ => rfl) (hp u v B1 H1 g r) (hf u v B1 H1 g r)
end
structure Bs where
  P : Addr → Prop
  hd : Option Addr
  B : Hp
  H : Hp
def Bs.M (β : Bs) : Addr → Prop := fun a => β.P a ∨ β.H a = none
structure Wh (β : Bs) (B H : Hp) (ps : List Addr) (us : List U) : Prop where
  g : Gs β.P β.B β.H B H
  w : Ows β.M B H ps us
  hd : ∀ p, β.hd = some p → ps.head? = some p
section
variable {β : Bs} {B H B1 H1 : Hp} {ps : List Addr} {us us' : List U}
theorem Wh.s (W : Wh β B H ps us) : Ok B H := W.g.bh
theorem Wh.at (W : Wh β B H ps us) : At B B H := At.refl W.g.bh
theorem Wh.step (W : Wh β B H ps us) (g : Gs (inP ps) B H B1 H1) (w : Ows β.M B1 H1 ps us') : Wh β B1 H1 ps us' := ⟨W.g.base g fun a ha => W.w.ms ha, w, W.hd⟩
theorem Wh.go (W : Wh β B H ps us) (g : Go B H B1 H1) : Wh β B1 H1 ps us := W.step (.of g) (W.w.go g)
theorem Wh.new (W : Wh β B H ps us) {p : Addr} {u : U} (g : Gs (inP ps) B H B1 H1) (w : Ows β.M B1 H1 ps us') (hn : H p = none) (hb : B1 p = none) (o : OwnAt B1 H1 p u) : Wh β B1 H1 (ps ++ [p]) (us' ++ [u]) :=
  ⟨(W.step g w).g, w.add (W.w.fresh hn) ⟨.inr (W.g.n p hn), o.ex, .inr ⟨hb, o⟩⟩, fun q hq => by
    have := W.hd q hq
    cases ps with
    | nil => cases this
    | cons a r => simpa using this⟩
theorem Wh.take (W : Wh β B H ps us) (n : Nat) (h0 : 0 < n ∨ β.hd = none) : Wh β B H (ps.take n) (us.take n) := ⟨W.g, W.w.take n, fun q hq => by
    have e := W.hd q hq
    rcases h0 with h0 | h0
    · cases ps with
      | nil => cases e
      | cons a r =>
        cases n with
        | zero => omega
        | succ n => simpa using e
    · rw [h0] at hq; cases hq⟩
end
def addS {α : Type} (u : U) (G : SM α) : SM α := fun us => G (us ++ [u])
def cutS' {α : Type} (n : Nat) (G : SM α) : SM α := fun us => G (us.take n)
def unpS {α : Type} (u : U) (k : U → U → SM α) : SM α := fun us => (unp2 u).bind fun ab => k ab.1 ab.2 us
def parS {α : Type} (xs : List U) (k : U → U → SM α) : SM α := match xs with
  | [x, y] => k x y
  | _ => pureS none
def setLS (j : Nat) (i y : U) : SM U := fun us => match us[j]?, i with
  | some (.frl xs), .int k => (ixN xs.length k).map fun n => (.non, us.set j (.frl (xs.set n y)))
  | _, _ => none
def putU {κ : Type} [DecidableEq κ] (kvs : List (κ × U)) (k : κ) (v : U) : List (κ × U) :=
  if (kvs.any fun kv => decide (kv.1 = k)) = true then kvs.map (fun kv => if kv.1 = k then (kv.1, v) else kv) else kvs ++ [(k, v)]
def putS (j : Nat) (k y : U) : SM U := fun us => match us[j]? with
  | some (.dic kvs) => k.key.bind fun kk => if kvs.length < lim then some (.non, us.set j (.dic (putU kvs kk y))) else none
  | some (.dit kvs) => match k with
    | .tup ys => (keysL ys).bind fun kk => if kvs.length < lim then some (.non, us.set j (.dit (putU kvs kk y))) else none
    | _ => none
  | _ => none
theorem Rps.set {B : Hp} {x : U} {v : V} (h : Rp B x v) : ∀ {xs : List U} {vs : List V} (n : Nat), Rps B xs vs → Rps B (xs.set n x) (vs.set n v)
  | _, _, _, .nil => .nil
  | _, _, 0, .cons _ t => .cons h t
  | _, _, n + 1, .cons h1 t => .cons h1 (Rps.set h n t)
section
variable {B : Hp} {x : U} {v : V}
theorem Rpk.any (k : Key) : ∀ {kvs : List (Key × U)} {es : List (Key × V)}, Rpk B kvs es → (es.any fun kv => decide (kv.1 = k)) = (kvs.any fun kv => decide (kv.1 = k))
  | _, _, .nil => rfl
  | _, _, .cons _ t => by rw [List.any_cons, List.any_cons, Rpk.any k t]
theorem Rpk.repl (h : Rp B x v) (k : Key) : ∀ {kvs : List (Key × U)} {es : List (Key × V)}, Rpk B kvs es → Rpk B (kvs.map fun kv => if kv.1 = k then (kv.1, x) else kv) (es.map fun kv => if kv.1 = k then (kv.1, v) else kv)
  | _, _, .nil => .nil
  | _, _, @Rpk.cons _ _ k' y w kvs es r t => by
    rw [List.map_cons, List.map_cons]
    by_cases e : k' = k
    · simp only [e, if_true]; exact .cons h (Rpk.repl h k t)
    · simp only [e, if_false]; exact .cons r (Rpk.repl h k t)
theorem Rpk.snoc (h : Rp B x v) (k : Key) : ∀ {kvs : List (Key × U)} {es : List (Key × V)}, Rpk B kvs es → Rpk B (kvs ++ [(k, x)]) (es ++ [(k, v)])
  | _, _, .nil => .cons h .nil
  | _, _, .cons r t => .cons r (Rpk.snoc h k t)
theorem Rpk.put (h : Rp B x v) (k : Key) {kvs : List (Key × U)} {es : List (Key × V)} (r : Rpk B kvs es) : Rpk B (putU kvs k x) (putK es k v) := by
  unfold putU putK
  rw [r.any k]
  split
  · exact r.repl h k
  · exact r.snoc h k
theorem Rpt.any (k : List Key) : ∀ {kvs : List (List Key × U)} {es : List (List Key × V)}, Rpt B kvs es → (es.any fun kv => decide (kv.1 = k)) = (kvs.any fun kv => decide (kv.1 = k))
  | _, _, .nil => rfl
  | _, _, .cons _ t => by rw [List.any_cons, List.any_cons, Rpt.any k t]
theorem Rpt.repl (h : Rp B x v) (k : List Key) : ∀ {kvs : List (List Key × U)} {es : List (List Key × V)}, Rpt B kvs es → Rpt B (kvs.map fun kv => if kv.1 = k then (kv.1, x) else kv) (es.map fun kv => if kv.1 = k then (kv.1, v) else kv)
  | _, _, .nil => .nil
  | _, _, @Rpt.cons _ _ k' y w kvs es r t => by
    rw [List.map_cons, List.map_cons]
    by_cases e : k' = k
    · simp only [e, if_true]; exact .cons h (Rpt.repl h k t)
    · simp only [e, if_false]; exact .cons r (Rpt.repl h k t)
theorem Rpt.snoc (h : Rp B x v) (k : List Key) : ∀ {kvs : List (List Key × U)} {es : List (List Key × V)}, Rpt B kvs es → Rpt B (kvs ++ [(k, x)]) (es ++ [(k, v)])
  | _, _, .nil => .cons h .nil
  | _, _, .cons r t => .cons r (Rpt.snoc h k t)
theorem Rpt.put (h : Rp B x v) (k : List Key) {kvs : List (List Key × U)} {es : List (List Key × V)} (r : Rpt B kvs es) : Rpt B (putU kvs k x) (putK es k v) := by
  unfold putU putK
  rw [r.any k]
  split
  · exact r.repl h k
  · exact r.snoc h k
theorem Rpt.length {B : Hp} : ∀ {xs : List (List Key × U)} {vs : List (List Key × V)}, Rpt B xs vs → vs.length = xs.length
  | _, _, .nil => rfl
  | _, _, .cons _ t => by rw [List.length_cons, List.length_cons, Rpt.length t]
end
section
variable {α : Type} {R : α × List U} {Rr : U × List U} {β : Bs} {σ : St} {B H : Hp} {ps : List Addr} {us : List U} {K : PySem.W.Frag} {te tb ty tv : TE} {t : TT} {tu tw tz : TS} {D : Ends} {F G : SM U} {i j jj : Nat} {p : Addr}
theorem q_retS (W : Wh β B H ps us) (h : EvS β.M ps σ B te F) (e : F us = some Rr) (k : ∀ v B2 H2 ps2, Wh β B2 H2 ps2 Rr.2 → Rp B2 Rr.1 v → D.rt v H2) : tSeq (tRet te) tz D σ H :=
  h _ _ _ e B H W.at W.w _ fun v B2 H2 g2 r2 w2 => k v B2 H2 ps (W.step g2 w2) r2
theorem q_retN (W : Wh β B H ps us) (h : EvN β.M ps σ B te F) (e : F us = some Rr) (k : ∀ p B2 H2 ps2, Wh β B2 H2 ps2 Rr.2 → β.H p = none → B2 p = none → OwnAt B2 H2 p Rr.1 → D.rt (.ref p) H2) : tSeq (tRet te) tz D σ H :=
  h _ _ _ e B H W.at W.w _ fun p B2 H2 g2 n2 b2 o2 w2 => k p B2 H2 ps (W.step g2 w2) (W.g.n p n2) b2 o2
theorem q_asgS {f : U → SM α} (W : Wh β B H ps us) (h : EvS β.M ps σ B te F) (e : bindS F f us = some R) (k : ∀ x v B1 H1 us1, Wh β B1 H1 ps us1 → Same B B1 → Rp B1 x v → f x us1 = some R → tz D (σ.set i (some v)) H1) : tSeq (tAsg te (gName i)) tz D σ H := by
  obtain ⟨x, us1, ex, e⟩ := bindS_some e
  exact h _ _ _ ex B H W.at W.w _ fun v B2 H2 g2 r2 w2 => k x v B2 H2 us1 (W.step g2 w2) g2.b r2 e
theorem q_exprS {f : U → SM α} (W : Wh β B H ps us) (h : EvS β.M ps σ B te F) (e : bindS F f us = some R) (k : ∀ x B1 H1 us1, Wh β B1 H1 ps us1 → Same B B1 → f x us1 = some R → tz D σ H1) : tSeq (tDrop te) tz D σ H := by
  obtain ⟨x, us1, ex, e⟩ := bindS_some e
  exact h _ _ _ ex B H W.at W.w _ fun v B2 H2 g2 r2 w2 => k x B2 H2 us1 (W.step g2 w2) g2.b e
theorem q_parS {ta : TA} {F : SM (List U)} {f : U → U → SM α} (W : Wh β B H ps us) (h : EvAS β.M ps σ B ta F) (e : bindS F (fun xs => parS xs f) us = some R) (k : ∀ x y v w B1 H1 us1, Wh β B1 H1 ps us1 → Same B B1 → Rp B1 x v → Rp B1 y w → f x y us1 = some R → tz D ((σ.set i (some v)).set j (some w)) H1) :
    tSeq (tPar i j ta) tz D σ H := by
  obtain ⟨xs, us1, eu, e⟩ := bindS_some e
  match xs, eu, e with
  | [x, y], eu, e =>
    refine h _ _ _ eu B H W.at W.w _ fun vs B2 H2 g2 r2 w2 => ?_
    cases r2 with
    | cons r1 t =>
      cases t with
      | cons r2 t =>
        cases t
        exact ⟨_, _, rfl, k x y _ _ B2 H2 us1 (W.step g2 w2) g2.b r1 r2 e⟩
  | [], _, e => cases e
  | [_], _, e => cases e
  | _ :: _ :: _ :: _, _, e => cases e
theorem q_ifS {c : SM Bool} {m1 m2 : SM α} (W : Wh β B H ps us) (h : EvTS β.M ps σ B t c) (e : ifS c m1 m2 us = some R) (h1 : ∀ B1 H1 us1, Wh β B1 H1 ps us1 → Same B B1 → m1 us1 = some R → tu { D with nx := tz D } σ H1) (h2 : ∀ B1 H1 us1, Wh β B1 H1 ps us1 → Same B B1 → m2 us1 = some R → tw { D with nx := tz D } σ H1) :
    tSeq (tIfS t tu tw) tz D σ H := by
  obtain ⟨x, us1, ex, e⟩ := bindS_some e
  refine h _ _ _ ex B H W.at W.w _ fun B2 H2 g2 w2 => ?_
  cases x with
  | true => exact h1 B2 H2 us1 (W.step g2 w2) g2.b e
  | false => exact h2 B2 H2 us1 (W.step g2 w2) g2.b e
theorem q_forS {wi : TI} {g : TG} {F : SM (List U)} {L : List U → SM α} (W : Wh β B H ps us) (hi : EvIS β.M ps σ B wi F) (e : bindS F L us = some R)
    (k : ∀ xs B2 H2 us1, Wh β B2 H2 ps us1 → Same B B2 → L xs us1 = some R → ∃ Rl : List U → St → Hp → Hp → Prop, Rl xs σ B2 H2 ∧ (∀ l σ' B' H', Rl l σ' B' H' → Same B2 B' ∧ Ok B' H') ∧
      (∀ u l v σ' B' H' B'' H'', Rl (u :: l) σ' B' H' → Go B' H' B'' H'' → Rp B'' u v → g v σ' H'' fun σ2 H3 => tu { D with nx := fun σ3 H4 => ∃ B4, Rl l σ3 B4 H4, ct := fun σ3 H4 => ∃ B4, Rl l σ3 B4 H4, bk := tz D } σ2 H3) ∧
      (∀ σ' B' H', Rl [] σ' B' H' → tz D σ' H')) : tSeq (tFor wi g tu) tz D σ H := by
  obtain ⟨xs, us1, exs, e⟩ := bindS_some e
  refine hi _ _ _ exs B H W.at W.w _ fun J B2 H2 g2 w w2 => ?_
  obtain ⟨Rl, r0, rs, rt, rd⟩ := k xs B2 H2 us1 (W.step g2 w2) g2.b e
  have w' : Walk J xs.length (fun H' => Ok B2 H') (J.yld) := ⟨w.goes, w.stops, fun _ _ _ _ _ _ y => y⟩
  refine for_it (D := { D with nx := tz D }) w' (fun i σ' H' => ∃ B', Rl (xs.drop i) σ' B' H') ⟨B2, r0⟩ (fun i σ' H' _ ⟨B', r⟩ => (rs _ _ _ _ r).2.less (rs _ _ _ _ r).1) ?_ ?_
  · rintro i x σ' H' H'' hin ⟨B', r⟩ y
    obtain ⟨s1, s2⟩ := rs _ _ _ _ r
    obtain ⟨B'', u, g', eu, ru⟩ := w.yields i H' x H'' B' hin s1 s2 y
    rw [drop_at eu] at r
    exact rt u _ x σ' B' H' B'' H'' r g' ru
  · rintro σ' H' ⟨B', r⟩
    rw [List.drop_length] at r
    exact rd σ' B' H' r
theorem q_newS {f : SM α} (W : Wh β B H ps us) (h : EvN β.M ps σ B te F) (e : bindS F (fun u => addS u f) us = some R) (k : ∀ p B1 H1 us1, Wh β B1 H1 (ps ++ [p]) us1 → Same B B1 → f us1 = some R → tz D (σ.set i (some (.ref p))) H1) : tSeq (tAsg te (gName i)) tz D σ H := by
  obtain ⟨x, us1, ex, e⟩ := bindS_some e
  exact h _ _ _ ex B H W.at W.w _ fun p B2 H2 g2 n2 b2 o2 w2 => k p B2 H2 _ (W.new g2 w2 n2 b2 o2) g2.b e
theorem setLS_do {k y : U} {v : V} {z : U} {us us' : List U} (hp : ps[jj]? = some p) (e : setLS jj k y us = some (z, us')) (w : Ows β.M B H ps us) (s : Ok B H) (r : Rp B y v) {kv : V} (rk : Rp B k kv) {Q : Hp → Prop} (q : ∀ H2, Gs (inP ps) B H B H2 → Ows β.M B H2 ps us' → Q H2) : rSetL (.ref p) kv v H Q := by
  unfold setLS at e
  split at e
  · rename_i xs n eu
    obtain ⟨m, em, e⟩ := map_some e
    cases e
    cases rk
    have wp := w.at_ jj p _ hp eu
    obtain ⟨hb, vs, e1, rr⟩ := wp.own rfl
    exact ⟨p, vs, n, m, rfl, rfl, e1, by rw [rr.length]; exact em, q _ (gs_upd hp s hb e1) (own_upd hp w s wp.m hb ⟨_, upd_same, rr.set r m⟩)⟩
  · cases e
/-- x[i] = e, a list -/
theorem q_setL {ti : TE} {f : SM α} (W : Wh β B H ps us) (hp : ps[jj]? = some p) (hv : σ[i]? = some (some (.ref p))) (h : EvS β.M ps σ B te F) (h2 : EvS β.M ps σ B ti G) (e : bindS F (fun y => bindS G fun k => bindS (setLS jj k y) fun _ => f) us = some R) (k : ∀ B1 H1 us1, Wh β B1 H1 ps us1 → Same B B1 → f us1 = some R → tz D σ H1) :
    tSeq (tAsg te (gSub (tVar i) ti rSetL)) tz D σ H := by
  obtain ⟨y, us1, ey, e⟩ := bindS_some e
  obtain ⟨kk, us2, ek, e⟩ := bindS_some e
  obtain ⟨z, us3, ez, e⟩ := bindS_some e
  refine h _ _ _ ey B H W.at W.w _ fun v B2 H2 g2 r2 w2 => ⟨_, hv, h2 _ _ _ ek B2 H2 (W.at.trs g2) w2 _ fun kv B3 H3 g3 r3 w3 => ?_⟩
  exact setLS_do hp ez w3 g3.bh (r2.upA g3.at) r3 fun H4 g4 w4 => k B3 H4 us3 (W.step ((g2.trans g3).trans g4) w4) (g2.b.trans g3.b) e
/-- x[i], d = e -/
theorem q_setTwo {ti : TE} {f : U → SM α} (W : Wh β B H ps us) (hp : ps[jj]? = some p) (hv : σ[i]? = some (some (.ref p))) (h : EvS β.M ps σ B te F) (h2 : EvS β.M ps σ B ti G) (e : bindS F (fun u => unpS u fun x y => bindS G fun k => bindS (setLS jj k x) fun _ => f y) us = some R) (k : ∀ y v B1 H1 us1, Wh β B1 H1 ps us1 → Same B B1 → Rp B1 y v → f y us1 = some R → tz D (σ.set j (some v)) H1) :
    tSeq (tAsg te (gTup K 2 (gCons (gSub (tVar i) ti rSetL) (gCons (gName j) gNil)))) tz D σ H := by
  obtain ⟨u, us1, eu, e⟩ := bindS_some e
  obtain ⟨⟨x, y⟩, exy, e'⟩ := bind_some e
  obtain ⟨kk, us2, ek, e''⟩ := bindS_some e'
  obtain ⟨z, us3, ez, e3⟩ := bindS_some e''
  refine h _ _ _ eu B H W.at W.w _ fun v B2 H2 g2 r2 w2 => ?_
  have e0 := unp2_tup exy
  subst e0
  cases r2 with
  | @tup ad _ vs e0 r =>
    cases r with
    | cons r1 t =>
      cases t with
      | cons r2 t =>
        cases t
        refine ⟨ad, _, rfl, SqT.of (g2.bh _ _ e0), rfl, _, _, rfl, _, hv, h2 _ _ _ ek B2 H2 (W.at.trs g2) w2 _ fun kv B3 H3 g3 r3 w3 => ?_⟩
        exact setLS_do hp ez w3 g3.bh (r1.upA g3.at) r3 fun H4 g4 w4 => ⟨_, _, rfl, rfl, k y _ B3 H4 us3 (W.step ((g2.trans g3).trans g4) w4) (g2.b.trans g3.b) (r2.upA g3.at) e3⟩
/-- d[k] = e, a dict -/
theorem q_dput {f : SM α} (W : Wh β B H ps us) (hp : ps[jj]? = some p) (hv : σ[i]? = some (some (.ref p))) (h : EvS β.M ps σ B tv F) (h2 : EvS β.M ps σ B ty G) (e : bindS F (fun y => bindS G fun k => bindS (putS jj k y) fun _ => f) us = some R) (k : ∀ B1 H1 us1, Wh β B1 H1 ps us1 → Same B B1 → f us1 = some R → tz D σ H1) :
    tSeq (sDPut (tVar i) ty tv) tz D σ H := by
  obtain ⟨y, us1, ey, e⟩ := bindS_some e
  obtain ⟨kk, us2, ek, e⟩ := bindS_some e
  obtain ⟨z, us3, ez, e⟩ := bindS_some e
  refine h _ _ _ ey B H W.at W.w _ fun v B2 H2 g2 r2 w2 => ⟨_, hv, h2 _ _ _ ek B2 H2 (W.at.trs g2) w2 _ fun kv B3 H3 g3 r3 w3 => ?_⟩
  have r2 := r2.upA g3.at
  unfold putS at ez
  split at ez
  · rename_i kvs eu
    obtain ⟨kq, ekq, ez⟩ := bind_some ez
    split at ez
    · rename_i hl
      cases ez
      have wp := w3.at_ jj p _ hp eu
      obtain ⟨hb, es, e1, rr⟩ := wp.own rfl
      exact ⟨p, _, rfl, .inl ⟨es, kq, e1, r3.key ekq, lim_lt (by rw [rr.length]; exact Nat.le_of_lt hl), rfl⟩, k B3 _ _ (W.step ((g2.trans g3).trans (gs_upd hp g3.bh hb e1)) (own_upd (u := U.dic (putU kvs kq y)) hp w3 g3.bh wp.m hb ⟨_, upd_same, rr.put r2 kq⟩)) (g2.b.trans g3.b) e⟩
    · cases ez
  · rename_i kvs eu
    split at ez
    · rename_i ys
      obtain ⟨kq, ekq, ez⟩ := bind_some ez
      split at ez
      · rename_i hl
        cases ez
        have wp := w3.at_ jj p _ hp eu
        obtain ⟨hb, es, e1, rr⟩ := wp.own rfl
        cases r3 with
        | @tup bb _ ws eb rb =>
          have hk := rb.keys ekq
          exact ⟨p, _, rfl, .inr ⟨es, kq, bb, e1, rfl, by rw [← hk]; exact g3.bh _ _ eb, lim_lt (by rw [rr.length]; exact Nat.le_of_lt hl), rfl⟩, k B3 _ _ (W.step ((g2.trans g3).trans (gs_upd hp g3.bh hb e1)) (own_upd (u := U.dit (putU kvs kq y)) hp w3 g3.bh wp.m hb ⟨_, upd_same, rr.put r2 kq⟩)) (g2.b.trans g3.b) e⟩
      · cases ez
    · cases ez
  · cases ez
end
def finS (o : Option (U × List U)) : Option (U × U) := o.bind fun R => match R.2 with
  | u :: _ => if u.own = true then some (R.1, u) else none
  | [] => none
def runS (F : SM U) : Option U := (F []).map Prod.fst
def b0 (f : SM U) : U → List U → Option (U × U)
  | u, [] => finS (f [u])
  | _, _ => none
def b1 (f : U → SM U) : U → List U → Option (U × U)
  | u, [x] => finS (f x [u])
  | _, _ => none
def b2 (f : U → U → SM U) : U → List U → Option (U × U)
  | u, [x, y] => finS (f x y [u])
  | _, _ => none
def b3 (f : U → U → U → SM U) : U → List U → Option (U × U)
  | u, [x, y, z] => finS (f x y z [u])
  | _, _ => none
def b4 (f : U → U → U → U → SM U) : U → List U → Option (U × U)
  | u, [x, y, z, t] => finS (f x y z t [u])
  | _, _ => none
section
variable {vs : List V} {H : Hp} {Q : VK} {E : XK}
/-- the base of a def that changes the object at p -/
abbrev bsM (B H : Hp) (p : Addr) : Bs := ⟨fun a => a = p, some p, B, H⟩
abbrev bsU (B H : Hp) : Bs := ⟨fun _ => False, none, B, H⟩
theorem wh_pure {B : Hp} (s : Ok B H) : Wh (bsU B H) B H [] [] := ⟨.refl s, ows_nil, fun p h => nomatch h⟩
theorem Wh.pure {B B2 H2 : Hp} {ps : List Addr} {us : List U} (W : Wh (bsU B H) B2 H2 ps us) : Go B H B2 H2 := W.g.go
theorem wh_first {B : Hp} {p : Addr} {u : U} (s : Ok B H) (hb : B p = none) (o : OwnAt B H p u) : Wh (bsM B H p) B H [p] [u] :=
  ⟨.refl s, ⟨rfl, fun i j q h1 h2 => by
      have a1 := (List.getElem?_eq_some_iff.mp h1).1
      have a2 := (List.getElem?_eq_some_iff.mp h2).1
      simp at a1 a2; omega, fun j q v hq hv => by
      have a1 := (List.getElem?_eq_some_iff.mp hq).1
      have : j = 0 := by simp at a1; omega
      subst this
      cases hq; cases hv
      exact ⟨.inl rfl, o.ex, .inr ⟨hb, o⟩⟩⟩, fun q h => h⟩
theorem fin_of {B : Hp} {p : Addr} {o : Option (U × List U)} {r u' : U} (e : finS o = some (r, u')) (k : ∀ v B2 H2, Gs (fun a => a = p) B H B2 H2 → B2 p = none → OwnAt B2 H2 p u' → Rp B2 r v → Q v H2) :
    ∃ R, o = some R ∧ ∀ v B2 H2 ps2, Wh (bsM B H p) B2 H2 ps2 R.2 → Rp B2 R.1 v → Q v H2 := by
  obtain ⟨R, eR, e⟩ := bind_some e
  refine ⟨R, eR, fun v B2 H2 ps2 W r2 => ?_⟩
  split at e
  · rename_i u0 rest hR
    split at e
    · rename_i ho
      cases e
      have hd := W.hd p rfl
      cases ps2 with
      | nil => cases hd
      | cons q ps2 =>
        cases hd
        have wp := W.w.at_ 0 p u' rfl (by rw [hR]; rfl)
        obtain ⟨hb, ow⟩ := wp.own ho
        exact k v B2 H2 W.g hb ow r2
    · cases e
  · cases e
theorem ss0 {f : SM U} (h : spS (b0 f) vs H Q E) : ∃ B p u R, vs = [.ref p] ∧ Ok B H ∧ Wh (bsM B H p) B H [p] [u] ∧ f [u] = some R ∧ ∀ v B2 H2 ps2, Wh (bsM B H p) B2 H2 ps2 R.2 → Rp B2 R.1 v → Q v H2 := by
  obtain ⟨B, p, ws, u, xs, r, u', s, ev, hb, o, rs, e, k⟩ := h
  match xs, rs, e with
  | [], .nil, e =>
    obtain ⟨R, eR, k⟩ := fin_of e k
    exact ⟨B, p, u, R, ev, s, wh_first s hb o, eR, k⟩
theorem ss1 {f : U → SM U} (h : spS (b1 f) vs H Q E) : ∃ B p u x v R, vs = [.ref p, v] ∧ Ok B H ∧ Wh (bsM B H p) B H [p] [u] ∧ Rp B x v ∧ f x [u] = some R ∧ ∀ v B2 H2 ps2, Wh (bsM B H p) B2 H2 ps2 R.2 → Rp B2 R.1 v → Q v H2 := by
  obtain ⟨B, p, ws, u, xs, r, u', s, ev, hb, o, rs, e, k⟩ := h
  match xs, rs, e with
  | [x], .cons r1 .nil, e =>
    obtain ⟨R, eR, k⟩ := fin_of e k
    exact ⟨B, p, u, x, _, R, ev, s, wh_first s hb o, r1, eR, k⟩
/-- a plain def with objects of its own: from what it comes to -/
theorem runS_some {f : SM U} {r : U} (h : runS f = some r) : ∃ R, f [] = some R ∧ R.1 = r := map_some h
end
end Dn
set_option Elab.async false
set_option linter.all false
set_option maxRecDepth 100000
set_option maxHeartbeats 2000000
namespace Dn
open PySem L2
variable [CTab]
def U.iter : U → Option (List U)
  | .lst xs => some xs
  | .tup xs => some xs
  | .tpd xs => some xs
  | .frl xs => some xs
  | .dic kvs => some (kvs.map fun kv => kU kv.1)
  | _ => none
def iAny (K : PySem.W.Frag) (tl : TE) : TI := fun σ H R => tl σ H fun x H1 => (∃ a, x = .ref a ∧ (∃ xs, SqL K H1 a xs) ∧ R (Itl K a) H1) ∨ (∃ a, x = .ref a ∧ (∃ xs, SqT K H1 a xs) ∧ R (Itt K a) H1) ∨
  (∃ d o kvs, x = .ref d ∧ H1 d = some (.frz o (.dK kvs)) ∧ R (Itk d o kvs) H1)
theorem pi_any {X : Cx} {tg l : Expr} {tl : TE} (hl : PE X l tl) : PI X tg l (iAny X.K tl) := by
  refine ⟨fun pins s σ H R I h => ?_⟩
  refine thn (hl.run pins s σ H _ I h) fun v s1 ⟨x, H1, I1, r1, q1⟩ => ?_
  rcases q1 with ⟨a, e, ⟨xs, hq⟩, q⟩ | ⟨a, e, ⟨xs, hq⟩, q⟩ | ⟨d, o, kvs, e, hd, q⟩
  · subst e
    cases r1
    obtain ⟨its, rv, p, hz⟩ := I1.list hq
    refine wpAny_pyIter_list p.isList ?_
    refine ⟨s1.heap.objs.size, [s1.heap.objs.size], _, _, H1, rfl, I1.kept (t' := s1.toks) fun b o e => Heap.get?_push_of_some _ e, turn_list a _, ⟨_, Heap.get?_push_size _ rfl, rfl, rfl⟩, fun b hb => ?_, q⟩
    have e : b = s1.heap.objs.size := by simpa using hb
    subst e
    exact I1.fpOk (Nat.le_refl _) (I1.hok.fresh (Nat.le_refl _))
  · subst e
    cases r1
    obtain ⟨its, rv, p, hz⟩ := I1.tuple hq
    refine wpAny_pyIter_tuple (show s1.heap.IsTuple a its.toArray from p) ?_
    refine ⟨s1.heap.objs.size, [s1.heap.objs.size], _, _, H1, rfl, I1.kept (t' := s1.toks) fun b o e => Heap.get?_push_of_some _ e, turn_tuple a _, ⟨_, Heap.get?_push_size _ rfl, rfl, rfl⟩, fun b hb => ?_, q⟩
    have e : b = s1.heap.objs.size := by simpa using hb
    subst e
    exact I1.fpOk (Nat.le_refl _) (I1.hok.fresh (Nat.le_refl _))
  · subst e
    cases r1
    obtain ⟨hs, hgd, hx, es, ep, vs, hdt, hsz, kv, hm⟩ := I1.frzK hd
    refine L2.iter_keys hs hgd hx hdt (pi_one (tk := s1.toks) I1 _ (turn_keys _ hdt) ⟨_, Heap.get?_push_size _ rfl, rfl, ?_⟩ q)
    rw [hsz] <;> rfl
theorem Rpk.at {B : Hp} : ∀ {xs : List (Key × U)} {vs : List (Key × V)} {i : Nat} {k : Key} {v : V}, Rpk B xs vs → vs[i]? = some (k, v) → ∃ x, xs[i]? = some (k, x) ∧ Rp B x v
  | _, _, _, _, _, .nil, e => by simp at e
  | _, _, 0, _, _, .cons h _, e => by simp at e; obtain ⟨rfl, rfl⟩ := e; exact ⟨_, rfl, h⟩
  | _, _, i + 1, k, v, .cons _ t, e => by
    obtain ⟨x, h1, h2⟩ := Rpk.at (i := i) (k := k) (v := v) t (by simpa using e)
    exact ⟨x, by simpa using h1, h2⟩
section
variable {σ : St} {B H : Hp} {te tl ta tb : TE} {oa ob : Option U} {K : PySem.W.Frag}
theorem ei_any (h : EvO tl σ B H oa) : EvI (iAny K tl) σ B H (oa.bind U.iter) := fun xs e B1 H1 g R q => by
  obtain ⟨x, ex, e⟩ := bind_some e
  refine h x ex B1 H1 g _ fun v B2 H2 g2 r => ?_
  cases r with
  | @lst a ys vs h r =>
    cases e
    exact .inl ⟨a, rfl, ⟨vs, SqL.of (g2.bh _ _ h)⟩, q _ B2 H2 g2 (WalkU.of (walk_list (K := K) (a := a)) r.length (fun H s => SqL.of (s _ _ h)) r)⟩
  | @tup a ys vs h r =>
    cases e
    exact .inr (.inl ⟨a, rfl, ⟨vs, SqT.of (g2.bh _ _ h)⟩, q _ B2 H2 g2 (WalkU.of (walk_tup (K := K) (a := a)) r.length (fun H s => SqT.of (s _ _ h)) r)⟩)
  | @tpd a ys vs o h _ r =>
    cases e
    exact .inr (.inl ⟨a, rfl, ⟨_, .inl (.inr ⟨o, g2.bh _ _ h⟩)⟩, q _ B2 H2 g2 (WalkU.of (walk_tup (K := K) (a := a)) r.length (fun H s => .inl (.inr ⟨o, s _ _ h⟩)) r)⟩)
  | @frl a ys vs o h r =>
    cases e
    exact .inl ⟨a, rfl, ⟨_, .inl (.inr ⟨o, g2.bh _ _ h⟩)⟩, q _ B2 H2 g2 (WalkU.of (walk_list (K := K) (a := a)) r.length (fun H s => .inl (.inr ⟨o, s _ _ h⟩)) r)⟩
  | @dic a kvs es o h r =>
    cases e
    refine .inr (.inr ⟨a, o, es, rfl, g2.bh _ _ h, q _ B2 H2 g2 ⟨fun i H' hi s => ?_, fun H' s => ?_, fun i H' x H'' B' hi s1 s2 y => ?_⟩⟩)
    · rw [List.length_map, ← r.length] at hi
      exact (walk_keys (kvs := es)).goes i H' hi (s _ _ h)
    · rw [List.length_map, ← r.length]
      exact (walk_keys (kvs := es)).stops H' (s _ _ h)
    · rw [List.length_map, ← r.length] at hi
      obtain ⟨e1, k, v, e2, e3⟩ := (walk_keys (kvs := es)).yields i H' x H'' hi ((s2.less s1) _ _ h) y
      subst e1 e3
      obtain ⟨x, ex, _⟩ := r.at e2
      exact ⟨B', kU k, Go.refl s2, by simp [ex], rp_key k⟩
  | _ => cases e
end
def strsU : List U → Option (List Str)
  | [] => some []
  | .str s :: r => (strsU r).map fun z => s :: z
  | _ :: _ => none
theorem Rps.strs {B : Hp} : ∀ {xs : List U} {vs : List V} {ss : List Str}, Rps B xs vs → strsU xs = some ss → vs = ss.map V.str
  | _, _, _, .nil, h => by cases h; rfl
  | _, _, _, .cons (.str s) t, h => by
    obtain ⟨z, ez, h⟩ := map_some h
    subst h
    rw [List.map_cons, t.strs ez]
theorem Rps.ofStrs {B : Hp} : ∀ (ss : List Str), Rps B (ss.map U.str) (ss.map V.str)
  | [] => .nil
  | _ :: r => .cons (.str _) (Rps.ofStrs r)
def splitV : U → U → Option U
  | .str a, .str b => if b.length ≠ 0 ∧ a.length ≤ lim then some (.lst ((Txt.split a b).map U.str)) else none
  | _, _ => none
def joinV : U → U → Option U
  | .str a, x => match x with
    | .lst xs => (strsU xs).bind fun ss => if (ss.map (·.length)).sum + ss.length * a.length ≤ 16777216 then some (.str (Txt.join a ss)) else none
    | .tup xs => (strsU xs).bind fun ss => if (ss.map (·.length)).sum + ss.length * a.length ≤ 16777216 then some (.str (Txt.join a ss)) else none
    | .frl xs => (strsU xs).bind fun ss => if (ss.map (·.length)).sum + ss.length * a.length ≤ 16777216 then some (.str (Txt.join a ss)) else none
    | _ => none
  | _, _ => none
theorem lim_two {n : Nat} (h : n ≤ lim) : n + 2 ≤ sizeLine := Nat.le_trans (Nat.add_le_add_right h 2) (by decide)
section
variable {σ : St} {B H : Hp} {te tl ta tb : TE} {oa ob : Option U} {K : PySem.W.Frag}
theorem eo_split (ha : EvO ta σ B H oa) (hb : EvO tb σ B H ob) : EvO (tM1 (fun x xs H Q => ∃ a b, x = .str a ∧ xs = [.str b] ∧ (b.length == 0) = false ∧ a.length + 2 ≤ sizeLine ∧ rNewStrs (Txt.split a b) H Q) ta tb) σ B H (op2 splitV oa ob) := fun z e B1 H1 g Q q => by
  obtain ⟨x, ex, e⟩ := bind_some e
  obtain ⟨y, ey, e⟩ := bind_some e
  refine ha x ex B1 H1 g _ fun v B2 H2 g2 r2 => ?_
  unfold splitV at e
  split at e
  · rename_i a b
    split at e
    · rename_i hl
      cases e
      cases r2
      refine ⟨⟨_, rfl⟩, hb _ ey B2 H2 (g.trans g2) _ fun w B3 H3 g3 r3 => ?_⟩
      cases r3
      exact ⟨_, _, rfl, rfl, by simpa using hl.1, lim_two hl.2, fun p hp => q _ _ _ ((g2.trans g3).trans (Go.new g3.bh hp)) (.lst upd_same ((Rps.ofStrs _).new g3.bh hp))⟩
    · cases e
  · cases e
theorem eo_join (ha : EvO ta σ B H oa) (hb : EvO tb σ B H ob) : EvO (tM1 (fun x xs H Q => ∃ a p, ∃ ys : List Str, x = .str a ∧ xs = [.ref p] ∧ (SqL K H p (ys.map V.str) ∨ SqT K H p (ys.map V.str)) ∧
      (ys.map (·.length)).sum + ys.length * a.length ≤ 16777216 ∧ Q (.str (Txt.join a ys)) H) ta tb) σ B H (op2 joinV oa ob) := fun z e B1 H1 g Q q => by
  obtain ⟨x, ex, e⟩ := bind_some e
  obtain ⟨y, ey, e⟩ := bind_some e
  refine ha x ex B1 H1 g _ fun v B2 H2 g2 r2 => ?_
  cases r2 with
  | str a =>
    refine ⟨⟨a, rfl⟩, hb _ ey B2 H2 (g.trans g2) _ fun w B3 H3 g3 r3 => ?_⟩
    cases r3 with
    | @lst p xs vs h r =>
      obtain ⟨ss, es, e⟩ := bind_some (show (strsU xs).bind _ = some z from e)
      split at e
      · rename_i hl
        cases e
        have := r.strs es; subst this
        exact ⟨a, p, ss, rfl, rfl, .inl (SqL.of (g3.bh _ _ h)), hl, q _ B3 H3 (g2.trans g3) (.str _)⟩
      · cases e
    | @tup p xs vs h r =>
      obtain ⟨ss, es, e⟩ := bind_some (show (strsU xs).bind _ = some z from e)
      split at e
      · rename_i hl
        cases e
        have := r.strs es; subst this
        exact ⟨a, p, ss, rfl, rfl, .inr (SqT.of (g3.bh _ _ h)), hl, q _ B3 H3 (g2.trans g3) (.str _)⟩
      · cases e
    | @frl p xs vs o h r =>
      obtain ⟨ss, es, e⟩ := bind_some (show (strsU xs).bind _ = some z from e)
      split at e
      · rename_i hl
        cases e
        have := r.strs es; subst this
        exact ⟨a, p, ss, rfl, rfl, .inl (.inl (.inr ⟨o, g3.bh _ _ h⟩)), hl, q _ B3 H3 (g2.trans g3) (.str _)⟩
      · cases e
    | _ => cases e
  | _ => cases e
theorem Rpf.look {B : Hp} (k : Str) : ∀ {xs : List (Str × U)} {vs : List (Str × V)}, Rpf B xs vs → (∀ x, xs.lookup k = some x → ∃ v, vs.lookup k = some v ∧ Rp B x v) ∧ (xs.lookup k = none → vs.lookup k = none)
  | _, _, .nil => ⟨fun x h => (by cases h), fun _ => rfl⟩
  | _, _, @Rpf.cons _ _ k' x v xs vs r t => by
    obtain ⟨i1, i2⟩ := Rpf.look k t
    simp only [List.lookup_cons]
    cases k == k' with
    | true => exact ⟨fun y h => by cases h; exact ⟨v, rfl, r⟩, fun h => by cases h⟩
    | false => exact ⟨i1, i2⟩
/-- x.f of an instance of the class numbered C -/
def fldV (C : Nat) (f : Str) : U → Option U
  | .obj D fs => if D = C then fs.lookup f else none
  | _ => none
theorem eo_fld {C : Nat} {f : Str} (c : Cls K (CTab.ct C)) (n : NoAttr K (CTab.ct C) f) (h : EvO ta σ B H oa) : EvO (tFld K ta f) σ B H (op1 (fldV C f) oa) := fun z e B1 H1 g Q q => by
  obtain ⟨x, ex, e⟩ := bind_some e
  refine h x ex B1 H1 g _ fun v B2 H2 g2 r => ?_
  cases r with
  | @obj a dx D fs es h1 h2 r =>
    have e2 : (if D = C then fs.lookup f else none) = some z := e
    clear e
    split at e2
    · rename_i hD
      subst hD
      obtain ⟨v, ev, rv⟩ := (r.look f).1 z e2
      exact ⟨a, _, dx, es, v, rfl, g2.bh _ _ h1, c, n, ev, q v B2 H2 g2 rv⟩
    · cases e2
  | _ => cases e
def noneQ {α : Type} : Option α → Bool
  | none => true
  | some _ => false
def methO (C : Nat) (m : Str) (f : List U → Option U) (a : Option U) (ol : Option (List U)) : Option U := a.bind fun x => match x with
  | .obj D fs => if D = C ∧ noneQ (fs.lookup m) = true then ol.bind fun xs => f (.obj D fs :: xs) else none
  | _ => none
theorem eo_meth {C : Nat} {m : Str} {f : List U → Option U} {E : XK} {tl : TA} {ol : Option (List U)} (h : EvO ta σ B H oa) (hl : EvA tl σ B H ol) : EvO (tMeth (CTab.ct C) m (spU f) [] E ta tl) σ B H (methO C m f oa ol) := fun z e B1 H1 g Q q => by
  obtain ⟨x, ex, e⟩ := bind_some e
  refine h x ex B1 H1 g _ fun v B2 H2 g2 r => ?_
  cases r with
  | @obj a dx D fs es h1 h2 r =>
    have e2 : (if D = C ∧ noneQ (fs.lookup m) = true then ol.bind fun xs => f (.obj D fs :: xs) else none) = some z := e
    clear e
    split at e2
    · rename_i hD
      obtain ⟨hD, hm⟩ := hD
      subst hD
      obtain ⟨xs, exs, e⟩ := bind_some e2
      have hm' : fs.lookup m = none := by
        cases q : fs.lookup m with
        | none => rfl
        | some u => rw [q] at hm; cases hm
      refine ⟨a, dx, es, rfl, g2.bh _ _ h1, (r.look m).2 hm', hl xs exs B2 H2 (g.trans g2) _ fun vs B3 H3 g3 r3 => ?_⟩
      show spU f (.ref a :: (vs ++ [])) H3 Q E
      rw [List.append_nil]
      exact ⟨B3, _, z, g3.bh, .cons ((Rp.obj h1 h2 r).up g3) r3, e, fun v B4 H4 g4 r4 => q v B4 H4 ((g2.trans g3).trans g4) r4⟩
    · cases e2
  | _ => cases e
end
end Dn
set_option Elab.async false
set_option linter.all false
set_option maxRecDepth 100000
set_option maxHeartbeats 2000000
namespace Dn
open PySem L2
variable [CTab]
def U.plc : U → Bool
  | .frl xs => U.pls xs
  | .dic kvs => kvs.all fun kv => kv.2.pl
  | .dit kvs => kvs.all fun kv => kv.2.pl
  | .non => true
  | _ => false
section
variable {B B' : Hp} {p : Addr} {od : Obj} {u0 : HO}
theorem Rpk.erase (hp : B p = some (.frz od u0)) (s : ∀ a o, B a = some o → a ≠ p → B' a = some o) : ∀ {u : List (Key × U)} {v : List (Key × V)}, Rpk B u v → (u.all fun kv => kv.2.pl) = true → Rpk B' u v
  | _, _, .nil, _ => .nil
  | _, _, .cons h r, e => by
    rw [List.all_cons, Bool.and_eq_true] at e
    exact .cons (h.erase hp s e.1) (Rpk.erase hp s r e.2)
theorem Rpt.erase (hp : B p = some (.frz od u0)) (s : ∀ a o, B a = some o → a ≠ p → B' a = some o) : ∀ {u : List (List Key × U)} {v : List (List Key × V)}, Rpt B u v → (u.all fun kv => kv.2.pl) = true → Rpt B' u v
  | _, _, .nil, _ => .nil
  | _, _, .cons h r, e => by
    rw [List.all_cons, Bool.and_eq_true] at e
    exact .cons (h.erase hp s e.1) (Rpt.erase hp s r e.2)
theorem OwnAt.erase {H H2 : Hp} {q : Addr} {u : U} (hp : B p = some (.frz od u0)) (s : ∀ a o, B a = some o → a ≠ p → B' a = some o) (o : OwnAt B H q u) (e : H2 q = H q) (h : u.plc = true) : OwnAt B' H2 q u := by
  cases u with
  | frl xs => obtain ⟨vs, h1, r⟩ := o; exact ⟨vs, e.trans h1, r.erase hp s h⟩
  | dic xs => obtain ⟨vs, h1, r⟩ := o; exact ⟨vs, e.trans h1, r.erase hp s h⟩
  | dit xs => obtain ⟨vs, h1, r⟩ := o; exact ⟨vs, e.trans h1, r.erase hp s h⟩
  | obj C xs => cases h
  | _ => exact o.elim
end
def lockS (j : Nat) (F : U → SM U) : SM U := fun us => us[j]?.bind fun u => if u.own = true then (F u (us.set j .non)).bind fun r => if r.1.pl = true ∧ r.2.all U.plc = true then some (r.1, r.2.set j u) else none else none
section
variable {M : Addr → Prop} {ps : List Addr} {σ : St} {B H : Hp} {ta tb tc te : TE} {t : TT} {tl tr : TA} {F G : SM U} {K : PySem.W.Frag} {j : Nat} {p : Addr}
def slS (F : SM U) (L Hh : SM (Option Int)) : SM U := bindS F fun x => bindS L fun lo => bindS Hh fun hi => pureS (sliceV x lo hi)
theorem es_slice {tlo thi : TO} {L Hh : SM (Option Int)} (h : EvS M ps σ B te F) (hl : EvPS M ps σ B tlo L) (hh : EvPS M ps σ B thi Hh) : EvS M ps σ B (tSl (rSlU K) te tlo thi) (slS F L Hh) := fun us z us' e B1 H1 g w Q q => by
  obtain ⟨x, us1, ex, e⟩ := bindS_some e
  obtain ⟨lo, us2, el, e⟩ := bindS_some e
  obtain ⟨hi, us3, eh, e⟩ := bindS_some e
  obtain ⟨ee, rfl⟩ := pureS_some e; clear e; have e := ee; clear ee
  refine h _ _ _ ex B1 H1 g w _ fun v B2 H2 g2 r2 w2 => hl _ _ _ el B2 H2 (g.trs g2) w2 _ fun B3 H3 g3 w3 => hh _ _ _ eh B3 H3 ((g.trs g2).trs g3) w3 _ fun B4 H4 g4 w4 => ?_
  have r4 := (r2.upA g3.at).upA g4.at
  have h0 : EvO (fun _ H Q => Q v H) σ B4 H4 (some x) := fun z ez B3 H3 g3 Q q => by cases ez; exact q v B3 H3 (Go.refl g3.bh) (r4.upA g3)
  have h1 : EvP (fun _ H Q => Q lo H) σ B4 H4 (some lo) := fun z ez B3 H3 g3 Q q => by cases ez; exact q B3 H3 (Go.refl g3.bh)
  have h2 : EvP (fun _ H Q => Q hi H) σ B4 H4 (some hi) := fun z ez B3 H3 g3 Q q => by cases ez; exact q B3 H3 (Go.refl g3.bh)
  exact eo_slice (K := K) h0 h1 h2 z (by simpa using e) B4 H4 (At.refl g4.bh) Q fun v5 B5 H5 g5 r5 => q v5 B5 H5 (((g2.trans g3).trans g4).trans (.of g5)) r5 (w4.go g5)
end
section
variable {vs : List V} {H : Hp} {Q : VK} {E : XK}
theorem sn2 {f : U → U → Option U} (h : spN (a2 f) vs H Q E) : ∃ B x y v w r, vs = [v, w] ∧ Ok B H ∧ Rp B x v ∧ Rp B y w ∧ f x y = some r ∧ ∀ p B2 H2, Go B H B2 H2 → H p = none → B2 p = none → OwnAt B2 H2 p r → Q (.ref p) H2 := by
  obtain ⟨B, xs, r, s, rs, e, k⟩ := h
  match xs, rs, e with
  | [x, y], .cons r1 (.cons r2 .nil), e => exact ⟨B, x, y, _, _, r, rfl, s, r1, r2, e, k⟩
end
section
variable {α : Type} {R : α × List U} {β : Bs} {σ : St} {B H : Hp} {ps : List Addr} {us : List U} {K : PySem.W.Frag} {ta tb : TE} {tz : TS} {D : Ends} {F G : SM U} {i j : Nat}
theorem g_twoS {u : U} {v : V} {B1 H1 : Hp} {σ : St} {Q : St → Hp → Prop} {f : U → U → SM α} (s : Ok B1 H1) (r : Rp B1 u v) (e : unpS u f us = some R) (k : ∀ a b x y, Rp B1 a x → Rp B1 b y → f a b us = some R → Q ((σ.set i (some x)).set j (some y)) H1) :
    gTup K 2 (gCons (gName i) (gCons (gName j) gNil)) v σ H1 Q := by
  obtain ⟨⟨a, b⟩, eu, e⟩ := bind_some e
  exact g_two s r eu fun x y ra rb => k a b x y ra rb e
/-- a, b = two new ones -/
theorem q_parNN {f : SM α} (W : Wh β B H ps us) (ha : EvN β.M ps σ B ta F) (hb : EvN β.M ps σ B tb G) (e : bindS F (fun x => bindS G fun y => addS x (addS y f)) us = some R)
    (k : ∀ p q B1 H1 us1, Wh β B1 H1 (ps ++ [p, q]) us1 → Same B B1 → f us1 = some R → tz D ((σ.set i (some (.ref p))).set j (some (.ref q))) H1) : tSeq (tPar i j (tCons ta (tCons tb tNil))) tz D σ H := by
  obtain ⟨x, us1, ex, e⟩ := bindS_some e
  obtain ⟨y, us2, ey, e⟩ := bindS_some e
  refine ha _ _ _ ex B H W.at W.w _ fun p B2 H2 g2 n2 b2 o2 w2 => hb _ _ _ ey B2 H2 (W.at.trs g2) w2 _ fun q B3 H3 g3 n3 b3 o3 w3 => ⟨_, _, rfl, ?_⟩
  obtain ⟨ob, eb, _⟩ := o2.ex
  have hnp : p ∉ ps := W.w.fresh n2
  have hpq : q ≠ p := fun z => by rw [z, eb] at n3; cases n3
  have o2' : OwnAt B3 H3 p x := o2.up (fun o e n => g3.h p o e hnp n) g3.b
  have W1 := W.new (u := x) (g2.trans g3) w3 n2 (g3.noB b2 eb hnp) o2'
  have hq : q ∉ ps ++ [p] := fun z => by
    rcases List.mem_append.mp z with z | z
    · exact w2.fresh n3 z
    · simp at z; exact hpq z
  have W2 : Wh β B3 H3 ((ps ++ [p]) ++ [q]) ((us2 ++ [x]) ++ [y]) := ⟨W1.g, W1.w.add hq ⟨.inr (W.g.n q (g2.n q n3)), o3.ex, .inr ⟨b3, o3⟩⟩, fun r hr => by
    have := W1.hd r hr
    cases ps with
    | nil => simpa using this
    | cons a t => simpa using this⟩
  rw [List.append_assoc] at W2
  exact k p q B3 H3 _ W2 (g2.b.trans g3.b) e
end
end Dn
set_option Elab.async false
set_option linter.all false
set_option maxRecDepth 100000
set_option maxHeartbeats 2000000
namespace Dn
open PySem L2
end Dn
set_option Elab.async false
set_option linter.all false
set_option maxRecDepth 100000
set_option maxHeartbeats 2000000
namespace Dn
open PySem PySem.Spec PyProof.Rows L2
variable [CTab]
theorem Vals.reverse : ∀ {vs : List V} {us : List Value}, Vals vs us → Vals vs.reverse us.reverse
  | _, _, .nil => .nil
  | _, _, .cons h t => by
    rw [List.reverse_cons, List.reverse_cons]
    exact (Vals.reverse t).append (.cons h .nil)
theorem Rps.reverse {B : Hp} : ∀ {xs : List U} {vs : List V}, Rps B xs vs → Rps B xs.reverse vs.reverse
  | _, _, .nil => .nil
  | _, _, .cons h t => by
    rw [List.reverse_cons, List.reverse_cons]
    exact (Rps.reverse t).append (.cons h .nil)
def tLockT (t : TT) : TT := fun σ H Q => ∃ d u, H d = some u ∧ Mut (some u) ∧ ∀ od, t σ (upd H d (.frz od u)) fun b H' => H' d = some (.frz od u) ∧ Q b (upd H' d u)
theorem pt_lock {X : Cx} {e : Expr} {t : TT} (h : PT X e t) : PT X e (tLockT t) := by
  refine ⟨fun pins s σ H Q I hw => ?_⟩
  obtain ⟨d, u, hd, mu, hw⟩ := hw
  obtain ⟨od, I1⟩ := I.lock hd mu
  refine thn (h.run pins s σ _ _ I1 (hw od)) fun b s1 ⟨H1, I2, e2, q⟩ => ?_
  exact ⟨_, I2.unlock e2 (I.nofrz hd mu), q⟩
section
variable {M : Addr → Prop} {ps : List Addr} {σ : L2.St} {B H : Hp} {t : TT} {j : Nat} {p : Addr}
theorem ets_lockT {o : U → Option Bool} (hp : ps[j]? = some p) (h : ∀ u B' H', Same B B' → Rp B' u (.ref p) → EvT t σ B' H' (o u)) : EvTS M ps σ B (tLockT t) (lockT j o) := fun us z us' e B1 H1 g w Q q => by
  obtain ⟨u, eu, e⟩ := bind_some e
  split at e
  · rename_i ho
    obtain ⟨z1, ez, e⟩ := map_some e
    cases e
    obtain ⟨hb, ow⟩ := (w.at_ j p u hp eu).own ho
    obtain ⟨o1, e1, ⟨mu, pl1⟩, hl⟩ := ow.lock ho
    refine ⟨p, o1, e1, mu, fun od => ?_⟩
    have r1 : Rp (upd B1 p (.frz od o1)) u (.ref p) := (hl od).resolve_right (fun z => z hb)
    have s1 : Ok (upd B1 p (.frz od o1)) (upd H1 p (.frz od o1)) := g.bh.lock hb e1 pl1
    refine h u _ (upd H1 p (.frz od o1)) (g.b.trans (same_lock hb)) r1 z ez _ _ (At.refl s1) _ fun B2 H2 g2 => ?_
    have eB : B2 p = some (.frz od o1) := g2.b _ _ upd_same
    have eH : H2 p = some (.frz od o1) := g2.bh _ _ eB
    have gg : Go B1 H1 (eraseB B2 p) (upd H2 p o1) := g2.unlock g.bh hb e1 pl1
    exact ⟨eH, q _ _ (.of gg) (w.go gg)⟩
  · cases e
end
end Dn
set_option Elab.async false
set_option linter.all false
set_option maxRecDepth 100000
set_option maxHeartbeats 2000000
namespace Dn
open PySem PySem.Spec PyProof.Rows L2
variable [CTab]
section
variable {X : Cx} {K : PySem.W.Frag} {a b e o : Expr} {ta tb te to : TE} {pos : Pos}
theorem ix_anyK (hK : X.K = K) (hu : X.A.units + 64 < cLine) : IxR X (rIxA K) := hK ▸ ix_any hu
theorem call_lenK (hK : X.K = K) : CallR X (.builtin "len") (rLenA K) := hK ▸ call_lenA
theorem cr_allK (hK : X.K = K) (hc : X.calm = true) : CallR X (.builtin "all") (rAll K) := hK ▸ cr_all hc
theorem cr_anyK (hK : X.K = K) (hc : X.calm = true) : CallR X (.builtin "any") (rAny K) := hK ▸ cr_any hc
theorem call_tupleK (hK : X.K = K) : CallR X (.type "tuple") (rTupleA K) := hK ▸ call_tuple_of
theorem op_addK (hK : X.K = K) : OpR X (binaryOp .Add) (rAddU K) := hK ▸ op_addU
theorem sl_anyK (hK : X.K = K) : SlR X (rSlU K) := hK ▸ sl_any
theorem call_isiKK (hK : X.K = K) : CallR X (.builtin "isinstance") (rIsi K) := hK ▸ call_isi
theorem pi_anyK {tg : Expr} (hK : X.K = K) (h : PE X e te) : PI X tg e (iAny K te) := hK ▸ pi_any h
theorem pe_fldK {f : Str} (hK : X.K = K) (he : PE X e te) (hb : attributeBase e f X.env (eval e X.env) = eval e X.env := by rfl) : PE X (.Attribute e f pos) (tFld K te f) := hK ▸ pe_fld he hb
theorem pe_joinK {apos pos : Pos} (hK : X.K = K) (ho : PE X o to) (he : PE X e te) (hs : starEach [e] X.env = [(false, eval e X.env)] := by rfl) (hbase : attributeBase o "join" X.env (eval o X.env) = eval o X.env := by rfl) (hline : (apos.endLine == pos.line) = true := by rfl) :
    PE X (.Call (.Attribute o "join" apos) [e] [] pos) (tM1 (fun x xs H Q => ∃ a p, ∃ ys : List Str, x = .str a ∧ xs = [.ref p] ∧ (SqL K H p (ys.map V.str) ∨ SqT K H p (ys.map V.str)) ∧
      (ys.map (·.length)).sum + ys.length * a.length ≤ 16777216 ∧ Q (.str (Txt.join a ys)) H) to te) := hK ▸ pe_join ho he hs hbase hline
section
variable {es : List Expr} {t : TA} {apos cpos : Pos}
theorem pe_appK (hK : X.K = K) (ho : PE X o to) (ha : PA X (e :: es) t) (hbase : attributeBase o "append" X.env (eval o X.env) = eval o X.env := by rfl)
    (hfew : ((backTo cpos (starEach (e :: es) X.env)).all (fun x => !x.1) && (backToKw cpos (keywordEach [] X.env)).all (fun x => x.1.isSome)
      && decide ((e :: es).length + ([] : List Keyword).length + (if ([] : List Keyword).isEmpty then 0 else 1) < 30)) = true := by rfl)
    (hline : (apos.endLine == cpos.line) = true := by rfl) (hs : starEach (e :: es) X.env = (false, eval e X.env) :: starEach es X.env := by rfl) (hplain : (backTo cpos (starEach es X.env)).any (·.1) = false := by rfl) :
    PE X (.Call (.Attribute o "append" apos) (e :: es) [] cpos) (tBM K "list" rAppend to t) := hK ▸ pe_bm PySem.F.plainAttrs_list PySem.F.slot_list_append PySem.F.type_list_append mt_append ho ha hbase hfew hline hs hplain
end
theorem pg_tupK {es : List Expr} {k : Nat} {t : TGs} {n : Nat} (hK : X.K = K) (hc : X.calm = true) (h : PGs X es t)
    (hn : (assignEach es X.env).length = n := by rfl) (hst : (assignEach es X.env).findIdx? (·.1) = none := by rfl) : PG X (.Tuple es k pos) (gTup K n t) := hK ▸ pg_tup hc h hn hst
end
end Dn
set_option Elab.async false
set_option linter.all false
set_option maxRecDepth 100000
set_option maxHeartbeats 2000000
namespace Dn
open PySem L2
variable [CTab]
/-- while: R by what is left of the turns -/
theorem q_whileS {α : Type} {RR : α × List U} {β : Bs} {c : TT} {tu tz : TS} {D : Ends} {σ : L2.St} {H : Hp} {n : Nat} (R : Nat → L2.St → Hp → Prop) (h0 : R n σ H)
    (hs : ∀ m σ' H', R m σ' H' → ∃ k B ps us, ∃ (cF : SM Bool) (m1 m2 : SM α), m = k + 1 ∧ Wh β B H' ps us ∧ EvTS β.M ps σ' B c cF ∧ ifS cF m1 m2 us = some RR ∧
      (∀ B1 H1 us1, Wh β B1 H1 ps us1 → Same B B1 → m1 us1 = some RR → tu { D with nx := R k, ct := R k, bk := tz D } σ' H1) ∧ (∀ B1 H1 us1, Wh β B1 H1 ps us1 → Same B B1 → m2 us1 = some RR → tz D σ' H1)) : tSeq (tWhile c tu) tz D σ H := by
  refine ⟨R, ⟨n, h0⟩, fun m σ' H' r => ?_⟩
  obtain ⟨k, B, ps, us, cF, m1, m2, rfl, W, ht, e, h1, h2⟩ := hs m σ' H' r
  obtain ⟨b, us1, eb, e⟩ := bindS_some e
  refine ht _ _ _ eb B H' W.at W.w _ fun B2 H2 g2 w2 => ?_
  cases b with
  | true => exact ⟨R k, fun σ2 H3 r2 => ⟨k, Nat.lt_succ_self k, r2⟩, h1 B2 H2 us1 (W.step g2 w2) g2.b e⟩
  | false => exact h2 B2 H2 us1 (W.step g2 w2) g2.b e
end Dn
set_option Elab.async false
set_option linter.all false
set_option maxRecDepth 100000
set_option maxHeartbeats 2000000
namespace Dn
open PySem L2 PyProof.Rows HT
section
variable {prog : Program} {w : World} {A : Around} {E : Value → Shared → Prop} {s : Shared}
theorem places_back (n : Nat) : Builtin.Slice.slicePlaces ((n : Int) - 1) (-1) (-1) = n := by
  unfold Builtin.Slice.slicePlaces
  rw [if_neg (by decide)]
  by_cases h : n = 0
  · subst h; rfl
  · rw [if_pos (by omega)]
    have e : (((n : Int) - 1 - -1 - 1) / (- -1)) = (n : Int) - 1 := by
      rw [show (- -1 : Int) = 1 by decide, Int.ediv_one]; omega
    rw [e]; omega
theorem applied_back {sl : Addr} {vl vu vs : Value} {n : Nat} {Q : Int × Int × Nat → Shared → Prop} (hs : s.heap.IsSliceOf sl vl vu vs) (pl : IsPart vl none) (pu : IsPart vu none) (ps : IsPart vs (some (-1)))
    (h : Q ((n : Int) - 1, -1, n) s) : wpAny (model prog w) A (Builtin.Slice.sliceApplied (.ref sl) (pure (n : Int))) Q E s := by
  obtain ⟨os, g1, _, g2⟩ := id hs
  unfold Builtin.Slice.sliceApplied Builtin.Slice.sliceFields
  refine wpAny_bind (wpAny_bind (wpAny_field g1 g2 (x := vl) rfl (wpAny_bind (wpAny_field g1 g2 (x := vu) rfl (wpAny_bind (wpAny_field g1 g2 (x := vs) rfl (wpAny_pure ?_)))))))
  refine wpAny_bind (slicePart_ ps ?_)
  show wpAny _ _ (if ((-1 : Int) == 0) = true then _ else _) _ _ s
  rw [if_neg (by decide)]
  refine wpAny_bind (slicePart_ pl (wpAny_bind (slicePart_ pu (wpAny_bind (wpAny_pure ?_)))))
  show wpAny _ _ (pure ((n : Int) - 1, (-1 : Int), Builtin.Slice.slicePlaces ((n : Int) - 1) (-1) (-1))) _ _ s
  rw [places_back]
  exact wpAny_pure h
theorem fm_congr {α β : Type} {f g : α → Option β} : ∀ {l : List α}, (∀ x ∈ l, f x = g x) → l.filterMap f = l.filterMap g
  | [], _ => rfl
  | x :: l, h => by
    rw [List.filterMap_cons, List.filterMap_cons, h x (List.mem_cons_self ..), fm_congr fun y hy => h y (List.mem_cons_of_mem _ hy)]
theorem pick_back (xs : List Value) : ((List.range xs.length).filterMap fun (k : Nat) => xs.toArray[(((xs.length : Nat) : Int) - 1 + (k : Int) * -1).toNat]?) = xs.reverse := by
  have key : ∀ k ∈ List.range xs.length, xs.toArray[(((xs.length : Nat) : Int) - 1 + (k : Int) * -1).toNat]? = xs.reverse[k]? := fun k hk => by
    have hk := List.mem_range.mp hk
    have e : (((xs.length : Nat) : Int) - 1 + (k : Int) * -1).toNat = xs.length - 1 - k := by omega
    rw [e, List.getElem?_toArray, List.getElem?_reverse hk]
  rw [fm_congr key]
  have key2 : ∀ ys : List Value, (List.range ys.length).filterMap (fun k => ys[k]?) = ys := fun ys => by
    induction ys with
    | nil => rfl
    | cons y ys ih =>
      rw [List.length_cons, List.range_succ_eq_map, List.filterMap_cons]
      simp only [List.getElem?_cons_zero, List.filterMap_map, Function.comp_def, List.getElem?_cons_succ]
      rw [ih]
  have := key2 xs.reverse
  rwa [List.length_reverse] at this
theorem item_tuple_back {t sl : Addr} {items : List Value} {vl vu vs : Value} {Q : Value → Shared → Prop} (ht : IsTup s.heap t items.toArray) (hs : s.heap.IsSliceOf sl vl vu vs) (pl : IsPart vl none) (pu : IsPart vu none) (ps : IsPart vs (some (-1)))
    (h : Q (.ref s.heap.objs.size) { s with heap := s.heap.push { cls := .type "tuple", data := .seq items.reverse.toArray } }) (hz : items.length ≤ sizeLine) : wpAny (model prog w) A (getItem (.ref t) (.ref sl)) Q E s := by
  obtain ⟨os, g1, g2, g3⟩ := id hs
  have ts : s.TypeIs (.ref sl) "slice" := ⟨os, g1, g2⟩
  have okz : sizeOk (.seq items.reverse.toArray) := by
    show items.reverse.toArray.size ≤ sizeLine
    rw [List.size_toArray, List.length_reverse]; exact hz
  unfold getItem
  try with_reducible refine wpAny_holding ?_
  first | refine wpAny_bind (wpAny_pure ?_) | skip
  refine wpAny_bind (wpAny_sequenceKey ht.typeIs (by decide) ?_)
  refine wpAny_bind (wpAny_callSpecial?_slot (name := Str.ofString "__getitem__") ht.typeIs PyProof.Rows.slot_tuple_getitem (wpAny_call_entry PyProof.Rows.slot_tuple_getitem ht.typeIs entry_tuple_getitem ?_ (args_tuple_getitem _ _)))
  show wpAny _ _ (Builtin.Tuple.tupleItemsOf (.ref t) >>= _) _ _ s
  refine wpAny_bind (tupleItemsOf_ ht (wpAny_bind (wpAny_typeOf ts ?_)))
  rw [if_pos (by decide)]
  refine wpAny_bind (applied_back hs pl pu ps ?_)
  have no : ¬ ((((items.toArray.size : Nat) : Int) - 1 == 0 && (-1 : Int) == 1 && items.toArray.size == items.toArray.size) = true) := by
    intro z
    rw [Bool.and_eq_true, Bool.and_eq_true] at z
    exact absurd z.1.2 (by decide)
  show wpAny _ _ (if (((items.toArray.size : Nat) : Int) - 1 == 0 && (-1 : Int) == 1 && items.toArray.size == items.toArray.size) = true then _ else _) _ _ s
  rw [if_neg no]
  have e : ((List.range items.toArray.size).filterMap fun (k : Nat) => items.toArray[(((items.toArray.size : Nat) : Int) - 1 + (k : Int) * -1).toNat]?).toArray = items.reverse.toArray := by
    rw [List.size_toArray, pick_back]
  rw [e]
  first
    | exact wpAny_bind (m := Builtin.Tuple.tupleExact _) (wpAny_newObj_type (wpAny_pure ⟨_, rfl, wpAny_pure h⟩) okz)
    | exact wpAny_bind (m := Builtin.Tuple.tupleExact _) (wpAny_newObj_type (wpAny_bind (wpAny_pure (wpAny_pure ⟨_, rfl, wpAny_pure h⟩))) okz)
    | exact wpAny_bind (wpAny_bind (m := Builtin.Tuple.tupleExact _) (wpAny_newObj_type (wpAny_pure (wpAny_pure ⟨_, rfl, wpAny_pure h⟩)) okz))
    | exact wpAny_bind (wpAny_bind (m := Builtin.Tuple.tupleExact _) (wpAny_newObj_type (wpAny_pure ⟨_, rfl, wpAny_pure h⟩) okz))
end
theorem pick_one (its : List Value) : slicePick its.toArray none none (some 1) = its.toArray := by
  have e : slicePick its.toArray none none (some 1) = slicePick its.toArray none none none := rfl
  rw [e, slicePick_cut]
  simp [HT.sIx]
def rStep (K : PySem.W.Frag) : V → Int → Hp → VK → Prop := fun x c H Q => ∃ a xs, x = .ref a ∧ ((c = 1 ∧ SqL K H a xs ∧ ∀ p, H p = none → Q (.ref p) (upd H p (.lst xs))) ∨ (c = -1 ∧ SqL K H a xs ∧ ∀ p, H p = none → Q (.ref p) (upd H p (.lst xs.reverse))) ∨
  (c = -1 ∧ SqT K H a xs ∧ ∀ p, H p = none → Q (.ref p) (upd H p (.tup xs.reverse))))
def tStep (K : PySem.W.Frag) (te ts : TE) : TE := fun σ H Q => te σ H fun x H1 => tPart ts σ H1 fun o H2 => ∃ c, o = some c ∧ rStep K x c H2 Q
section
variable {X : Cx}
theorem pe_step {e st : Expr} {te ts : TE} {p3 pos : Pos} (he : PE X e te) (hst : PE X st ts) : PE X (.Subscript e (.Slice none none (some st) p3) pos) (tStep X.K te ts) := by
  refine ⟨fun pins s σ H Q I h => ?_⟩
  refine Subscript_ (thn (he.run pins s σ H _ I h) fun v s1 ⟨x, H1, I1, r1, q1⟩ => ?_)
  refine wpAny_Slice (thn (po_none.run pins s1 σ H1 (fun o H2 => o = none ∧ H2 = H1) I1 ⟨rfl, rfl⟩) fun vl s2 ⟨l, H2, I2, pl, el, e2⟩ => ?_)
  subst el e2
  refine thn (po_none.run pins s2 σ H2 (fun o H3 => o = none ∧ H3 = H2) I2 ⟨rfl, rfl⟩) fun vu s3 ⟨u, H3, I3, pu, eu, e3⟩ => ?_
  subst eu e3
  refine thn ((po_some hst).run pins s3 σ H3 (fun o H4 => ∃ c, o = some c ∧ rStep X.K x c H4 Q) I3 q1) fun vs s4 ⟨o, H4, I4, ps, c, eo, a, xs, ex, q⟩ => ?_
  subst eo ex
  cases r1
  have I5 : Inv X pins σ H4 { s4 with heap := s4.heap.push { cls := .type "slice", data := .fields #[vl, vu, vs] } } := I4.kept (t' := s4.toks) fun b ob q => Heap.get?_push_of_some _ q
  show wpAny (model X.prog X.w) X.A (subscriptTail e (.Slice none none (some st) p3) (.ref a) (.ref s4.heap.objs.size)) (EP X pins σ Q) X.xe { s4 with heap := s4.heap.push { cls := .type "slice", data := .fields #[vl, vu, vs] } }
  rcases q with ⟨rfl, hx, q⟩ | ⟨rfl, hx, q⟩ | ⟨rfl, hx, q⟩
  · obtain ⟨its, r, ht, hz⟩ := I5.list hx
    have hlen := r.length
    refine tail_any (ops := [.ref a, .ref s4.heap.objs.size]) ht.isList.typeIs (PySem.slot_list_getitem.lookup) ?_ (by with_unfolding_all rfl)
    refine wpAny_getItem_list_slice ht.isList (Heap.IsSliceOf.new _ vl vu vs) pl pu ps (by decide) ?_ (by rw [List.size_toArray]; omega)
    rw [pick_one]
    refine ⟨.ref _, _, I5.laid (t' := s4.toks) (o := .lst xs) (fun b ob q => Heap.get?_push_of_some _ q) (Nat.le_refl _) ?_, rfl, q _ (I5.hok.fresh (Nat.le_refl _))⟩
    exact ⟨hz, _, 0, r, Heap.get?_push_size _ rfl⟩
  · obtain ⟨its, r, ht, hz⟩ := I5.list hx
    have hlen := r.length
    refine tail_any (ops := [.ref a, .ref s4.heap.objs.size]) ht.isList.typeIs (PySem.slot_list_getitem.lookup) ?_ (by with_unfolding_all rfl)
    refine wpAny_getItem_list_slice ht.isList (Heap.IsSliceOf.new _ vl vu vs) pl pu ps (by decide) ?_ (by rw [List.size_toArray]; omega)
    rw [PySem.W.krv_pick]
    refine ⟨.ref _, _, I5.laid (t' := s4.toks) (o := .lst xs.reverse) (fun b ob q => Heap.get?_push_of_some _ q) (Nat.le_refl _) ?_, rfl, q _ (I5.hok.fresh (Nat.le_refl _))⟩
    exact ⟨by rw [List.length_reverse]; exact hz, _, 0, r.reverse, Heap.get?_push_size _ rfl⟩
  · obtain ⟨its, r, ht, hz⟩ := I5.tuple hx
    have hlen := r.length
    refine tail_any (ops := [.ref a, .ref s4.heap.objs.size]) ht.typeIs (PyProof.Rows.slot_tuple_getitem.lookup) ?_ (by with_unfolding_all rfl)
    refine item_tuple_back ht (Heap.IsSliceOf.new _ vl vu vs) pl pu ps ?_ (by omega)
    refine ⟨.ref _, _, I5.laid (t' := s4.toks) (o := .tup xs.reverse) (fun b ob q => Heap.get?_push_of_some _ q) (Nat.le_refl _) ?_, rfl, q _ (I5.hok.fresh (Nat.le_refl _))⟩
    exact ⟨by rw [List.length_reverse]; exact hz, _, r.reverse, IsTup.new _ _⟩
theorem pe_stepK {K : PySem.W.Frag} {e st : Expr} {te ts : TE} {p3 pos : Pos} (hK : X.K = K) (he : PE X e te) (hst : PE X st ts) : PE X (.Subscript e (.Slice none none (some st) p3) pos) (tStep K te ts) := hK ▸ pe_step he hst
end
variable [CTab]
def stepV : U → U → Option U
  | .lst xs, .int c => if c = 1 then some (.lst xs) else if c = -1 then some (.lst xs.reverse) else none
  | .frl xs, .int c => if c = 1 then some (.lst xs) else if c = -1 then some (.lst xs.reverse) else none
  | .tup xs, .int c => if c = -1 then some (.tup xs.reverse) else none
  | _, _ => none
theorem Rps.rev {B : Hp} : ∀ {xs : List U} {vs : List V}, Rps B xs vs → Rps B xs.reverse vs.reverse
  | _, _, .nil => .nil
  | _, _, .cons h t => by
    rw [List.reverse_cons, List.reverse_cons]
    exact (Rps.rev t).append (.one h)
theorem rp_step {K : PySem.W.Frag} {B H : Hp} {x z : U} {v : V} {c : Int} {Q : VK} (e : stepV x (.int c) = some z) (s : Ok B H) (r : Rp B x v) (q : ∀ v2 B2 H2, Go B H B2 H2 → Rp B2 z v2 → Q v2 H2) : rStep K v c H Q := by
  cases r with
  | @lst a xs vs h r =>
    have e : (if c = 1 then some (U.lst xs) else if c = -1 then some (.lst xs.reverse) else none) = some z := e
    refine ⟨a, vs, rfl, ?_⟩
    split at e
    · rename_i hc
      cases e
      exact .inl ⟨hc, SqL.of (s _ _ h), fun p hp => q _ _ _ (Go.new s hp) (.lst upd_same (r.new s hp))⟩
    · split at e
      · rename_i hc
        cases e
        exact .inr (.inl ⟨hc, SqL.of (s _ _ h), fun p hp => q _ _ _ (Go.new s hp) (.lst upd_same (r.rev.new s hp))⟩)
      · cases e
  | @frl a xs vs o h r =>
    have e : (if c = 1 then some (U.lst xs) else if c = -1 then some (.lst xs.reverse) else none) = some z := e
    refine ⟨a, vs, rfl, ?_⟩
    split at e
    · rename_i hc
      cases e
      exact .inl ⟨hc, .inl (.inr ⟨o, s _ _ h⟩), fun p hp => q _ _ _ (Go.new s hp) (.lst upd_same (r.new s hp))⟩
    · split at e
      · rename_i hc
        cases e
        exact .inr (.inl ⟨hc, .inl (.inr ⟨o, s _ _ h⟩), fun p hp => q _ _ _ (Go.new s hp) (.lst upd_same (r.rev.new s hp))⟩)
      · cases e
  | @tup a xs vs h r =>
    have e : (if c = -1 then some (U.tup xs.reverse) else none) = some z := e
    refine ⟨a, vs, rfl, ?_⟩
    split at e
    · rename_i hc
      cases e
      exact .inr (.inr ⟨hc, SqT.of (s _ _ h), fun p hp => q _ _ _ (Go.new s hp) (.tup upd_same (r.rev.new s hp))⟩)
    · cases e
  | _ => cases e
section
variable {σ : L2.St} {B H : Hp} {te ts : TE} {oa ob : Option U} {K : PySem.W.Frag} {M : Addr → Prop} {ps : List Addr} {F G : SM U}
theorem step_int {x y z : U} (e : stepV x y = some z) : ∃ c, y = .int c := by
  cases x <;> cases y <;> first | exact ⟨_, rfl⟩ | cases e
theorem eo_step (ha : EvO te σ B H oa) (hb : EvO ts σ B H ob) : EvO (tStep K te ts) σ B H (op2 stepV oa ob) := fun z e B1 H1 g Q q => by
  obtain ⟨x, ex, e⟩ := bind_some e
  obtain ⟨y, ey, e⟩ := bind_some e
  obtain ⟨c, rfl⟩ := step_int e
  refine ha x ex B1 H1 g _ fun v B2 H2 g2 r2 => hb _ ey B2 H2 (g.trans g2) _ fun w B3 H3 g3 r3 => ?_
  cases r3
  exact ⟨c, rfl, c, rfl, rp_step e g3.bh (r2.up g3) fun v2 B4 H4 g4 r4 => q v2 B4 H4 ((g2.trans g3).trans g4) r4⟩
end
def LkA {α : Type} (j : Nat) (F : SM α) : Prop := ∀ us y us', F us = some (y, us') → ∀ xs, us'[j]? = some (.frl xs) → ∃ ys, us[j]? = some (.frl ys)
section
variable {j k : Nat}
theorem lk_bind {α β : Type} {F : SM α} {G : α → SM β} (h : LkA j F) (h2 : ∀ x, LkA j (G x)) : LkA j (bindS F G) := fun us y us' e xs ex => by
  obtain ⟨x, us1, e1, e2⟩ := bindS_some e
  obtain ⟨ys, ey⟩ := h2 x _ _ _ e2 xs ex
  exact h _ _ _ e1 ys ey
theorem lk_pure {α : Type} {o : Option α} : LkA j (pureS o) := fun us y us' e xs ex => by
  obtain ⟨_, rfl⟩ := pureS_some e
  exact ⟨xs, ex⟩
theorem lk_lockO {o : U → Option U} : LkA j (lockO k o) := fun us y us' e xs ex => by
  obtain ⟨u, _, e⟩ := bind_some e
  split at e
  · obtain ⟨z, _, e⟩ := bind_some e
    split at e
    · cases e; exact ⟨xs, ex⟩
    · cases e
  · cases e
theorem lk_lockT {o : U → Option Bool} : LkA j (lockT k o) := fun us y us' e xs ex => by
  obtain ⟨u, _, e⟩ := bind_some e
  split at e
  · obtain ⟨z, _, e⟩ := map_some e
    cases e; exact ⟨xs, ex⟩
  · cases e
theorem lk_set {us : List U} {u : U} {xs : List U} (h : k ≠ j) (ex : (us.set k u)[j]? = some (.frl xs)) : ∃ ys, us[j]? = some (.frl ys) := by
  rw [List.getElem?_set_ne h] at ex; exact ⟨xs, ex⟩
theorem lk_callM {m : U → List U → Option (U × U)} {xs : List U} (h : k ≠ j) : LkA j (callM k m xs) := fun us y us' e xs ex => by
  obtain ⟨u, _, e⟩ := bind_some e
  split at e
  · obtain ⟨z, _, e⟩ := map_some e
    cases e; exact lk_set h ex
  · cases e
theorem lk_pop {y : U} : LkA j (popS k y) := fun us z us' e xs ex => by
  unfold popS at e
  split at e
  · rename_i ys i eu
    split at e
    · obtain ⟨n, _, e⟩ := bind_some e
      obtain ⟨q, _, e⟩ := map_some e
      cases e
      by_cases h : k = j
      · subst h; exact ⟨_, eu⟩
      · exact lk_set h ex
    · cases e
  · cases e
theorem lk_app {y : U} : LkA j (appS k y) := fun us z us' e xs ex => by
  unfold appS at e
  split at e
  · rename_i ys eu
    split at e
    · cases e
      by_cases h : k = j
      · subst h; exact ⟨_, eu⟩
      · exact lk_set h ex
    · cases e
  · cases e
theorem lk_lockS {F : U → SM U} (h : ∀ u, LkA j (F u)) : LkA j (lockS k F) := fun us z us' e xs ex => by
  obtain ⟨u, eu, e⟩ := bind_some e
  split at e
  · obtain ⟨⟨r1, r2⟩, er, e⟩ := bind_some e
    split at e
    · cases e
      by_cases hk : k = j
      · subst hk
        have hl : k < r2.length := by
          rcases Nat.lt_or_ge k r2.length with q | q
          · exact q
          · rw [List.getElem?_eq_none (by simpa using q)] at ex; cases ex
        rw [List.getElem?_set_self hl] at ex
        cases ex
        exact ⟨_, eu⟩
      · rw [List.getElem?_set_ne hk] at ex
        obtain ⟨ys, ey⟩ := h u _ _ _ er xs ex
        rw [List.getElem?_set_ne hk] at ey
        exact ⟨ys, ey⟩
    · cases e
  · cases e
theorem lk_take : LkA j (takeS k) := fun us z us' e xs ex => by
  unfold takeS at e
  split at e
  · rename_i ys eu
    cases e
    by_cases h : k = j
    · subst h; exact ⟨_, eu⟩
    · exact lk_set h ex
  · cases e
end
end Dn
set_option Elab.async false
set_option linter.all false
set_option maxRecDepth 100000
set_option maxHeartbeats 2000000
namespace Dn
open PySem L2
variable [CTab]
section
variable {α : Type} {R : α × List U} {β : Bs} {σ : L2.St} {B H : Hp} {ps : List Addr} {us : List U} {K : PySem.W.Frag} {ta tb : TE} {tz : TS} {D : Ends} {F G : SM U} {i j : Nat}
/-- a, b = .. by a tuple that nobody keeps -/
theorem two_cells {v w : V} {ps2 : List Addr} {us1 : List U} {Q : L2.St → Hp → Prop} (W : Wh β B H ps2 us1) (k : ∀ H1, Wh β B H1 ps2 us1 → Q ((σ.set i (some v)).set j (some w)) H1) :
    [v, w].length ≤ sizeLine ∧ ∀ p, H p = none → gTup K 2 (gCons (gName i) (gCons (gName j) gNil)) (.ref p) σ (upd H p (.tup [v, w])) Q :=
  ⟨by show 2 ≤ sizeLine; decide, fun p hp => ⟨p, _, rfl, SqT.of upd_same, rfl, _, _, rfl, _, _, rfl, rfl, k _ (W.go (Go.own W.s hp))⟩⟩
theorem q_tupNN {f : SM α} (W : Wh β B H ps us) (ha : EvN β.M ps σ B ta F) (hb : EvN β.M ps σ B tb G) (e : bindS F (fun x => bindS G fun y => addS x (addS y f)) us = some R)
    (k : ∀ p q B1 H1 us1, Wh β B1 H1 (ps ++ [p, q]) us1 → Same B B1 → f us1 = some R → tz D ((σ.set i (some (.ref p))).set j (some (.ref q))) H1) : tSeq (tAsg (tTup (tCons ta (tCons tb tNil))) (gTup K 2 (gCons (gName i) (gCons (gName j) gNil)))) tz D σ H := by
  obtain ⟨x, us1, ex, e⟩ := bindS_some e
  obtain ⟨y, us2, ey, e⟩ := bindS_some e
  refine ha _ _ _ ex B H W.at W.w _ fun p B2 H2 g2 n2 b2 o2 w2 => hb _ _ _ ey B2 H2 (W.at.trs g2) w2 _ fun q B3 H3 g3 n3 b3 o3 w3 => ?_
  obtain ⟨ob, eb, _⟩ := o2.ex
  have hnp : p ∉ ps := W.w.fresh n2
  have hpq : q ≠ p := fun z => by rw [z, eb] at n3; cases n3
  have o2' : OwnAt B3 H3 p x := o2.up (fun o e n => g3.h p o e hnp n) g3.b
  have W1 := W.new (u := x) (g2.trans g3) w3 n2 (g3.noB b2 eb hnp) o2'
  have hq : q ∉ ps ++ [p] := fun z => by
    rcases List.mem_append.mp z with z | z
    · exact w2.fresh n3 z
    · simp at z; exact hpq z
  have W2 : Wh β B3 H3 ((ps ++ [p]) ++ [q]) ((us2 ++ [x]) ++ [y]) := ⟨W1.g, W1.w.add hq ⟨.inr (W.g.n q (g2.n q n3)), o3.ex, .inr ⟨b3, o3⟩⟩, fun r hr => by
    have := W1.hd r hr
    cases ps with
    | nil => simpa using this
    | cons a t => simpa using this⟩
  rw [List.append_assoc] at W2
  exact two_cells W2 fun H4 W4 => k p q B3 H4 _ W4 (g2.b.trans g3.b) e
theorem q_tupNV {f : U → SM α} (W : Wh β B H ps us) (ha : EvN β.M ps σ B ta F) (hb : EvS β.M ps σ B tb G) (e : bindS F (fun x => bindS G fun y => addS x (f y)) us = some R)
    (k : ∀ p y w B1 H1 us1, Rp B1 y w → Wh β B1 H1 (ps ++ [p]) us1 → Same B B1 → f y us1 = some R → tz D ((σ.set i (some (.ref p))).set j (some w)) H1) : tSeq (tAsg (tTup (tCons ta (tCons tb tNil))) (gTup K 2 (gCons (gName i) (gCons (gName j) gNil)))) tz D σ H := by
  obtain ⟨x, us1, ex, e⟩ := bindS_some e
  obtain ⟨y, us2, ey, e⟩ := bindS_some e
  refine ha _ _ _ ex B H W.at W.w _ fun p B2 H2 g2 n2 b2 o2 w2 => hb _ _ _ ey B2 H2 (W.at.trs g2) w2 _ fun v B3 H3 g3 r3 w3 => ?_
  obtain ⟨ob, eb, _⟩ := o2.ex
  have hnp : p ∉ ps := W.w.fresh n2
  have o2' : OwnAt B3 H3 p x := o2.up (fun o e n => g3.h p o e hnp n) g3.b
  exact two_cells (W.new (u := x) (g2.trans g3) w3 n2 (g3.noB b2 eb hnp) o2') fun H4 W4 => k p y v B3 H4 _ r3 W4 (g2.b.trans g3.b) e
end
theorem ps_lockA {X : Cx} {st : Stmt} {te : TE} {i : Nat} (h : PS X st (tAsg te (gName i))) : PS X st (tAsg (tLockE te) (gName i)) := ps_lock h
end Dn
set_option Elab.async false
set_option linter.all false
set_option maxRecDepth 100000
set_option maxHeartbeats 2000000
namespace Dn
open PySem L2 PySem.Spec PyProof.Rows
end Dn
set_option Elab.async false
set_option linter.all false
set_option maxRecDepth 100000
set_option maxHeartbeats 2000000
namespace Dn
/-- the table of modules stands in the base -/
def SmB (b : PySem.Heap) : Prop := ∃ o, b.get? PySem.sysModules = some o
open PySem L2 PySem.Spec PyProof.Rows
section
variable [CTab]
def rMaxA (K : PySem.W.Frag) : List V → Hp → VK → Prop := fun xs H Q => rMax K xs H Q ∨ ∃ i j, xs = [V.int i, .int j] ∧ Q (.int (if j > i then j else i)) H
theorem call_maxK {X : Cx} {K : PySem.W.Frag} (hK : X.K = K) (hc : X.calm = true) : CallR X (.builtin "max") (rMaxA K) := hK ▸ CallR.or (cr_max hc) (call_max2 hc)
def maxL : List Int → Option Int
  | [] => none
  | n :: r => some (r.foldl max n)
def maxA : List U → Option U
  | [.lst xs] => ((intsU xs).bind maxL).map U.int
  | xs => maxU xs
theorem maxL_mem : ∀ {ns : List Int} {m : Int}, maxL ns = some m → m ∈ ns ∧ ∀ y ∈ ns, y ≤ m := by
  have key : ∀ (r : List Int) (n : Int), (r.foldl max n = n ∨ r.foldl max n ∈ r) ∧ n ≤ r.foldl max n ∧ ∀ y ∈ r, y ≤ r.foldl max n := by
    intro r
    induction r with
    | nil => intro n; exact ⟨.inl rfl, Int.le_refl _, fun y h => by cases h⟩
    | cons a r ih =>
      intro n
      obtain ⟨h1, h2, h3⟩ := ih (max n a)
      rw [List.foldl_cons]
      refine ⟨?_, by omega, fun y hy => ?_⟩
      · rcases h1 with h1 | h1
        · rcases Int.le_total n a with q | q
          · rw [h1, Int.max_eq_right q]; exact .inr (List.mem_cons_self ..)
          · rw [h1, Int.max_eq_left q]; exact .inl rfl
        · exact .inr (List.mem_cons_of_mem _ h1)
      · rcases List.mem_cons.mp hy with rfl | hy
        · omega
        · exact h3 y hy
  intro ns m h
  cases ns with
  | nil => cases h
  | cons n r =>
    cases h
    obtain ⟨h1, h2, h3⟩ := key r n
    refine ⟨?_, fun y hy => ?_⟩
    · rcases h1 with h1 | h1
      · rw [h1]; exact List.mem_cons_self ..
      · exact List.mem_cons_of_mem _ h1
    · rcases List.mem_cons.mp hy with rfl | hy
      · exact h2
      · exact h3 y hy
theorem rc_maxA {K : PySem.W.Frag} : RC (rMaxA K) maxA := fun xs z e vs B H s rs Q q => by
  unfold maxA at e
  split at e
  · rename_i l
    obtain ⟨m, em, e⟩ := map_some e
    subst e
    obtain ⟨ns, en, em⟩ := bind_some em
    obtain ⟨h1, h2⟩ := maxL_mem em
    cases rs with
    | cons r1 t =>
      cases t
      cases r1 with
      | @lst a _ ws h r =>
        refine .inl ⟨a, ns, rfl, by rw [← r.intsOf en]; exact SqL.of (s _ _ h), List.length_pos_of_mem h1, fun m' h3 h4 => ?_⟩
        have : m' = m := Int.le_antisymm (h2 _ h3) (h4 _ h1)
        subst this
        exact q _ B H (Go.refl s) (.int _)
  · exact .inr (rc_max _ _ e _ _ _ s rs Q q)
mutual
def U.py : U → Option PyData
  | .non => some .none
  | .bl b => some (.bool b)
  | .int i => some (.int i)
  | .str z => some (.str z)
  | .tup xs => (U.pys xs).map PyData.tuple
  | .tpd xs => (U.pys xs).map PyData.tuple
  | .lst xs => (U.pys xs).map PyData.list
  | _ => none
def U.pys : List U → Option (List PyData)
  | [] => some []
  | x :: xs => (U.py x).bind fun d => (U.pys xs).map fun r => d :: r
end
section
variable {K : PySem.W.Frag} {H : Hp}
mutual
theorem Rp.dp : ∀ {x : U} {v : V} {d : PyData}, Rp H x v → x.py = some d → Dp K H v d
  | _, _, _, .non, e => by cases e; exact .non
  | _, _, _, .bl b, e => by cases e; exact .bl b
  | _, _, _, .int b, e => by cases e; exact .int b
  | _, _, _, .str b, e => by cases e; exact .str b
  | _, _, _, @Rp.tup _ _ a xs vs h r, e => by
    obtain ⟨ds, e1, e⟩ := map_some (show (U.pys xs).map PyData.tuple = _ by simpa [U.py] using e)
    subst e
    exact .tup (SqT.of h) (Rps.dp r e1)
  | _, _, _, @Rp.lst _ _ a xs vs h r, e => by
    obtain ⟨ds, e1, e⟩ := map_some (show (U.pys xs).map PyData.list = _ by simpa [U.py] using e)
    subst e
    exact .lst (SqL.of h) (Rps.dp r e1)
  | _, _, _, .frl _ _, e => by simp [U.py] at e
  | _, _, _, .dic _ _, e => by simp [U.py] at e
  | _, _, _, .dit _ _, e => by simp [U.py] at e
  | _, _, _, .dib _ _ _, e => by simp [U.py] at e
  | _, _, _, .mt, e => by simp [U.py] at e
  | _, _, _, .exc0 _, e => by simp [U.py] at e
  | _, _, _, .exc _ _ _, e => by simp [U.py] at e
  | _, _, _, @Rp.tpd _ _ a xs vs o h _ r, e => by
    obtain ⟨ds, e1, e⟩ := map_some (show (U.pys xs).map PyData.tuple = _ by simpa [U.py] using e)
    subst e
    exact .tup (.inl (.inr ⟨o, h⟩)) (Rps.dp r e1)
  | _, _, _, .obj _ _ _, e => by simp [U.py] at e
theorem Rps.dp : ∀ {xs : List U} {vs : List V} {ds : List PyData}, Rps H xs vs → U.pys xs = some ds → DpAll K H vs ds
  | _, _, _, .nil, e => by simp [U.pys] at e; subst e; exact .nil
  | _, _, _, @Rps.cons _ _ x v xs vs h r, e => by
    obtain ⟨d, e1, e⟩ := bind_some (show (U.py x).bind (fun d => (U.pys xs).map fun r => d :: r) = _ by simpa [U.pys] using e)
    obtain ⟨ds, e2, e⟩ := map_some e
    subst e
    exact .cons (Rp.dp h e1) (Rps.dp r e2)
end
end
def rRepr (K : PySem.W.Frag) : List V → Hp → VK → Prop := fun xs H Q => ∃ v d, xs = [v] ∧ Dp K H v d ∧ d.showable = true ∧ d.hasDict = false ∧ d.depth ≤ 40 ∧ d.shown.length ≤ sizeLine ∧ Q (.str d.shown) H
theorem call_repr {X : Cx} (hg : X.A.guards = some []) (hu : X.A.units + 64 < cLine) : CallR X (.builtin "repr") (rRepr X.K) := by
  intro pins s σ H xs us Q I rx h
  obtain ⟨v, d, rfl, hd, h1, h2, h3, h4, q⟩ := h
  obtain ⟨u, rfl, ru⟩ := vals1 rx
  obtain ⟨as, rd⟩ := Dp.reads I d v u hd ru
  cases hd with
  | non => cases ru; exact PySem.P.repr_of_none ⟨.str _, H, I.kept (t' := s.toks + 1) (fun b o e => e), ⟨_, rfl⟩, q⟩
  | bl b => cases ru; exact PySem.P.repr_of_bool ⟨.str _, H, I.kept (t' := s.toks + 1) (fun b o e => e), ⟨_, rfl⟩, q⟩
  | int i =>
    obtain ⟨t, rfl⟩ := ru
    exact PySem.P.repr_of_int (by simpa [PyData.showable] using h1) ⟨.str _, H, I.kept (t' := s.toks + 1) (fun b o e => e), ⟨_, rfl⟩, q⟩
  | str i =>
    obtain ⟨t, rfl⟩ := ru
    exact PySem.P.repr_of_str ⟨.str _, H, I.kept (t' := s.toks + 1) (fun b o e => e), ⟨_, rfl⟩, q⟩ h4
  | @lst a xs ds e1 e2 =>
    cases ru
    exact repr_of_reads' rd h1 (fun z => by rw [h2] at z; cases z) hg (by omega) (fun b o e => e) (fun h' u tk hk => ⟨.str _, H, I.kept (t' := tk) hk, ⟨_, rfl⟩, q⟩) h4
  | @tup a xs ds e1 e2 =>
    cases ru
    exact repr_of_reads' rd h1 (fun z => by rw [h2] at z; cases z) hg (by omega) (fun b o e => e) (fun h' u tk hk => ⟨.str _, H, I.kept (t' := tk) hk, ⟨_, rfl⟩, q⟩) h4
theorem call_reprK {X : Cx} {K : PySem.W.Frag} (hK : X.K = K) (hg : X.A.guards = some []) (hu : X.A.units + 64 < cLine) : CallR X (.builtin "repr") (rRepr K) := hK ▸ call_repr hg hu
def reprV : U → Option U := fun x => x.py.bind fun d => if d.showable = true ∧ d.hasDict = false ∧ d.depth ≤ 40 ∧ d.shown.length ≤ lim then some (.str d.shown) else none
theorem rc_repr {K : PySem.W.Frag} : RC (rRepr K) (c1 reprV) := rc_one c1_one fun x z e v B H s rx Q q => by
  obtain ⟨d, ed, e⟩ := bind_some (show x.py.bind _ = _ from e)
  split at e
  · rename_i h
    cases e
    exact ⟨v, d, rfl, (rx.in s).dp ed, h.1, h.2.1, h.2.2.1, lim_size h.2.2.2, q _ B H (Go.refl s) (.str _)⟩
  · cases e
end
structure FnG (P : Program) (w : World) (K : PySem.W.Frag) (mg : Str → Option Value) (base : Heap) (CX : CXT) (k : Nat) (f : Addr) (fd : FuncData) (ps : List Str) (sp : Sp) : Prop where
  len : ∀ vs H Q E, sp vs H Q E → vs.length = ps.length
  run : ∀ (A : Around) (outer : List Env) (s : Shared) (H : Hp) (args : Args) (us : List Value) (vs : List V) (Q : VK) (E : XK), A.guards = some [] → Room k A → Env0 P w K mg base A outer s H → BindsTo s fd args (ps.zip us) → Vals vs us → sp vs H Q E →
    codeAny (model P w) A (.call (.ref f) args) (CR CX outer P w H s Q E) s
section
variable {P : Program} {w : World} {K : PySem.W.Frag} {mg : Str → Option Value} {base : Heap}
theorem FnG.of {CX : CXT} {k : Nat} {f : Addr} {fd : FuncData} {ps : List Str} {sp : Sp} (F : FnOk P w K mg base CX k f fd ps sp) : FnG P w K mg base CX k f fd ps sp := ⟨F.len, fun A outer s H args us vs Q E _ => F.run A outer s H args us vs Q E⟩
theorem Fun.okG {x qual : Str} {st : Stmt} {f : Addr} {fd : FuncData} {N ps : List Str} {k : Nat} {sp : Sp} (F : Fun K x qual st f fd) (S : FnScope N ps (defScope st)) (len : ∀ vs H Q E, sp vs H Q E → vs.length = ps.length)
    (hb : ∀ (cdv : Value) (A : Around) (outer : List Env) (s : Shared) (H : Hp) (vs : List V) (Q : VK) (E : XK), A.guards = some [] → Room k (A.deeper (envOfC qual (defScope st) s.heap.objs.size f cdv)) → sp vs H Q E →
      ∃ t, PSs (cxOf CX0 P w K mg base N qual (defScope st) f cdv A outer s H E).nox (defBody st) t ∧ t { nx := fun _ H' => Q .non H', rt := Q } (start N vs) H) : FnG P w K mg base CX0 (k + 1) f fd ps sp := by
  obtain ⟨oc, od, kV, doc, pm, an, cdv, ct, osl, rfl, lk, cd⟩ := F.ex
  refine ⟨len, fun A outer s H args us vs Q E hg hr e0 hbn r sp1 => ?_⟩
  have ln := len _ _ _ _ sp1
  have kin : K.In s.heap := e0.mod.kin.keeps fun b o e => (e0.bs b o e).1
  have nl : s.heap.NoLimit := e0.mod.nolimit.keeps fun b o e => (e0.bs b o e).1
  have kd : ∀ y ∈ ps.zip us, (defScope st).names.lookup y.1 = some .local ∨ ((defScope st).names.lookup y.1 = some .cell ∧ ((cellsFrom (s.heap.objs.size + 1) (defScope st).names []).lookup y.1).isSome = true) := fun ⟨n, v⟩ hy => by
    rcases S.par n (List.of_mem_zip hy).1 with z | z
    · exact .inl z
    · exact .inr ⟨z, PySem.W.cellsFrom_some _ _ _ (.inl z)⟩
  refine codeAny_call_function hr.depth (kin _ _ lk) rfl S.co S.gen rfl (PySem.W.codeRec_of kin cd) (hbn _ _ _ _ ?_)
  refine wpAny_newFunctionEnv_cells S.kind kd fun env he s1 x1 => ?_
  subst he
  refine ⟨nl.keeps x1.toInCall.keep, codeAny_func ?_⟩
  obtain ⟨t, ht, q⟩ := hb cdv A outer s H vs Q E hg (hr.deeper _) sp1
  have I : Inv (cxOf CX0 P w K mg base N qual (defScope st) f cdv A outer s H E) [] (start N vs) H s1 := inv_start S hr.hd e0 ln r x1
  refine wpAny_mono (ht.nox.run [] s1 (start N vs) H _ I q) (fun fl s2 hs => ?_) fun e s2 hs => hs
  cases fl with
  | ret u =>
    obtain ⟨v, σ2, H2, J, rv, q2⟩ := hs
    exact ⟨v, H2, J.os, J.bare, J.base, J.hok, rv, q2⟩
  | next =>
    obtain ⟨σ2, H2, J, q2⟩ := hs
    exact ⟨V.non, H2, J.os, J.bare, J.base, J.hok, rfl, q2⟩
  | brk =>
    obtain ⟨_, _, _, q2⟩ := hs
    exact False.elim q2
  | cont =>
    obtain ⟨_, _, _, q2⟩ := hs
    exact False.elim q2
end
section
variable {X : Cx} {CX : CXT} {k : Nat} {f : Addr} {fd : FuncData} {ps : List Str} {sp : Sp} {dvs : List V} {ds : List Value} {E : XK} {x : Str} {p pos : Pos} {e : Expr} {es : List Expr} {t : TA}
theorem pe_callG (F : FnG X.prog X.w X.K X.mg X.base CX k f fd ps sp) (hg0 : X.A.guards = some []) (hr : Room k X.A) (hg : Gl X x) (hm : X.mg x = some (.ref f)) (hk : PySem.W.keepIn X.K (.ref f) = true) (hb : Binds X.K fd ps ds) (hd : Vals dvs ds) (hx : Passes CX X E)
    (ha : PA X (e :: es) t) (hdb : (x == ("__debug__" : Str)) = false := by decide) (he : starEach (e :: es) X.env = (false, eval e X.env) :: starEach es X.env := by rfl) (hpl : (backTo pos (starEach es X.env)).any (·.1) = false := by rfl) :
    PE X (.Call (.Name x p) (e :: es) [] pos) (tCall sp dvs E t) := by
  refine ⟨fun pins s σ H Q I h => ?_⟩
  refine wpAny_Call_Name_kw (ld_glob I hg hm ?_ hdb)
  refine PySem.W.callWith_K (h₀ := X.base) I.ok.mod.kin hk (thn (ha.run pos pins s σ H _ I h) fun us s1 ⟨vs, H1, I1, r, q⟩ => ⟨I1.kIn, ?_⟩) he hpl
  have r2 : Vals (vs ++ dvs) (us ++ ds) := r.append hd
  have hl : (us ++ ds).length = ps.length := by rw [← r2.length]; exact F.len _ _ _ _ q
  refine wpAny_call (codeAny_mono (F.run X.A X.stack s1 H1 ⟨us, []⟩ (us ++ ds) (vs ++ dvs) Q E hg0 hr I1.env0 (hb s1 us I1.kIn hl) r2 q) fun r s2 hq => ?_)
  cases r with
  | error e => exact hx pins σ H1 s1 e s2 I1 hq
  | ok fl =>
    cases fl with
    | ret u => exact I1.after hq
    | next => exact False.elim hq
    | brk => exact False.elim hq
    | cont => exact False.elim hq
end
end Dn
set_option Elab.async false
set_option linter.all false
set_option maxRecDepth 100000
set_option maxHeartbeats 2000000
namespace Dn
open PySem L2 PySem.Spec PyProof.Rows
def withK {κ α : Type} (K : κ) (f : κ → α) : α := f K
theorem q_withS {κ α : Type} {K : κ} {f : κ → SM α} {us : List U} {R : α × List U} {G : Prop} (e : withK K f us = some R) (k : ∀ K', K' = K → f K' us = some R → G) : G := k K rfl e
theorem q_withO {κ α : Type} {K : κ} {f : κ → Option α} {R : α} {G : Prop} (e : withK K f = some R) (k : ∀ K', K' = K → f K' = some R → G) : G := k K rfl e
section
variable {P : Program} {w : World} {K : PySem.W.Frag} {mg mb : Str → Option Value} {s1 : Shared} {a : Addr} {vs : List Value} {ns : List Int}
/-- where the law begins: only the script is tracked -/
structure Beg (P : Program) (w : World) (K : PySem.W.Frag) (mg : Str → Option Value) (s1 : Shared) (a : Addr) (ns : List Int) (H : Hp) : Prop where
  only : Only H
  sq : SqL K H a (ns.map V.int)
  ok : HOk P w H s1.heap
  at_ : ∀ b, H b ≠ none → b = a
  no : H a ≠ none → K.lookup a = none
theorem beg_of (KX : K.In s1.heap) (ha : s1.heap.get? a = some { cls := .type "list", data := .seq vs.toArray }) (hi : IntsAre vs ns) (hl : ns.length ≤ sizeLine) : ∃ H, Beg P w K mg s1 a ns H := by
  have hv := vals_ints hi
  have hn := hi.length
  cases hk : K.lookup a with
  | some o =>
    obtain rfl := Option.some.inj (ha.symm.trans (KX a o hk))
    have q : SqL K (fun _ => none) a (ns.map V.int) := .inr ⟨_, vs.toArray, _, hk, rfl, rfl, rfl, by rw [List.size_toArray, hn]; exact hl, by simpa using hv⟩
    exact ⟨fun _ => none, fun _ => .inl rfl, q, fun b u z => (by cases (show (none : Option HO) = some u from z)), fun b z => absurd rfl z, fun z => absurd rfl z⟩
  | none =>
    let o : Obj := { cls := .type "list", data := .seq vs.toArray }
    let H : Hp := upd (fun _ => none) a (.frz o (.lst (ns.map V.int)))
    have e1 : H a = some (.frz o (.lst (ns.map V.int))) := upd_same
    have e2 : ∀ b, b ≠ a → H b = none := fun b hb => upd_ne hb
    refine ⟨H, fun b => ?_, .inl (.inr ⟨o, e1⟩), fun b u z => ?_, fun b z => ?_, fun _ => hk⟩
    · by_cases hb : b = a
      · subst hb; exact .inr ⟨o, _, e1⟩
      · exact .inl (e2 b hb)
    · by_cases hb : b = a
      · subst hb
        rw [e1] at z
        cases z
        exact ⟨ha, by rw [List.length_map]; exact hl, vs, _, hv, ha⟩
      · rw [e2 b hb] at z; cases z
    · by_cases hb : b = a
      · exact hb
      · exact absurd (e2 b hb) z
/-- .. and the tables of code objects, empty as yet -/
def tabH (cs : List (Addr × Addr)) (H : Hp) : Hp := fun b => if b ∈ cs.map (·.2) then some (.tbl #[]) else H b
theorem tabH_in {cs : List (Addr × Addr)} {H : Hp} {b : Addr} (h : b ∈ cs.map (·.2)) : tabH cs H b = some (.tbl #[]) := if_pos h
theorem tabH_out {cs : List (Addr × Addr)} {H : Hp} {b : Addr} (h : b ∉ cs.map (·.2)) : tabH cs H b = H b := if_neg h
/-- what is known of the tables at the head's heap -/
structure TabsAt (K : PySem.W.Frag) (h : Heap) (cs : List (Addr × Addr)) : Prop where
  emp : ∀ p ∈ cs, h.get? p.2 = some { cls := .none, data := .fields #[] }
  no : ∀ p ∈ cs, K.lookup p.2 = none
  code : ∀ p ∈ cs, PySem.W.CodeHd h p.1 p.2
/-- the script, the tables, and nothing else -/
def LawH (K : PySem.W.Frag) (cs : List (Addr × Addr)) (a : Addr) (ns : List Int) (H : Hp) : Prop :=
  SqL K H a (ns.map V.int) ∧ (∀ p ∈ cs, H p.2 = some (.tbl #[])) ∧ (∀ b ps, H b = some (.tbl ps) → b ∈ cs.map (·.2)) ∧ (∀ b, H b = none ∨ b ∈ cs.map (·.2) ∨ ∃ o xs, H b = some (.frz o (.lst xs)))
theorem law_callG {CX : CXT} {k : Nat} {fa : Addr} {cs : List (Addr × Addr)} {fd : FuncData} {x : Str} {sp : Sp} (KX : K.In s1.heap) (gm : s1.heap.Ns mainGlobals mg) (gb : s1.heap.Ns builtinsNs mb) (bb : ∀ x : Str, x ≠ "__name__" → mb x = bootBuiltins x) (nl : s1.heap.NoLimit) (sm : ∃ m, s1.heap.Ns sysModules m) (g0 : s1.gens = #[])
    (tt : TabsAt K s1.heap cs) (hbm : ∃ (bm : Addr) (ob : Obj), mg "__builtins__" = some (.ref bm) ∧ bm ≠ builtinsNs ∧ s1.heap.get? bm = some ob ∧ ob.cls = .type "module" ∧ ob.dict = some builtinsNs ∧ ob.data = .plain)
    (ha : s1.heap.get? a = some { cls := .type "list", data := .seq vs.toArray }) (hi : IntsAre vs ns) (hl : ns.length ≤ sizeLine) (hr : Room k callerA) (F : ∀ base : Heap, K.In base → base.Ns mainGlobals mg → SmB base → (∀ p ∈ cs, LamX.TabB base mg p.1 p.2) → FnG P w K mg base CX k fa fd [x] sp)
    (bnd : ∀ (s : Shared) (u : Value), BindsTo s fd ⟨[u], []⟩ [(x, u)]) (hsp : ∀ H : Hp, LawH K cs a ns H → sp [.ref a] H (fun v _ => v = .bl true) fun _ _ _ => False) (hCX : ∀ H e s2, CX [] H s1 (fun _ _ _ => False) e s2 → False) :
    codeAny (model P w) callerA (.call (.ref fa) ⟨[.ref a], []⟩) (fun r s2 => r = .ok (.ret (.bool true)) ∧ OldK s1.heap s2.heap ∧ s2.os = s1.os ∧ AllBare s2.gens) s1 := by
  obtain ⟨H0, bg⟩ := beg_of (P := P) (w := w) (mg := mg) KX ha hi hl
  have isT : ∀ b, b ∈ cs.map (·.2) → s1.heap.get? b = some { cls := .none, data := .fields #[] } := fun b hb => by
    obtain ⟨p, hp, rfl⟩ := List.mem_map.mp hb
    exact tt.emp p hp
  have aT : a ∉ cs.map (·.2) := fun z => by
    have q := (isT a z).symm.trans ha
    cases q
  have memT : ∀ p ∈ cs, p.2 ∈ cs.map (·.2) := fun p hp => List.mem_map.mpr ⟨p, hp, rfl⟩
  have H0T : ∀ b, b ∈ cs.map (·.2) → H0 b = none := fun b hb => by
    cases q : H0 b with
    | none => rfl
    | some u =>
      obtain rfl := bg.at_ b (fun z => by rw [q] at z; cases z)
      exact absurd hb aT
  -- what is tracked holds
  have okH : HOk P w (tabH cs H0) s1.heap := fun b u e => by
    by_cases hb : b ∈ cs.map (·.2)
    · rw [tabH_in hb] at e
      cases e
      exact isT b hb
    · rw [tabH_out hb] at e
      have nf : ∀ c, H0 c = some u → tabH cs H0 c = some u := fun c z => by rw [tabH_out (fun y => by rw [H0T c y] at z; cases z)]; exact z
      exact (bg.ok b u e).stay (fun _ _ _ z => z) (fun c z => by
        rw [tabH_out (fun y => by rw [H0T c y] at z; cases z)]; exact z) fun c xs z => by
        rw [tabH_out (fun y => by rw [H0T c y] at z; cases z)]; exact z
  have sq : SqL K (tabH cs H0) a (ns.map V.int) := by
    rcases bg.sq with (h | ⟨o, h⟩) | h
    · exact .inl (.inl (by rw [tabH_out aT]; exact h))
    · exact .inl (.inr ⟨o, by rw [tabH_out aT]; exact h⟩)
    · exact .inr h
  have lawH : LawH K cs a ns (tabH cs H0) := by
    refine ⟨sq, fun p hp => tabH_in (memT p hp), fun b ps e => ?_, fun b => ?_⟩
    · by_cases hb : b ∈ cs.map (·.2)
      · exact hb
      · rw [tabH_out hb] at e
        rcases bg.only b with z | ⟨o, xs, z⟩ <;> rw [z] at e <;> cases e
    · by_cases hb : b ∈ cs.map (·.2)
      · exact .inr (.inl hb)
      · rw [tabH_out hb]
        rcases bg.only b with z | z
        · exact .inl z
        · exact .inr (.inr z)
  -- an object that is neither a list nor an empty record is not tracked
  have free : ∀ {b : Addr} {o : Obj}, s1.heap.get? b = some o → (∀ v n, o.data ≠ .seq v n) → o.data ≠ .fields #[] → tabH cs H0 b = none := fun {b o} e d1 d2 => by
    by_cases hb : b ∈ cs.map (·.2)
    · obtain rfl := Option.some.inj ((isT b hb).symm.trans e)
      exact absurd rfl d2
    · rw [tabH_out hb]
      cases q : H0 b with
      | none => rfl
      | some u =>
        obtain rfl := bg.at_ b (fun z => by rw [q] at z; cases z)
        obtain rfl := Option.some.inj (ha.symm.trans e)
        exact absurd rfl (d1 _ _)
  have freeD : ∀ {b : Addr} {o : Obj} {es : Array DictEntry} {ep : Nat}, s1.heap.get? b = some o → o.data = .dict es ep → tabH cs H0 b = none := fun {b o es ep} e d => free e (fun v n z => by rw [d] at z; cases z) fun z => by rw [d] at z; cases z
  have ns2 : ∀ {b : Addr} {m : Str → Option Value}, s1.heap.Ns b m → (hidT s1.heap (tabH cs H0)).Ns b m := fun {b m} ⟨o, es, ep, e, d, r⟩ => ⟨o, es, ep, hidT_get e (freeD e d), d, r⟩
  have k2 : K.In (hidT s1.heap (tabH cs H0)) := fun b o e => hidT_get (KX b o e) (by
    by_cases hb : b ∈ cs.map (·.2)
    · obtain ⟨p, hp, rfl⟩ := List.mem_map.mp hb
      rw [tt.no p hp] at e
      cases e
    · rw [tabH_out hb]
      cases q : H0 b with
      | none => rfl
      | some u =>
        obtain rfl := bg.at_ b (fun z => by rw [q] at z; cases z)
        rw [bg.no (fun z => by rw [q] at z; cases z)] at e; cases e)
  have md : Mod K mg (hidT s1.heap (tabH cs H0)) := ⟨k2, ns2 gm, ⟨mb, ns2 gb, bb⟩, let ⟨mc, h1, h2⟩ := nl; ⟨mc, ns2 h1, h2⟩⟩
  have tb : ∀ p ∈ cs, LamX.TabB (hidT s1.heap (tabH cs H0)) mg p.1 p.2 := fun p hp => by
    have hP := tt.emp p hp
    refine ⟨?_, ?_, fun z => ?_⟩
    · obtain ⟨o, us, file, tf, flags, tg, inF, text, tx, e1, r1, r2, r3, rest⟩ := tt.code p hp
      exact ⟨o, us, file, tf, flags, tg, inF, text, tx, hidT_get e1 (free e1 (fun v n z => by rw [r2] at z; cases z) fun z => by rw [r2] at z; cases z; simp at r3), r1, r2, r3, rest⟩
    · obtain ⟨bm, ob, b1, b2, b3, b4, b5, b6⟩ := hbm
      refine ⟨bm, ob, b1, b2, fun z => ?_, fun z => ?_, hidT_get b3 (free b3 (fun v n z => by rw [b6] at z; cases z) fun z => by rw [b6] at z; cases z), b4, b5, b6⟩
      · obtain ⟨o, es, ep, e, d, _⟩ := gm
        rw [z] at b3
        obtain rfl := Option.some.inj (b3.symm.trans e)
        rw [b6] at d; cases d
      · rw [z] at b3
        obtain rfl := Option.some.inj (b3.symm.trans hP)
        cases b6
    · obtain ⟨o, es, ep, e, d, _⟩ := gm
      rw [z] at e
      obtain rfl := Option.some.inj (e.symm.trans hP)
      cases d
  have nof : ∀ b ∈ frs ([] : List Env), tabH cs H0 b = none := fun b z => nomatch (show b ∈ ([] : List Addr) from z)
  have e0 : Env0 P w K mg (hidT s1.heap (tabH cs H0)) callerA [] s1 (tabH cs H0) := ⟨rfl, md, fun b o e => of_hidT e, Nat.le_of_eq (hidT_size _ _), trivial, nof, okH, .of_eq g0⟩
  refine codeAny_mono ((F _ k2 (ns2 gm) (let ⟨_, h⟩ := sm; let ⟨o, _, _, e, _⟩ := ns2 h; ⟨o, e⟩) tb).run callerA [] s1 _ ⟨[.ref a], []⟩ [.ref a] [.ref a] _ _ rfl hr e0 (bnd s1 (.ref a)) (.cons rfl .nil) (hsp _ lawH)) fun r s2 h => ?_
  match r, h with
  | .error e, h => exact (hCX _ e s2 h).elim
  | .ok .next, h => exact False.elim h
  | .ok .brk, h => exact False.elim h
  | .ok .cont, h => exact False.elim h
  | .ok (.ret u), h =>
    obtain ⟨v, H2, os, bare, un, ok2, rv, q⟩ := h
    obtain rfl : v = .bl true := q
    obtain rfl : u = Value.bool true := rv
    have keep : ∀ b o, b ∉ cs.map (·.2) → s1.heap.get? b = some o → s2.heap.get? b = some o := fun b o hb e => by
      rcases bg.only b with z | ⟨ob, xs, z⟩
      · exact un.keep b o e (by rw [tabH_out hb]; exact z) (fun y => nomatch (show b ∈ ([] : List Addr) from y)) (by simp)
      · have z1 : tabH cs H0 b = some (.frz ob (.lst xs)) := by rw [tabH_out hb]; exact z
        obtain ⟨e1, _⟩ := okH b _ z1
        obtain ⟨e2, _⟩ := ok2 b _ (un.frzs b ob _ z1)
        obtain rfl := Option.some.inj (e.symm.trans e1)
        exact e2
    have grown : ∀ b ∈ cs.map (·.2), ∃ more : Array Value, s2.heap.get? b = some { cls := .none, data := .fields (#[] ++ more) } := fun b hb => by
      obtain ⟨more, z⟩ := un.tbls b #[] (tabH_in hb)
      exact ⟨more, ok2 b _ z⟩
    refine ⟨rfl, ⟨fun b o e => ?_, fun b o e => ?_⟩, os, bare⟩
    · by_cases hb : b ∈ cs.map (·.2)
      · obtain ⟨more, hm⟩ := grown b hb
        obtain ⟨p, hp, rfl⟩ := List.mem_map.mp hb
        obtain rfl := Option.some.inj (e.symm.trans (tt.emp p hp))
        exact .inr (.inl ⟨((tt.code p hp).tab (tt.emp p hp)).isCodeTable, rfl, #[], more, rfl, hm⟩)
      · exact .inl (keep b o hb e)
    · by_cases hb : b ∈ cs.map (·.2)
      · obtain ⟨more, hm⟩ := grown b hb
        exact ⟨_, hm⟩
      · exact ⟨o, keep b o hb e⟩
end
end Dn
set_option Elab.async false
set_option linter.all false
set_option maxRecDepth 100000
set_option maxHeartbeats 2000000
namespace Dn
open PySem PySem.Spec PyProof.Rows L2
end Dn
set_option Elab.async false
set_option linter.all false
set_option maxRecDepth 100000
set_option maxHeartbeats 2000000
namespace Dn
open PySem PySem.Spec PyProof.Rows L2
end Dn
set_option Elab.async false
set_option linter.all false
set_option maxRecDepth 100000
set_option maxHeartbeats 2000000
namespace Dn
open PySem L2
variable [CTab]
def tFrz (te : TE) : TE := fun σ H Q => te σ H fun v H1 => ∃ d u, v = .ref d ∧ H1 d = some u ∧ Mut (some u) ∧ ∀ od, Q v (upd H1 d (.frz od u))
theorem pe_frz {X : Cx} {e : Expr} {t : TE} (h : PE X e t) : PE X e (tFrz t) := by
  refine ⟨fun pins s σ H Q I hw => ?_⟩
  refine thn (h.run pins s σ H _ I hw) fun v s1 ⟨x, H1, I1, r1, d, u, ex, hd, mu, q⟩ => ?_
  obtain ⟨od, I2⟩ := I1.lock hd mu
  exact ⟨x, _, I2, r1, q od⟩
end Dn
set_option Elab.async false
set_option linter.all false
set_option maxRecDepth 100000
set_option maxHeartbeats 2000000
namespace Dn
open PySem PySem.Spec PyProof.Rows L2
variable [CTab]
theorem get0 {w0 : U} {rest : List U} : getV (.lst (w0 :: rest)) (.int 0) = some w0 := by
  show atI (w0 :: rest) 0 = some w0
  unfold atI ixN
  rw [if_pos (by decide), if_pos (by simp)]
  rfl
theorem cut1 {w0 : U} {rest : List U} : sliceV (.lst (w0 :: rest)) (some 1) none = some (.lst rest) := by
  show some (U.lst (cutU (w0 :: rest) (some 1) none)) = _
  have e1 : HT.sIx (w0 :: rest).length 0 (some 1) = 1 := by
    unfold HT.sIx
    simp
  have e2 : HT.sIx (w0 :: rest).length (w0 :: rest).length none = (w0 :: rest).length := rfl
  unfold cutU
  rw [e1, e2]
  simp
end Dn
set_option Elab.async false
set_option linter.all false
set_option maxRecDepth 100000
set_option maxHeartbeats 2000000
namespace Dn
open PySem L2 PySem.Spec PyProof.Rows
theorem noList_sq {K : PySem.W.Frag} (h : noList K = true) {H : Hp} {a : Addr} {xs : List V} (s : SqL K H a xs) : Rd H a (.lst xs) := by
  rcases s with s | ⟨o, its, n, hk, hc, _⟩
  · exact s
  · exfalso
    have hm : (a, o) ∈ K := by
      clear h
      induction K with
      | nil => cases hk
      | cons p K ih =>
        obtain ⟨b, q⟩ := p
        rw [List.lookup_cons] at hk
        split at hk
        · rename_i e
          cases hk
          have : a = b := by simpa using e
          subst this
          exact List.mem_cons_self ..
        · exact List.mem_cons_of_mem _ (ih hk)
    have := List.all_eq_true.mp h _ hm
    rw [hc] at this
    exact absurd this (by decide)
def spLaw [CTab] : Sp := fun vs H Q _ => ∃ (a : Addr) (o : Obj) (ns : List Int), vs = [.ref a] ∧ H a = some (.frz o (.lst (ns.map V.int))) ∧ ns.length ≤ 63 ∧ LamX.Tabs CTab.tb H ∧ (∀ b ps, H b = some (.tbl ps) → b ∈ CTab.tb.map (·.1)) ∧ ∀ H', Q (.bl true) H'
theorem spLaw_of [CTab] {m : U → Option U} (hm : ∀ ns : List Int, ns.length ≤ 63 → m (.frl (ns.map U.int)) = some (.bl true)) (vs : List V) (H : Hp) (Q : VK) (E : XK) (h : spLaw vs H Q E) : spU (a1 m) vs H Q E := by
  obtain ⟨a, o, ns, rfl, ha, hl, ht, ho, q⟩ := h
  refine ⟨upd (fun _ => none) a (.frz o (.lst (ns.map V.int))), [.frl (ns.map U.int)], .bl true, ⟨fun b u e => ?_, nt_upd (fun _ _ e => (by cases e)) rfl, ht, ho⟩, .cons (.frl upd_same (Rps.ints ns)) .nil, hm ns hl, fun v B2 H2 _ r => ?_⟩
  · by_cases hb : b = a
    · subst hb; rw [upd_same] at e; rw [ha]; exact e
    · rw [upd_ne hb] at e; cases e
  · cases r; exact q H2
theorem FnG.imp {P : Program} {w : World} {K : PySem.W.Frag} {mg : Str → Option Value} {base : Heap} {CX : CXT} {k : Nat} {f : Addr} {fd : FuncData} {ps : List Str} {sp sp' : Sp} (F : FnG P w K mg base CX k f fd ps sp) (h : ∀ vs H Q E, sp' vs H Q E → sp vs H Q E) : FnG P w K mg base CX k f fd ps sp' :=
  ⟨fun vs H Q E z => F.len vs H Q E (h _ _ _ _ z), fun A outer s H args us vs Q E hg hr he hb hv hs => F.run A outer s H args us vs Q E hg hr he hb hv (h _ _ _ _ hs)⟩
/-- what the end shows of a law, at the head's heap h -/
def LawAt (l : PySem.W.OpenLaw) (w : World) (K : PySem.W.Frag) (k : Nat) (x : Str) (mg : Str → Option Value) (fa : Addr) (h : Heap) : Prop :=
  ∃ (fd : FuncData) (ct : CTab) (cs : List (Addr × Addr)), TabsAt K h cs ∧ (ct.tb.map (·.1) = cs.map (·.2)) ∧ (∀ (s : Shared) (u : Value), BindsTo s fd ⟨[u], []⟩ [(x, u)]) ∧
    ∀ base : Heap, K.In base → base.Ns mainGlobals mg → SmB base → (∀ p ∈ cs, LamX.TabB base mg p.1 p.2) → FnG l.prog w K mg base CX0 k fa fd [x] (@spLaw ct)
/-- the tables of the defs of a program, empty at the head's heap -/
def AllTab (q : Program) (mg : Str → Option Value) (h : Heap) : Prop := ∀ d ∈ recsOf q, ∃ a o fd c P, mg d.name = some (.ref a) ∧ h.get? a = some o ∧ o.data = .func fd ∧ fd.code = .ref c ∧ h.IsCode c P #[] ∧ h.TableAt c P #[]
theorem tab_one {q : Program} {K : PySem.W.Frag} {mg : Str → Option Value} {h : Heap} {n : Str} {f c P : Addr} {o : Obj} {fd : FuncData} {e : Value} {dd : Option Addr} {vs : Array Value} {sl : Array (Option Value)} (KX : K.In h) (TB : AllTab q mg h) (hn : ((recsOf q).any fun e => e.name == n) = true) (hmg : mg n = some (.ref f))
    (lk : K.lookup f = some o) (ho : o.data = .func fd) (hc : fd.code = .ref c) (kc : K.lookup c = some ⟨e, dd, .fields vs, sl⟩) (k5 : vs[11]? = some (.ref P)) : PySem.W.CodeHd h c P ∧ h.get? P = some { cls := .none, data := .fields #[] } := by
  obtain ⟨dL, hm, hn1⟩ := List.any_eq_true.mp hn
  have hn2 : dL.name = n := beq_iff_eq.mp hn1
  obtain ⟨a', o', fd', c', P', h1, h2, h3, h4, h5, h6⟩ := TB dL hm
  rw [hn2, hmg] at h1
  cases h1
  have g1 := KX _ _ lk
  rw [g1] at h2
  cases h2
  rw [ho] at h3
  cases h3
  rw [hc] at h4
  cases h4
  have C := PySem.W.CodeHd.of h5 h6
  obtain ⟨⟨oc, vc, e1, _, e3, e4⟩, hP⟩ := h6
  have g2 := KX _ _ kc
  rw [g2] at e1
  cases e1
  cases e3
  rw [k5] at e4
  cases e4
  exact ⟨C, hP⟩
theorem one_of {tb : List (Addr × Str)} {P : Addr} {q : Str} : (tb.map (·.1)).Nodup → (P, q) ∈ tb → ∀ p ∈ tb, p.1 = P → p.2 = q := by
  induction tb with
  | nil => intro _ h; cases h
  | cons x tb ih =>
    intro n h p hp e
    rw [List.map_cons, List.nodup_cons] at n
    rcases List.mem_cons.mp h with rfl | h2 <;> rcases List.mem_cons.mp hp with rfl | hp2
    · rfl
    · exact absurd (show (P, q).1 ∈ tb.map (·.1) from List.mem_map.mpr ⟨p, hp2, e⟩) n.1
    · exact absurd (show p.1 ∈ tb.map (·.1) from List.mem_map.mpr ⟨(P, q), h2, e.symm⟩) n.1
    · exact ih n.2 h2 p hp2 e
end Dn
set_option Elab.async false
set_option linter.all false
set_option maxRecDepth 100000
set_option maxHeartbeats 2000000
namespace Dn
open PySem L2
section
variable {α β : Type} {a b : U} {l : List U} {f : U → U → Option U} {us : List U}
@[simp] theorem op2_s : op2 f (some a) (some b) = f a b := rfl
@[simp] theorem op1_s {g : U → Option U} : op1 g (some a) = g a := rfl
@[simp] theorem callO_s {m : List U → Option U} : callO m (some l) = m l := rfl
@[simp] theorem consO_s : consO (some a) (some l) = some (a :: l) := rfl
@[simp] theorem isO_s {g : U → Option Bool} : isO g (some a) = (g a).map U.bl := rfl
@[simp] theorem testO_s {c : Bool} : testO (some (.bl c)) = some c := rfl
@[simp] theorem ifO_t {x y : Option α} : ifO (some true) x y = x := rfl
@[simp] theorem ifO_f {x y : Option α} : ifO (some false) x y = y := rfl
theorem ifO_s {x y : Option α} {c : Bool} : ifO (some c) x y = if c = true then x else y := rfl
@[simp] theorem andO_t {y : Option Bool} : andO (some true) y = y := rfl
@[simp] theorem andO_f {y : Option Bool} : andO (some false) y = some false := rfl
@[simp] theorem orO_t {y : Option Bool} : orO (some true) y = some true := rfl
@[simp] theorem orO_f {y : Option Bool} : orO (some false) y = y := rfl
theorem andO_s {x y : Bool} : andO (some x) (some y) = some (x && y) := by cases x <;> rfl
theorem orO_s {x y : Bool} : orO (some x) (some y) = some (x || y) := by cases x <;> rfl
@[simp] theorem notO_s {x : Bool} : notO (some x) = some (!x) := rfl
@[simp] theorem andV_t {y : Option U} : andV (some (.bl true)) y = y := rfl
@[simp] theorem andV_f {y : Option U} : andV (some (.bl false)) y = some (.bl false) := rfl
@[simp] theorem orV_t {y : Option U} : orV (some (.bl true)) y = some (.bl true) := rfl
@[simp] theorem orV_f {y : Option U} : orV (some (.bl false)) y = y := rfl
theorem andV_s {x y : Bool} : andV (some (.bl x)) (some (.bl y)) = some (.bl (x && y)) := by cases x <;> rfl
theorem orV_s {x y : Bool} : orV (some (.bl x)) (some (.bl y)) = some (.bl (x || y)) := by cases x <;> rfl
@[simp] theorem notV_s {x : Bool} : notV (some (.bl x)) = some (.bl (!x)) := rfl
theorem tupO_s (h : l.length ≤ lim) : tupO (some l) = some (.tup l) := by simp [tupO, h]
theorem lstO_s (h : l.length ≤ lim) : lstO (some l) = some (.lst l) := by simp [lstO, h]
@[simp] theorem tupO0 : tupO (some []) = some (.tup []) := rfl
@[simp] theorem tupO1 {x : U} : tupO (some [x]) = some (.tup [x]) := rfl
@[simp] theorem tupO2 {x y : U} : tupO (some [x, y]) = some (.tup [x, y]) := rfl
@[simp] theorem lstO0 : lstO (some []) = some (.lst []) := rfl
@[simp] theorem lstO1 {x : U} : lstO (some [x]) = some (.lst [x]) := rfl
@[simp] theorem lstO2 {x y : U} : lstO (some [x, y]) = some (.lst [x, y]) := rfl
@[simp] theorem slO_s {lo hi : Option Int} : slO (some a) (some lo) (some hi) = sliceV a lo hi := rfl
@[simp] theorem ptO_s {i : Int} : ptO (some (.int i)) = some (some i) := rfl
@[simp] theorem iterO_s {g : U → Option (List U)} : iterO g (some a) = g a := rfl
@[simp] theorem rngO_s {g : List U → Option (List U)} : rngO g (some l) = g l := rfl
@[simp] theorem compO_s {p : U → Option Bool} {g : U → Option U} : compO p g (some l) = lcO p g l := rfl
@[simp] theorem chainO_s {g g' : U → U → Option U} {c : U} {k : Bool} (h : g a b = some (.bl k)) : chainO g g' (some a) (some b) (some c) = if k = true then g' b c else some (.bl false) := by simp [chainO, h, U.asB]
@[simp] theorem addV_i {i j : Int} : addV (.int i) (.int j) = some (.int (i + j)) := rfl
@[simp] theorem subV_i {i j : Int} : subV (.int i) (.int j) = some (.int (i - j)) := rfl
@[simp] theorem ltV_i {i j : Int} : ltV (.int i) (.int j) = some (.bl (decide (i < j))) := rfl
@[simp] theorem leV_i {i j : Int} : leV (.int i) (.int j) = some (.bl (decide (i ≤ j))) := rfl
@[simp] theorem gtV_i {i j : Int} : gtV (.int i) (.int j) = some (.bl (decide (j < i))) := rfl
@[simp] theorem geV_i {i j : Int} : geV (.int i) (.int j) = some (.bl (decide (j ≤ i))) := rfl
@[simp] theorem negV_i {i : Int} : negV (.int i) = some (.int (-i)) := rfl
@[simp] theorem intV_i {i : Int} : c1 intV [.int i] = some (.int i) := rfl
@[simp] theorem absU_i {i : Int} : c1 absU [.int i] = some (.int (if i < 0 then -i else i)) := rfl
theorem mulV_r {i j : Int} (h : -(2 ^ 64) < j ∧ j < 2 ^ 64) : mulV (.int i) (.int j) = some (.int (i * j)) := by
  show (if (-(2 ^ 64) < i ∧ i < 2 ^ 64) ∨ (-(2 ^ 64) < j ∧ j < 2 ^ 64) then some (U.int (i * j)) else none) = _
  rw [if_pos (.inr h)]
theorem mulV_l {i j : Int} (h : -(2 ^ 64) < i ∧ i < 2 ^ 64) : mulV (.int i) (.int j) = some (.int (i * j)) := by
  show (if (-(2 ^ 64) < i ∧ i < 2 ^ 64) ∨ (-(2 ^ 64) < j ∧ j < 2 ^ 64) then some (U.int (i * j)) else none) = _
  rw [if_pos (.inl h)]
theorem modV_i {i j : Int} (h : 0 < j) : modV (.int i) (.int j) = some (.int (i % j)) := by
  show (if 0 < j then some (U.int (i % j)) else none) = _
  rw [if_pos h]
theorem fdivV_i {i j : Int} (h : 0 < j ∧ j < 1073741824) : fdivV (.int i) (.int j) = some (.int (i / j)) := by
  show (if 0 < j ∧ j < 1073741824 then some (U.int (i / j)) else none) = _
  rw [if_pos h]
theorem divmod_i {i j : Int} (h : 0 < j ∧ j < 1073741824) : divmodU [.int i, .int j] = some (.tup [.int (i / j), .int (i % j)]) := by
  show (if 0 < j ∧ j < 1073741824 then some (U.tup [.int (i / j), .int (i % j)]) else none) = _
  rw [if_pos h]
@[simp] theorem pureS_s {o : Option α} : pureS o us = o.map fun x => (x, us) := rfl
theorem bindS_s {F : SM α} {k : α → SM β} {x : α} {us1 : List U} (h : F us = some (x, us1)) : bindS F k us = k x us1 := by simp [bindS, h]
@[simp] theorem bindS_pure {x : α} {k : α → SM β} : bindS (pureS (some x)) k = k x := rfl
@[simp] theorem withK_s {κ : Type} {K : κ} {g : κ → α} : withK K g = g K := rfl
theorem ifS_s {c : SM Bool} {F G : SM α} {b : Bool} {us1 : List U} (h : c us = some (b, us1)) : ifS c F G us = if b = true then F us1 else G us1 := by
  simp only [ifS, bindS, h, Option.bind_some]
  cases b <;> rfl
theorem ifS_p {F G : SM α} {b : Bool} : ifS (pureS (some b)) F G us = if b = true then F us else G us := ifS_s rfl
theorem opS_s {F G : SM U} {us1 us2 : List U} {z : U} (h : F us = some (a, us1)) (h2 : G us1 = some (b, us2)) (h3 : f a b = some z) : opS f F G us = some (z, us2) := by
  simp [opS, bindS, h, h2, h3]
@[simp] theorem opS_p : opS f (pureS (some a)) (pureS (some b)) = pureS (f a b) := rfl
@[simp] theorem consS_p : consS (pureS (some a)) (pureS (some l)) = pureS (some (a :: l)) := rfl
@[simp] theorem callS_p {m : List U → Option U} : callS m (pureS (some l)) = pureS (m l) := rfl
@[simp] theorem testS_p : testS (pureS (some a)) = pureS a.asB := rfl
theorem consS_s {F : SM U} {G : SM (List U)} {us1 us2 : List U} (h : F us = some (a, us1)) (h2 : G us1 = some (l, us2)) : consS F G us = some (a :: l, us2) := by
  simp [consS, bindS, h, h2]
theorem lockO_s {j : Nat} {o : U → Option U} {u z : U} (h : us[j]? = some u) (hu : u.own = true) (ho : o u = some z) (hz : z.pl = true) : lockO j o us = some (z, us) := by
  simp [lockO, h, hu, ho, hz]
theorem lockT_s {j : Nat} {o : U → Option Bool} {u : U} {z : Bool} (h : us[j]? = some u) (hu : u.own = true) (ho : o u = some z) : lockT j o us = some (z, us) := by
  simp [lockT, h, hu, ho]
theorem callM_s {j : Nat} {m : U → List U → Option (U × U)} {xs : List U} {u r u' : U} (h : us[j]? = some u) (hu : u.own = true) (hm : m u xs = some (r, u')) : callM j m xs us = some (r, us.set j u') := by
  simp [callM, h, hu, hm]
end
theorem atI_nat' {α : Type} {xs : List α} {k : Nat} {x : α} (h : xs[k]? = some x) : atI xs (k : Int) = some x := by
  have hk : k < xs.length := (List.getElem?_eq_some_iff.mp h).1
  unfold atI ixN
  rw [if_pos (by omega), if_pos (by omega)]
  simpa using h
theorem atI_int {α : Type} {xs : List α} {i : Int} (h0 : 0 ≤ i) (h1 : i < xs.length) : ∃ x, atI xs i = some x ∧ xs[i.toNat]? = some x := by
  have hk : i.toNat < xs.length := by omega
  refine ⟨xs[i.toNat], ?_, by simp [hk]⟩
  unfold atI ixN
  rw [if_pos h0, if_pos h1]
  simp [hk]
theorem atI_neg1 {α : Type} {xs : List α} {x : α} : atI (xs ++ [x]) (-1) = some x := by
  unfold atI ixN
  rw [if_neg (by decide), if_pos (by simp; omega)]
  have : (-1 + ((xs ++ [x]).length : Int)).toNat = xs.length := by simp; omega
  rw [Option.bind_some, this]
  simp
def ct0 : CTab := ⟨fun i => i, 0, []⟩
theorem get0n {w0 : U} {rest : List U} : getV (.lst (w0 :: rest)) (.int 0) = some w0 := @get0 ct0 _ _
theorem cut1n {w0 : U} {rest : List U} : sliceV (.lst (w0 :: rest)) (some 1) none = some (.lst rest) := @cut1 ct0 _ _
theorem lcL_mf {α : Type} {p : U → Option Bool} {f : U → Option U} {g : α → U} {q : α → Bool} {h : α → U} : ∀ (l : List α), (∀ a ∈ l, p (g a) = some (q a)) → (∀ a ∈ l, q a = true → f (g a) = some (h a)) → lcL p f (l.map g) = some ((l.filter q).map h)
  | [], _, _ => rfl
  | a :: l, hp, hf => by
    have ih := lcL_mf (p := p) (f := f) l (fun b hb => hp b (List.mem_cons_of_mem _ hb)) (fun b hb => hf b (List.mem_cons_of_mem _ hb))
    have h1 := hp a (List.mem_cons_self ..)
    rw [List.map_cons]
    unfold lcL
    rw [h1, Option.bind_some]
    cases hq : q a with
    | true =>
      rw [if_pos rfl, hf a (List.mem_cons_self ..) hq, Option.bind_some, ih, Option.map_some, List.filter_cons, hq]
      rfl
    | false =>
      rw [if_neg Bool.false_ne_true, ih, List.filter_cons, hq]
      rfl
theorem lcO_mf {α : Type} {p : U → Option Bool} {f : U → Option U} {g : α → U} {q : α → Bool} {h : α → U} (l : List α) (hl : l.length ≤ lim) (hp : ∀ a ∈ l, p (g a) = some (q a)) (hf : ∀ a ∈ l, q a = true → f (g a) = some (h a)) : lcO p f (l.map g) = some (.lst ((l.filter q).map h)) := by
  unfold lcO
  rw [if_pos (by rw [List.length_map]; exact hl), lcL_mf l hp hf]
  rfl
theorem lcO_map {α : Type} {f : U → Option U} {g : α → U} {h : α → U} (l : List α) (hl : l.length ≤ lim) (hf : ∀ a ∈ l, f (g a) = some (h a)) : lcO (fun _ => some true) f (l.map g) = some (.lst (l.map h)) := by
  have := lcO_mf (p := fun _ => some true) (q := fun _ => true) l hl (fun _ _ => rfl) (fun a ha _ => hf a ha)
  rwa [List.filter_eq_self.mpr (fun _ _ => rfl)] at this
theorem bools_map {α : Type} {p : α → Bool} : ∀ l : List α, bools (l.map fun a => U.bl (p a)) = some (l.map p)
  | [] => rfl
  | a :: l => by
    show (bools (l.map fun a => U.bl (p a))).map (fun r => p a :: r) = _
    rw [bools_map l]
    rfl
theorem all_map {α : Type} {p : α → Bool} (l : List α) : c1 allV [.lst (l.map fun a => U.bl (p a))] = some (.bl (l.all p)) := by
  show (bools _).map (fun bs => U.bl (bs.all id)) = _
  rw [bools_map, Option.map_some, List.all_map]
  rfl
theorem any_map {α : Type} {p : α → Bool} (l : List α) : c1 anyV [.lst (l.map fun a => U.bl (p a))] = some (.bl (l.any p)) := by
  show (bools _).map (fun bs => U.bl (bs.any id)) = _
  rw [bools_map, Option.map_some, List.any_map]
  rfl
theorem strsU_map : ∀ ss : List Str, strsU (ss.map U.str) = some ss
  | [] => rfl
  | s :: ss => by
    show (strsU (ss.map U.str)).map (fun r => s :: r) = _
    rw [strsU_map ss]
    rfl
theorem join_lst {a : Str} {ss : List Str} (h : (ss.map (·.length)).sum + ss.length * a.length ≤ 16777216) : joinV (.str a) (.lst (ss.map U.str)) = some (.str (Txt.join a ss)) := by
  show ((strsU (ss.map U.str)).bind fun ss => if (ss.map (·.length)).sum + ss.length * a.length ≤ 16777216 then some (U.str (Txt.join a ss)) else none) = _
  rw [strsU_map, Option.bind_some, if_pos h]
theorem joinL_length (S : List Nat) : ∀ ps : List (List Nat), (TL.joinL S ps).length ≤ (ps.map (·.length)).sum + ps.length * S.length
  | [] => by simp [TL.joinL]
  | [p] => by simp [TL.joinL]
  | p :: q :: r => by
    have ih := joinL_length S (q :: r)
    show (p ++ (S ++ TL.joinL S (q :: r))).length ≤ _
    simp only [List.length_append, List.map_cons, List.sum_cons, List.length_cons, Nat.add_mul, Nat.one_mul] at ih ⊢
    omega
theorem join_length (a : Str) (ss : List Str) : (Txt.join a ss).length ≤ (ss.map (·.length)).sum + ss.length * a.length := by
  have h := joinL_length (TL.tl a) (ss.map TL.tl)
  rw [TL.join_eq, TL.len_tl, TL.tl_join]
  simp only [List.map_map, List.length_map] at h
  have e : (ss.map ((fun x => x.length) ∘ TL.tl)) = ss.map (·.length) := by
    apply List.map_congr_left
    intro s _
    exact (TL.len_tl s).symm
  rw [e, ← TL.len_tl a] at h
  exact h
theorem mem_joinL {S : List Nat} {c : Nat} : ∀ {ps : List (List Nat)}, c ∈ TL.joinL S ps → c ∈ S ∨ ∃ p ∈ ps, c ∈ p
  | [], h => by cases h
  | [p], h => .inr ⟨p, List.mem_singleton.mpr rfl, h⟩
  | p :: q :: r, h => by
    have h : c ∈ p ++ (S ++ TL.joinL S (q :: r)) := h
    rcases List.mem_append.mp h with h | h
    · exact .inr ⟨p, List.mem_cons_self .., h⟩
    · rcases List.mem_append.mp h with h | h
      · exact .inl h
      · rcases mem_joinL h with h | ⟨x, hx, h⟩
        · exact .inl h
        · exact .inr ⟨x, List.mem_cons_of_mem _ hx, h⟩
end Dn
set_option Elab.async false
set_option linter.all false
set_option maxRecDepth 100000
set_option maxHeartbeats 2000000
set_option Elab.async false
set_option linter.all false
set_option maxRecDepth 100000
set_option maxHeartbeats 2000000
namespace Dn
open PySem PySem.Spec PyProof.Rows L2 PySem.SeqAt
variable [CTab]
def eqs (k : Str) (v : Value) : Bool := match v with
  | .str n _ => n == k
  | _ => false
theorem eqs_count {k : Str} : ∀ {us : List Value} {ns : List Str}, StrsAre us ns → us.countP (eqs k) = ns.count k
  | _, _, .nil => rfl
  | _, _, .cons n t h => by
    have ih := eqs_count (k := k) h
    rw [List.countP_cons, List.count_cons, ih] <;> rfl
theorem eqs_at {k : Str} {t : Tok} {A : Around} {s : Shared} : ∀ {us : List Value} {ns : List Str}, StrsAre us ns → ∀ y ∈ us, EqAt A s y (.str k t) (eqs k y)
  | _, _, .nil => fun y hy => by cases hy
  | _, _, .cons n t' h => fun y hy => by
    rcases List.mem_cons.mp hy with e | e
    · rw [e]
      exact EqAt.str_str n t' k t
    · exact eqs_at h y e
def rCntS (K : PySem.W.Frag) : V → List V → Hp → VK → Prop := fun x xs H Q => ∃ (p : Addr) (ns : List Str) (k : Str), x = .ref p ∧ xs = [.str k] ∧ SqL K H p (ns.map V.str) ∧ Q (.int (ns.count k : Nat)) H
section
variable {X : Cx}
theorem mt_lcountS : MtR X "list.count" (rCntS X.K) := by
  intro pins s σ H x xs v us Q I rx rxs h
  obtain ⟨p, ns, k, rfl, rfl, hs, q⟩ := h
  cases rx
  obtain ⟨u, rfl, ru⟩ := rxs.one
  obtain ⟨t, rfl⟩ := ru
  obtain ⟨its, rv, ⟨⟨cls, dd, data, sl⟩, n, ho, hc, hdn, hd⟩, hlen⟩ := I.list hs
  simp only at hc hd
  subst hc hd
  have hi := strs_of_vals rv
  refine call_meets PySem.F.slot_list_count ⟨_, ho, rfl⟩ PySem.F.entry_list_count (PySem.F.args_list_count_2 _ _)
    (SeqAt.list_countAt p its.toArray n dd sl (.str k t) (eqs k)) ⟨ho, fun y hy => eqs_at hi y (by simpa using hy), ?_⟩
  have ec : its.toArray.toList.countP (eqs k) = ns.count k := eqs_count hi
  refine ⟨.int (ns.count k : Nat), H, I.tok _, ⟨s.toks, ?_⟩, q⟩
  show Value.int ((its.toArray.toList.countP (eqs k) : Nat) : Int) s.toks = Value.int ((ns.count k : Nat) : Int) s.toks
  rw [ec]
theorem pe_countK {K : PySem.W.Frag} {o e : Expr} {es : List Expr} {apos cpos : Pos} {to : TE} {t : TA} (hK : X.K = K) (ho : PE X o to) (ha : PA X (e :: es) t) (hbase : attributeBase o "count" X.env (eval o X.env) = eval o X.env := by rfl)
    (hfew : ((backTo cpos (starEach (e :: es) X.env)).all (fun x => !x.1) && (backToKw cpos (keywordEach [] X.env)).all (fun x => x.1.isSome)
      && decide ((e :: es).length + ([] : List Keyword).length + (if ([] : List Keyword).isEmpty then 0 else 1) < 30)) = true := by rfl)
    (hline : (apos.endLine == cpos.line) = true := by rfl) (hs : starEach (e :: es) X.env = (false, eval e X.env) :: starEach es X.env := by rfl) (hplain : (backTo cpos (starEach es X.env)).any (·.1) = false := by rfl) :
    PE X (.Call (.Attribute o "count" apos) (e :: es) [] cpos) (tBM K "list" (rCntS K) to t) := hK ▸ pe_bm PySem.F.plainAttrs_list PySem.F.slot_list_count PySem.F.type_list_count mt_lcountS ho ha hbase hfew hline hs hplain
end
def countV : U → U → Option U
  | .lst xs, .str y => (strsU xs).map fun ss => .int (ss.count y : Nat)
  | .frl xs, .str y => (strsU xs).map fun ss => .int (ss.count y : Nat)
  | _, _ => none
section
variable {K : PySem.W.Frag} {σ : L2.St} {B H : Hp} {ta tb : TE} {oa ob : Option U}
theorem eo_count (ha : EvO ta σ B H oa) (hb : EvO tb σ B H ob) : EvO (tBM K "list" (rCntS K) ta (tCons tb tNil)) σ B H (op2 countV oa ob) := fun z e B1 H1 g Q q => by
  obtain ⟨x, ex, e⟩ := bind_some e
  obtain ⟨y, ey, e⟩ := bind_some e
  refine ha x ex B1 H1 g _ fun v B2 H2 g2 r2 => ?_
  cases r2 with
  | @lst a xs vs h r =>
    cases y with
    | str y =>
      obtain ⟨ss, es, e⟩ := map_some (show (strsU xs).map _ = some z from e)
      subst e
      have := r.strs es; subst this
      refine ⟨.inl ⟨rfl, _, SqL.of (g2.bh _ _ h)⟩, hb _ ey B2 H2 (g.trans g2) _ fun w B3 H3 g3 r3 => ?_⟩
      cases r3
      exact ⟨a, ss, y, rfl, rfl, SqL.of (g3.bh _ _ (g3.b _ _ h)), q _ B3 H3 (g2.trans g3) (.int _)⟩
    | _ => cases e
  | @frl a xs vs o h r =>
    cases y with
    | str y =>
      obtain ⟨ss, es, e⟩ := map_some (show (strsU xs).map _ = some z from e)
      subst e
      have := r.strs es; subst this
      refine ⟨.inl ⟨rfl, _, .inl (.inr ⟨o, g2.bh _ _ h⟩)⟩, hb _ ey B2 H2 (g.trans g2) _ fun w B3 H3 g3 r3 => ?_⟩
      cases r3
      exact ⟨a, ss, y, rfl, rfl, .inl (.inr ⟨o, g3.bh _ _ (g3.b _ _ h)⟩), q _ B3 H3 (g2.trans g3) (.int _)⟩
    | _ => cases e
  | _ => cases e
end
end Dn
set_option Elab.async false
set_option linter.all false
set_option maxRecDepth 100000
set_option maxHeartbeats 2000000
namespace Dn
open PySem PySem.Spec PyProof.Rows L2 PySem.SeqAt
variable [CTab]
def hitU (y u : U) : Bool := eqO dep u y == some true
def rTIdx : V → List V → Hp → VK → Prop := fun x ws H Q => ∃ (xs : List U) (y : U) (v : V) (a : Addr) (od : Obj) (vs : List V), ws = [v] ∧ x = .ref a ∧ H a = some (.frz od (.tup vs)) ∧ Rps H xs vs ∧ Rp H y v ∧ inO dep y xs = some true ∧ Q (.int (xs.findIdx (hitU y) : Nat)) H
theorem inO_def {n : Nat} {x : U} : ∀ {xs : List U} {b : Bool}, inO n x xs = some b → ∀ u ∈ xs, ∃ c, eqO n u x = some c
  | [], _, _, u, hu => nomatch hu
  | y :: ys, b, h, u, hu => by
    obtain ⟨a, ea, h⟩ := bind_some h
    obtain ⟨c, ec, h⟩ := map_some h
    rcases List.mem_cons.mp hu with e | e
    · subst e; exact ⟨a, ea⟩
    · exact inO_def ec u e
theorem inO_true {n : Nat} {x : U} : ∀ {xs : List U}, inO n x xs = some true → ∃ u ∈ xs, eqO n u x = some true
  | [], h => nomatch h
  | y :: ys, h => by
    obtain ⟨a, ea, h⟩ := bind_some h
    obtain ⟨c, ec, h⟩ := map_some h
    cases a with
    | true => exact ⟨y, List.mem_cons_self .., ea⟩
    | false =>
      have : c = true := by simpa using h
      subst this
      obtain ⟨u, hu, e⟩ := inO_true ec
      exact ⟨u, List.mem_cons_of_mem _ hu, e⟩
theorem rps_at {H : Hp} : ∀ {xs : List U} {vs : List V} {its : List Value}, Rps H xs vs → Vals vs its → ∀ (j : Nat) (p : Value), its[j]? = some p → ∃ u v, xs[j]? = some u ∧ Rp H u v ∧ RelV v p
  | _, _, _, .nil, .nil, j, p, h => by simp at h
  | _, _, _, .cons r t, .cons rv tv, 0, p, h => by
    simp at h; subst h
    exact ⟨_, _, rfl, r, rv⟩
  | _, _, _, .cons r t, .cons rv tv, j + 1, p, h => by
    simp only [List.getElem?_cons_succ] at h
    obtain ⟨u, v, e, r1, r2⟩ := rps_at t tv j p h
    exact ⟨u, v, by simpa using e, r1, r2⟩
theorem rps_len {H : Hp} : ∀ {xs : List U} {vs : List V} {its : List Value}, Rps H xs vs → Vals vs its → its.length = xs.length
  | _, _, _, .nil, .nil => rfl
  | _, _, _, .cons r t, .cons rv tv => by simp [rps_len t tv]
section
variable {X : Cx}
theorem mt_tidx (hu : X.A.units + 64 < cLine) : MtR X "tuple.index" rTIdx := by
  intro pins s σ H x ws v us Q I rx rxs h
  obtain ⟨xs, y, w, a, od, vs, rfl, rfl, hT, r, hy, hb, q⟩ := h
  · cases rx
    obtain ⟨u, rfl, ru⟩ := rxs.one
    obtain ⟨its, rv, pl, _⟩ := I.tuple (.inl (.inr ⟨od, hT⟩))
    obtain ⟨⟨cls, dd, dt, sl⟩, ho, hc, n, hd⟩ := pl
    simp only at hc hd
    subst hc hd
    obtain ⟨i1, i2⟩ := inO_any r rv hb
    have hlen := rps_len r rv
    obtain ⟨z, hz, ez⟩ := inO_true hb
    have hj : xs.findIdx (hitU y) < xs.length := List.findIdx_lt_length_of_exists ⟨z, hz, by simp [hitU, ez]⟩
    have hj2 : xs.findIdx (hitU y) < its.toArray.size := by rw [List.size_toArray, hlen]; exact hj
    have at_ : ∀ (m : Nat) (hm : m < its.toArray.size), ∃ c, eqO dep (xs[m]'(by rw [← hlen]; simpa using hm)) y = some c ∧ eqOf H dep y its.toArray[m] = c := fun m hm => by
      have hm2 : m < its.length := by simpa using hm
      obtain ⟨u1, v1, e1, r1, r2⟩ := rps_at r rv m its[m] (List.getElem?_eq_getElem hm2)
      have hm3 : m < xs.length := by omega
      have e2 : xs[m] = u1 := by rw [List.getElem?_eq_getElem hm3] at e1; exact Option.some.inj e1
      obtain ⟨c, ec⟩ := inO_def hb u1 (e2 ▸ List.getElem_mem hm3)
      refine ⟨c, by rw [e2]; exact ec, ?_⟩
      show eqOf H dep y its[m] = c
      exact eqOf_is r1 r2 ec
    refine call_meets PySem.F.slot_tuple_index ⟨_, ho, rfl⟩ PySem.F.entry_tuple_index (PySem.F.args_tuple_index_2 _ _) (TI.tuple_indexAt a its.toArray n dd sl u (eqOf H dep y) (xs.findIdx (hitU y)) hj2 ?_ ?_)
      ⟨ho, fun p hp => ?_, ⟨.int (xs.findIdx (hitU y) : Nat), H, I.tok _, ⟨_, rfl⟩, q⟩⟩
    · obtain ⟨c, e1, e2⟩ := at_ _ hj2
      have : hitU y xs[xs.findIdx (hitU y)] = true := List.findIdx_getElem
      rw [hitU, e1] at this
      rw [e2]
      simpa using this
    · intro m hm hmj
      obtain ⟨c, e1, e2⟩ := at_ m hm
      have : hitU y (xs[m]'(by omega)) = false := List.not_of_lt_findIdx hmj
      rw [hitU, e1] at this
      rw [e2]
      simpa using this
    · obtain ⟨u1, v1, c, r1, rv1, e1, e2⟩ := i2 p (by simpa using hp)
      rw [e2]
      refine eq_at e1 r1 hy rv1 ru (eq_rc I dep e1 r1 hy rv1 ru ?_).1
      show X.A.units + 1 + dep < cLine
      unfold dep; omega
/-- a method of a tuple made by the program -/
def tTM (r : V → List V → Hp → VK → Prop) (to : TE) (t : TA) : TE := fun σ H Q => to σ H fun x H1 => (∃ (p : Addr) (od : Obj) (vs : List V), x = .ref p ∧ H1 p = some (.frz od (.tup vs)) ∧ od.dict = none) ∧ t σ H1 fun xs H2 => r x xs H2 Q
theorem pe_tm {name : Str} {id : String} {r : V → List V → Hp → VK → Prop} {o e : Expr} {es : List Expr} {apos cpos : Pos} {to : TE} {t : TA} (slot : Slot "tuple" name id) (hty : typeOf (.builtin id) = pure (.type "method_descriptor")) (hm : MtR X id r) (ho : PE X o to) (ha : PA X (e :: es) t) (hbase : attributeBase o name X.env (eval o X.env) = eval o X.env := by rfl)
    (hfew : ((backTo cpos (starEach (e :: es) X.env)).all (fun x => !x.1) && (backToKw cpos (keywordEach [] X.env)).all (fun x => x.1.isSome)
      && decide ((e :: es).length + ([] : List Keyword).length + (if ([] : List Keyword).isEmpty then 0 else 1) < 30)) = true := by rfl)
    (hline : (apos.endLine == cpos.line) = true := by rfl) (hs : starEach (e :: es) X.env = (false, eval e X.env) :: starEach es X.env := by rfl) (hplain : (backTo cpos (starEach es X.env)).any (·.1) = false := by rfl) :
    PE X (.Call (.Attribute o name apos) (e :: es) [] cpos) (tTM r to t) := by
  constructor
  intro pins s σ H Q I h
  refine wpAny_Call_method_late hbase hfew hline rfl (thn (ho.run pins s σ H _ I h) ?_)
  rintro v s1 ⟨x, H1, I1, r1, ⟨p, od, vs, rfl, hp, hdn⟩, q1⟩
  cases r1
  obtain ⟨h0, _, its, _, ob, h1, hc, _⟩ := I1.hok p _ hp
  obtain rfl : od = ob := Option.some.inj (h0.symm.trans h1)
  refine ⟨"tuple", id, PySem.F.plainAttrs_tuple, slot, hty, ⟨od, h0, hc⟩, fun a ea => ?_, ?_⟩
  · cases ea
    exact ⟨od, h0, hdn⟩
  · have hA := ha.run cpos pins s1 σ H1 _ I1 q1
    rw [hs] at hA ⊢
    refine Calls.callWith_builtin ?_ (Calls.evalArgs_plain ?_)
    · change (false || (backTo cpos (starEach es X.env)).any (·.1)) = false
      rw [hplain]; rfl
    · exact thn hA fun us s2 ⟨ws, H2, I2, r2, q2⟩ => hm pins s2 σ H2 (.ref p) ws _ us Q I2 rfl r2 q2
end
end Dn
set_option Elab.async false
set_option linter.all false
set_option maxRecDepth 100000
set_option maxHeartbeats 2000000
namespace Dn
open PySem PySem.Spec PyProof.Rows L2
def rTupF (K : PySem.W.Frag) : List V → Hp → VK → Prop := fun xs H Q => ∃ (p : Addr) (ys : List V), xs = [.ref p] ∧ SqL K H p ys ∧ ∀ (l : Addr) (od : Obj), H l = none → od.dict = none → Q (.ref l) (upd H l (.frz od (.tup ys)))
section
variable {X : Cx}
theorem call_tupF {K : PySem.W.Frag} (hK : X.K = K) : CallR X (.type "tuple") (rTupF K) := by
  subst hK
  intro pins s σ H ws us Q I r h
  obtain ⟨p, ys, rfl, hq, q⟩ := h
  obtain ⟨_, rfl, rx⟩ := vals1 r
  cases rx
  obtain ⟨its, rr, pl, hz⟩ := I.list hq
  have ln := rr.length
  refine call_tuple_list pl.isList (fun h2 keep => ?_) (by simp only [List.size_toArray]; omega)
  have J : Inv X pins σ H { s with heap := h2 } := I.kept (t' := s.toks) keep
  have fr : H h2.objs.size = none := J.hok.fresh (Nat.le_refl _)
  refine ⟨.ref h2.objs.size, upd H h2.objs.size (.frz { cls := .type "tuple", data := .seq its.toArray } (.tup ys)), ?_, rfl, q _ _ fr rfl⟩
  exact J.laid (t' := s.toks) (fun b o e => Heap.get?_push_of_some _ e) (Nat.le_refl _) ⟨Heap.get?_push_size _ rfl, hz, its, rr, IsTup.new _ _⟩
end
end Dn
set_option Elab.async false
set_option linter.all false
set_option maxRecDepth 100000
set_option maxHeartbeats 2000000
namespace Dn
open PySem PySem.Spec PyProof.Rows L2
variable [CTab]
def tidxV : U → U → Option U
  | .tpd xs, y => (inO dep y xs).bind fun b => if b = true then some (.int (xs.findIdx (hitU y) : Nat)) else none
  | _, _ => none
theorem eo_tidx {σ : L2.St} {B H : Hp} {ta tb : TE} {oa ob : Option U} (ha : EvO ta σ B H oa) (hb : EvO tb σ B H ob) : EvO (tTM rTIdx ta (tCons tb tNil)) σ B H (op2 tidxV oa ob) := fun z e B1 H1 g Q q => by
  obtain ⟨x, ex, e⟩ := bind_some e
  obtain ⟨y, ey, e⟩ := bind_some e
  refine ha x ex B1 H1 g _ fun v B2 H2 g2 r2 => ?_
  cases r2 with
  | @tpd a xs vs o h hd r =>
    obtain ⟨b, eb, e⟩ := bind_some (show (inO dep y xs).bind _ = some z from e)
    split at e
    · rename_i hb1
      cases e
      subst hb1
      refine ⟨⟨a, o, vs, rfl, g2.bh _ _ h, hd⟩, hb _ ey B2 H2 (g.trans g2) _ fun w B3 H3 g3 r3 => ?_⟩
      exact ⟨xs, y, w, a, o, vs, rfl, rfl, g3.bh _ _ (g3.b _ _ h), (r.up g3).in g3.bh, r3.in g3.bh, eb, q _ B3 H3 (g2.trans g3) (.int _)⟩
    · cases e
  | _ => cases e
end Dn
set_option Elab.async false
set_option linter.all false
set_option maxRecDepth 100000
set_option maxHeartbeats 2000000
namespace Dn
open PySem PySem.Spec PyProof.Rows L2
section
variable {prog : Program} {w : World} {A : Around} {E : Value → Shared → Prop} {s : Shared} {K : Type} [DecidableEq K] {knd : KeyKind prog w K} {kvs : List (K × Value)} {r d : Addr} {ep : Nat}
theorem code_tuple_new_items {Q₁ : Value → Shared → Prop} (hh : A.handled = none) (hv : s.heap.IsItemsView r d) (hm : s.heap.DictAt knd d kvs ep) (hn : kvs.length ≤ sizeLine)
    (h : ∀ (h' : Heap) (tk : Nat) (as : List Addr), (∀ b o, s.heap.get? b = some o → h'.get? b = some o) → as.length = kvs.length → PySem.W.KdxG knd kvs s.heap.objs.size h' as →
      Q₁ (.ref h'.objs.size) { s with heap := h'.push { cls := .type "tuple", data := .seq (as.map Value.ref).toArray }, toks := tk }) :
    codeAny (model prog w) A (.call (.builtin "tuple.__new__") ⟨[.type "tuple", .ref r], []⟩) (wants Q₁ E) s := by
  refine codeAny_of_tree ?_
  show wpAny _ A.in1 (do checkBuiltinCall "tuple.__new__" ⟨[.type "tuple", .ref r], []⟩; again (.builtin "tuple.__new__" ⟨[.type "tuple", .ref r], []⟩)) _ _ s
  refine wpAny_bind (wpAny_of_eq (F.newCall_tuple_1 _) (wpAny_pure ⟨plainId_quiet F.plain_tuple_new _, codeAny_builtin F.entry_tuple_new ?_⟩))
  rw [Around.under_plainId F.plain_tuple_new _]
  have hsub := sub_tuple_self
  have hinit := init_tuple_lookup
  have hmh := madeHere_tuple
  have hTI : s.TypeIs (.ref r) "dict_items" := by
    obtain ⟨o, ho, hc, _⟩ := hv
    exact ⟨o, ho, hc⟩
  have hh1 : A.in1.handled = none := hh
  wp_walk using wpAny_typeOf hTI, PySem.W.kdx_collect (A := A.in1) hh1 hv hm hn
  intro h' tk as hk hl hG
  show wpAny _ _ (Builtin.Tuple.tupleExact (as.map Value.ref).toArray >>= fun v => ret v) _ _ _
  unfold Builtin.Tuple.tupleExact
  refine wpAny_bind (wpAny_newObj_type ?_ (by show (as.map Value.ref).toArray.size ≤ sizeLine; simp only [List.size_toArray, List.length_map]; omega))
  refine wpAny_pure ?_
  exact h h' tk as hk hl hG
theorem call_tuple_items {Q : Value → Shared → Prop} (hh : A.handled = none) (hv : s.heap.IsItemsView r d) (hm : s.heap.DictAt knd d kvs ep) (hn : kvs.length ≤ sizeLine)
    (hQ : ∀ (h' : Heap) (tk : Nat) (as : List Addr), (∀ b o, s.heap.get? b = some o → h'.get? b = some o) → as.length = kvs.length → PySem.W.KdxG knd kvs s.heap.objs.size h' as →
      Q (.ref h'.objs.size) { s with heap := h'.push { cls := .type "tuple", data := .seq (as.map Value.ref).toArray }, toks := tk }) :
    wpAny (model prog w) A (call (.type "tuple") [.ref r]) Q E s := by
  refine callType_codes (Q₁ := fun obj s₁ => s₁.TypeIs obj "tuple" ∧ Q obj s₁) F.called_tuple (F.typeCall_tuple_1 _) F.entry_object_init
    (code_tuple_new_items (A := A.in1) hh hv hm hn fun h' tk acc hk hl hG => ⟨⟨_, Heap.get?_push_size _ rfl, rfl⟩, hQ h' tk acc hk hl hG⟩) fun obj s₁ h₁ => ?_
  exact ⟨h₁.1, F.args_object_init_2 obj _, object_init_meets F.called_tuple.init.lookup F.called_tuple.made (by decide) prog w A.in1 _ s₁ ⟨h₁.1, rfl, h₁.2⟩⟩
end
section
variable {X : Cx} {e : Expr} {te : TE} {p apos cpos pos : Pos}
theorem pairs_laid {pins : List (Addr × Obj)} {σ : L2.St} {H : Hp} {s : Shared} {h' : Heap} {tk : Nat} {kvs : List (Key × V)} {vs : List (Key × Value)} {lo : Nat} {as : List Addr} (I : Inv X pins σ H s) (kv : KV kvs vs)
    (hlo : s.heap.objs.size ≤ lo) (hk : ∀ b o, s.heap.get? b = some o → h'.get? b = some o) (hl : as.length = vs.length) (hG : PySem.W.KdxG (mixKind X.prog X.w) vs lo h' as) :
    (∀ b o, H b = some o → LiI.putT H as kvs b = some o) ∧ (∀ t ∈ as, H t = none) ∧ Paired (fun (t : Addr) (q : Key × V) => LiI.putT H as kvs t = some (.tup [kV q.1, q.2])) as kvs ∧ Inv X pins σ (LiI.putT H as kvs) { s with heap := h', toks := tk } := by
  have lk : kvs.length = vs.length := Paired.length kv
  have nd : as.Nodup := List.Pairwise.imp (fun {a b} (h : a < b) => Nat.ne_of_lt h) hG.rise
  have ab : ∀ t ∈ as, s.heap.objs.size ≤ t := fun t ht => Nat.le_trans hlo (Nat.le_of_lt (hG.above t ht))
  have new : ∀ t ∈ as, H t = none := fun t ht => I.hok.fresh (ab t ht)
  have atP := LiI.putT_at as kvs H (by omega) nd
  have low : ∀ b o, s.heap.get? b = some o → b ∉ as := fun b o e z => absurd (Heap.lt_size e) (Nat.not_lt.mpr (ab b z))
  have kp : ∀ b u, H b = some u → (LiI.putT H as kvs) b = some u := fun b u e => by
    rw [LiI.putT_off as kvs _ (fun z => by rw [new b z] at e; cases e)]
    exact e
  refine ⟨kp, new, atP, ?_⟩
  refine I.call' (ch := []) rfl ⟨fun b o q _ _ _ => hk b o q, fun b o q _ _ _ => ⟨o.slots, hk b o q⟩, fun b o q n _ => ?_, fun b o q _ => ⟨o, hk b o q⟩, fun b xs q => kp b _ q, fun b o u q => kp b _ q, fun b ps q => ⟨#[], by rw [kp b _ q]; simp⟩⟩ (fun b u q => ?_) I.bare fun b z => by simp at z
  · rw [LiI.putT_off as kvs _ (low b o q)]
    exact n
  · by_cases hb : b ∈ as
    · obtain ⟨j, pk, e1, e2, e3⟩ := LiI.paired_ix atP hb
      rw [e3] at q
      cases q
      obtain ⟨key, k, x, f1, f2, f3⟩ := hG.pairs j b e1
      obtain ⟨qv, g1, g2, g3⟩ := LiI.paired_get kv e2
      rw [f1] at g1
      cases g1
      have rk : RelV (kV pk.1) key := by
        rw [g2]
        exact relV_key (show keyIs k key = true from f2)
      exact ⟨by show 2 ≤ sizeLine; decide, [key, x], .cons rk (.cons g3 .nil), ⟨_, f3, rfl, _, rfl⟩⟩
    · rw [LiI.putT_off as kvs _ hb] at q
      exact (I.hok b u q).stay (fun d v _ y => hk d v y) (fun d y => kp d _ y) fun d xs y => kp d _ y
def rItemsT2 : V → Hp → VK → Prop := fun x H Q => ∃ (d : Addr) (o : Obj) (kvs : List (Key × V)), x = .ref d ∧ H d = some (.frz o (.dK kvs)) ∧
  ∀ (H' : Hp) (p : Addr) (ts : List Addr), (∀ b o, H b = some o → H' b = some o) → (∀ b, b ∉ p :: ts → H' b = H b) → H p = none → (∀ t ∈ ts, H t = none) → p ∉ ts → H' p = some (.tup (ts.map V.ref)) → Paired (fun (t : Addr) (q : Key × V) => H' t = some (.tup [kV q.1, q.2])) ts kvs → Q (.ref p) H'
def tTupItems (te : TE) : TE := fun σ H Q => te σ H fun x H1 => rItemsT2 x H1 Q
theorem pe_tupItems (hc : X.calm = true) (he : PE X e te) (hg : Gl X "tuple") (hm : X.mg "tuple" = none) (hv : bootBuiltins "tuple" = some (.type "tuple")) (hbase : attributeBase e "items" X.env (eval e X.env) = eval e X.env := by rfl) (hline : (apos.endLine == cpos.line) = true := by rfl)
    (hs : starEach [.Call (.Attribute e "items" apos) [] [] cpos] X.env = (false, eval (.Call (.Attribute e "items" apos) [] [] cpos) X.env) :: starEach [] X.env := by rfl) :
    PE X (.Call (.Name "tuple" p) [.Call (.Attribute e "items" apos) [] [] cpos] [] pos) (tTupItems te) := by
  refine ⟨fun pins s σ H Q I hq => ?_⟩
  refine wpAny_Call_Name_kw (ld_blt I hg hm hv ?_)
  refine PyProof.Rows.callWith_type1 ?_ hs rfl
  rw [hs]
  show wpAny _ _ (spliced ((false, eval (.Call (.Attribute e "items" apos) [] [] cpos) X.env) :: backTo pos (starEach [] X.env))) _ _ s
  refine Calls.spliced_cons ?_
  refine wpAny_Call_method (T := "dict") (id := "dict.items") hbase rfl hline F.plainAttrs_dict F.slot_dict_items F.type_dict_items (thn (he.run pins s σ H _ I hq) fun u s1 ⟨x, H1, I1, rx, d, o, kvs, ex, hd, q⟩ => ?_)
  subst ex
  obtain rfl : u = Value.ref d := rx
  obtain ⟨hs0, hgd, hx, es, ep, vs, hdt, hsz, kv, hat⟩ := I1.frzK hd
  have hdo := hat.dictOf
  have hz : kvs.length ≤ sizeLine := by
    obtain ⟨_, z, _⟩ := I1.hok d _ hd
    exact z
  have lk : kvs.length = vs.length := Paired.length kv
  have I2 : Inv X pins σ H1 { s1 with heap := s1.heap.push { cls := .type "dict_items", data := .fields #[.ref d] } } := I1.kept (t' := s1.toks) fun b ob q => Heap.get?_push_of_some _ q
  refine ⟨hdo.typeIs, hdo.mapOf.noDict, ?_⟩
  show wpAny _ _ (callWith cpos (.builtin "dict.items") [.ref d] [] []) _ X.xe s1
  refine method_meetsIn F.slot_dict_items F.entry_dict_items rfl (PySem.evalArgs_none ⟨rfl, hdo.typeIs, F.args_dict_items_1 _, _, meets_dict_items (mixKind X.prog X.w) d hs0, ⟨vs, hdo⟩, ?_⟩)
  refine Calls.spliced_nil ?_
  refine call_tuple_items (knd := mixKind X.prog X.w) (kvs := vs) (ep := ep) (I1.ok.hd hc) ⟨_, Heap.get?_push_size _ rfl, rfl, rfl⟩ (hat.push _) (by omega) fun h' tk as hk hl hG => ?_
  obtain ⟨k1, k2, k3, J⟩ := pairs_laid (tk := tk) I2 kv (Nat.le_refl _) hk hl hG
  have fr : LiI.putT H1 as kvs h'.objs.size = none := J.hok.fresh (Nat.le_refl _)
  have hp : h'.objs.size ∉ as := fun z => Nat.lt_irrefl _ (hG.there z)
  have frH : H1 h'.objs.size = none := by rw [← LiI.putT_off as kvs H1 hp]; exact fr
  have J2 : Inv X pins σ (upd (LiI.putT H1 as kvs) h'.objs.size (.tup (as.map V.ref))) { s1 with heap := h'.push { cls := .type "tuple", data := .seq (as.map Value.ref).toArray }, toks := tk } :=
    J.laid (t' := tk) (fun b o e => Heap.get?_push_of_some _ e) (Nat.le_refl _) (show ObjOk X.prog X.w _ _ _ (.tup (as.map V.ref)) from ⟨by rw [List.length_map]; omega, as.map Value.ref, LiI.vals_refs as, IsTup.new _ _⟩)
  refine ⟨.ref h'.objs.size, _, J2, rfl, q _ _ as (fun b o e => ?_) (fun b hb => by rw [upd_ne (fun z => hb (by rw [z]; exact List.mem_cons_self ..)), LiI.putT_off as kvs _ (fun z => hb (List.mem_cons_of_mem _ z))]) frH k2 hp upd_same ?_⟩
  · rw [upd_ne (fun z => by rw [z, frH] at e; cases e)]; exact k1 b o e
  · have : ∀ {ts : List Addr} {qs : List (Key × V)}, (∀ t ∈ ts, t ≠ h'.objs.size) → Paired (fun (t : Addr) (q : Key × V) => LiI.putT H1 as kvs t = some (.tup [kV q.1, q.2])) ts qs → Paired (fun (t : Addr) (q : Key × V) => upd (LiI.putT H1 as kvs) h'.objs.size (.tup (as.map V.ref)) t = some (.tup [kV q.1, q.2])) ts qs := by
      intro ts qs hne P
      induction P with
      | nil => exact .nil
      | cons h t ih => exact .cons (by rw [upd_ne (hne _ (List.mem_cons_self ..))]; exact h) (ih fun t ht => hne t (List.mem_cons_of_mem _ ht))
    exact this (fun t ht z => hp (z ▸ ht)) k3
end
variable [CTab]
noncomputable def lay (L : List Addr) (H B : Hp) : Hp := fun a => if a ∈ L then H a else B a
theorem lay_in {L : List Addr} {H B : Hp} {a : Addr} (h : a ∈ L) : lay L H B a = H a := by simp [lay, h]
theorem lay_out {L : List Addr} {H B : Hp} {a : Addr} (h : a ∉ L) : lay L H B a = B a := by simp [lay, h]
theorem Ok.grow {B H H' : Hp} {L : List Addr} (s : Ok B H) (hk : ∀ b o, H b = some o → H' b = some o) (hout : ∀ b, b ∉ L → H' b = H b) (hn : ∀ b ∈ L, ∀ u, H' b = some u → NT u) : Ok (lay L H' B) H' :=
  ⟨fun b u e => by
    by_cases hb : b ∈ L
    · rw [lay_in hb] at e; exact e
    · rw [lay_out hb] at e; exact hk _ _ (s _ _ e), fun b u e => by
    by_cases hb : b ∈ L
    · rw [lay_in hb] at e; exact hn b hb u e
    · rw [lay_out hb] at e; exact s.nt b u e, s.tb.ext hk, fun b ps e => by
    by_cases hb : b ∈ L
    · exact absurd rfl (nt_ne (hn b hb _ e) (ps := ps))
    · rw [hout b hb] at e; exact s.ot b ps e⟩
def itemsV : U → Option U
  | .dic kvs => some (.tup (kvs.map fun kv => .tup [kU kv.1, kv.2]))
  | _ => none
theorem rps_pairs {B2 : Hp} : ∀ {kvs : List (Key × U)} {es : List (Key × V)} {ts : List Addr}, Rpk B2 kvs es → Paired (fun (t : Addr) (q : Key × V) => B2 t = some (.tup [kV q.1, q.2])) ts es → Rps B2 (kvs.map fun kv => U.tup [kU kv.1, kv.2]) (ts.map V.ref)
  | _, _, _, .nil, .nil => .nil
  | _, _, _, .cons r t, .cons h q => .cons (.tup h (.cons (rp_key _) (.cons r .nil))) (rps_pairs t q)
theorem eo_tupItems {σ : L2.St} {B H : Hp} {te : TE} {oa : Option U} (ha : EvO te σ B H oa) : EvO (tTupItems te) σ B H (oa.bind itemsV) := fun z e B1 H1 g Q q => by
  obtain ⟨x, ex, e⟩ := bind_some e
  refine ha x ex B1 H1 g _ fun v B2 H2 g2 r2 => ?_
  cases r2 with
  | @dic a kvs es o h r =>
    cases e
    refine ⟨a, o, es, rfl, g2.bh _ _ h, fun H' p ts hk hout hp hts hpt hH hP => ?_⟩
    have gn : Go B2 H2 (lay (p :: ts) H' B2) H' := by
      refine ⟨fun b u e _ => hk b u e, fun b e => ?_, fun b u e => ?_, g2.bh.grow hk hout (fun b hb u e => ?_), fun b u e => ?_⟩
      · cases q0 : H2 b with
        | none => rfl
        | some u => rw [hk b u q0] at e; cases e
      · rw [lay_out (fun z => by
          have : H2 b = none := by
            rcases List.mem_cons.mp z with z | z
            · rw [z]; exact hp
            · exact hts b z
          rw [g2.bh b u e] at this; cases this)]
        exact e
      · rcases List.mem_cons.mp hb with z | z
        · rw [z, hH] at e; cases e; rfl
        · have : ∀ {as : List Addr} {qs : List (Key × V)}, Paired (fun (t : Addr) (q : Key × V) => H' t = some (.tup [kV q.1, q.2])) as qs → b ∈ as → NT u := by
            intro as qs P hm
            induction P with
            | nil => cases hm
            | cons h t ih =>
              rcases List.mem_cons.mp hm with rfl | hm
              · rw [h] at e; cases e; rfl
              · exact ih hm
          exact this hP z
      · by_cases hb : b ∈ p :: ts
        · right
          rcases List.mem_cons.mp hb with z | z
          · rw [z]; exact hp
          · exact hts b z
        · rw [lay_out hb] at e; exact .inl e
    refine q _ _ _ (g2.trans gn) (.tup (by rw [lay_in (List.mem_cons_self ..)]; exact hH) ?_)
    refine rps_pairs (r.kp (Kp.of gn.b)) ?_
    have : ∀ {as : List Addr} {qs : List (Key × V)}, (∀ t ∈ as, t ∈ p :: ts) → Paired (fun (t : Addr) (q : Key × V) => H' t = some (.tup [kV q.1, q.2])) as qs → Paired (fun (t : Addr) (q : Key × V) => lay (p :: ts) H' B2 t = some (.tup [kV q.1, q.2])) as qs := by
      intro as qs hne P
      induction P with
      | nil => exact .nil
      | cons h t ih => exact .cons (by rw [lay_in (hne _ (List.mem_cons_self ..))]; exact h) (ih fun t ht => hne t (List.mem_cons_of_mem _ ht))
    exact this (fun t ht => List.mem_cons_of_mem _ ht) hP
  | _ => cases e
end Dn
set_option Elab.async false
set_option linter.all false
set_option maxRecDepth 100000
set_option maxHeartbeats 2000000
namespace Dn
open PySem PySem.Spec PyProof.Rows L2
/-- what the heap part tells of a class with its own ==, str, repr -/
structure OwnC (K : PySem.W.Frag) (C : Addr) : Prop where
  cls : Cls K C
  ha : PySem.W.findIn K (.ref C) "__class__" = some (some (.builtin "object.__class__"))
  hn : PySem.W.specialIn K (.builtin "object.__class__") "__get__" = some (some (.builtin "getset_descriptor.__get__"))
  htk : PySem.W.takesIn K (.builtin "object.__class__") = some true
  hm : PySem.W.mroIn K C (.type "object") = some true
  ne : PySem.W.findIn K (.ref C) "__ne__" = some (some (.builtin "object.__ne__"))
  bo : PySem.W.findIn K (.ref C) "__bool__" = some none
  le : PySem.W.findIn K (.ref C) "__len__" = some none
  tt : PySem.W.typeIn K (.ref C) = some (.type "type")
/-- the types that may stand on the right -/
def baseTy (t : String) : Prop := t ∈ ["NoneType", "bool", "int", "str", "list", "tuple", "dict"]
theorem sub_base (K : PySem.W.Frag) (C : Addr) {t : String} (h : baseTy t) : PySem.W.subIn K (.type t) (.ref C) = some false := by
  simp only [baseTy, List.mem_cons, List.not_mem_nil, or_false] at h
  rcases h with rfl | rfl | rfl | rfl | rfl | rfl | rfl <;> rfl
section
variable {K : PySem.W.Frag} {H : Hp} {C : Addr}
inductive TyR (K : PySem.W.Frag) (H : Hp) (C : Addr) : V → Value → Prop
  | base {v : V} {t : String} : TyX K H v (.type t) → baseTy t → TyR K H C v (.type t)
  | own {v : V} : TyX K H v (.ref C) → TyR K H C v (.ref C)
theorem TyR.tyx {v : V} {t : Value} (h : TyR K H C v t) : TyX K H v t := by
  cases h with
  | base h _ => exact h
  | own h => exact h
theorem TyR.first {v : V} {t : Value} (h : TyR K H C v t) : PySem.W.notFirst K C t = true := by
  unfold PySem.W.notFirst
  cases h with
  | base h b => rw [sub_base K C b]; simp
  | own h => simp
end
section
variable {X : Cx} {CX : CXT} {k : Nat} {C f : Addr} {fd : FuncData} {ps : List Str} {sp : Sp} {E : XK}
/-- a def called by values somewhere below -/
theorem own_call {A : Around} {pins : List (Addr × Obj)} {σ : L2.St} {H : Hp} {s : Shared} {vs : List V} {us : List Value} {Q : VK} (F : FnOk X.prog X.w X.K X.mg X.base CX k f fd ps sp) (sb : Sub X k A) (I : Inv X pins σ H s)
    (hb : Binds X.K fd ps []) (hx : Passes CX X E) (r : Vals vs us) (h : sp vs H Q E) : wpAny (model X.prog X.w) A (call (.ref f) us) (EP X pins σ Q) X.xe s := by
  have e0 : Env0 X.prog X.w X.K X.mg X.base A X.stack s H := by
    have e := I.env0
    exact ⟨by rw [sb.fr]; exact e.frames, e.mod, e.bs, e.bsz, e.funs, e.frf, e.hok, e.bare⟩
  have hl := F.len _ _ _ _ h
  refine wpAny_call (codeAny_mono (F.run A X.stack s H ⟨us, []⟩ us vs Q E sb.room e0 (by
    have := hb s us I.kIn (by simp only [List.append_nil]; rw [← r.length]; exact hl)
    simpa using this) r h) fun r s' hq => ?_)
  cases r with
  | error e => exact hx pins σ H s e s' I hq
  | ok fl =>
    cases fl with
    | ret w => exact I.after hq
    | next => exact False.elim hq
    | brk => exact False.elim hq
    | cont => exact False.elim hq
/-- str(x), repr(x) by x's own -/
def rOwnTx (C : Addr) (sp : Sp) (E : XK) : List V → Hp → VK → Prop := fun xs H Q => ∃ a dx fs, xs = [.ref a] ∧ H a = some (.ins C dx fs) ∧ sp [.ref a] H (fun r H' => ∃ b, r = .str b ∧ Q (.str b) H') E
theorem call_ownStr {K : PySem.W.Frag} (hK : X.K = K) (F : FnOk X.prog X.w X.K X.mg X.base CX k f fd ps sp) (hr : Room (k + 2) X.A) (hs : PySem.W.findIn K (.ref C) "__str__" = some (some (.ref f))) (hf : PySem.W.isFn K (.ref f) = true) (hb : Binds K fd ps []) (hx : Passes CX X E) :
    CallR X (.type "str") (rOwnTx C sp E) := by
  subst hK
  intro pins s σ H xs us Q I r h
  obtain ⟨a, dx, fs, rfl, ha, h⟩ := h
  obtain rfl := Vals.ref1 r
  obtain ⟨mA, J, _⟩ := ins_get I.hok ha
  obtain ⟨od, J, _⟩ := J.look
  refine PySem.W.kso_call (by have := hr.in1.in1.units0; exact this) I.kIn J hs hf ?_
  refine wpAny_mono (own_call F (Sub.in1 (Sub.in1 ⟨hr, rfl⟩)) I hb hx (.cons (show RelV (V.ref a) (Value.ref a) from rfl) .nil) h) (fun r s' z => ?_) fun _ _ e => e
  obtain ⟨rv, H', I', rr, b, rfl, q⟩ := z
  obtain ⟨t, rfl⟩ := rr
  exact ⟨.str b, H', I', ⟨t, rfl⟩, q⟩
end
end Dn
set_option Elab.async false
set_option linter.all false
set_option maxRecDepth 100000
set_option maxHeartbeats 2000000
namespace Dn
open PySem PySem.Spec PyProof.Rows L2
variable [CTab]
section
variable {σ : L2.St} {B H : Hp} {K : PySem.W.Frag} {ta te : TE} {tk : TA} {oa : Option U} {E : XK} {c : Nat} {m : List U → Option U}
/-- a property -/
def propV (c : Nat) (m : List U → Option U) : U → Option U
  | .obj d fs => if d = c then m [.obj d fs] else none
  | _ => none
theorem eo_prop (h : EvO ta σ B H oa) : EvO (tProp (CTab.ct c) (spU m) [] E ta) σ B H (op1 (propV c m) oa) := fun z e B1 H1 g Q q => by
  obtain ⟨x, ex, e⟩ := bind_some e
  refine h x ex B1 H1 g _ fun v B2 H2 g2 r => ?_
  cases r with
  | @obj a dx D fs es h1 h2 r =>
    have e2 : (if D = c then m [.obj D fs] else none) = some z := e
    clear e
    split at e2
    · rename_i hD
      subst hD
      exact ⟨a, dx, es, rfl, g2.bh _ _ h1, B2, _, z, g2.bh, .cons (Rp.obj h1 h2 r) .nil, e2, fun v B3 H3 g3 r3 => q v B3 H3 (g2.trans g3) r3⟩
    · cases e2
  | _ => cases e
theorem call_isiO {X : Cx} (hK : X.K = K) : CallR X (.builtin "isinstance") (rIsi K) := hK ▸ call_isi
def U.asS : U → Option Str
  | .str s => some s
  | _ => none
def ownTxV (c : Nat) (m : List U → Option U) : U → Option U
  | .obj d fs => if d = c then (m [.obj d fs]).bind fun r => r.asS.map U.str else none
  | _ => none
theorem rc_ownTx : RC (rOwnTx (CTab.ct c) (spU m) E) (c1 (ownTxV c m)) := rc_one c1_one fun x z e v B H s rx Q q => by
  cases rx with
  | @obj a dx D fs es h1 h2 r =>
    have e5 : (if D = c then (m [.obj D fs]).bind fun r => r.asS.map U.str else none) = some z := e
    clear e
    split at e5
    · rename_i hD
      subst hD
      obtain ⟨rr, er, e⟩ := bind_some e5
      obtain ⟨b, eb, e⟩ := map_some e
      subst e
      refine ⟨a, dx, es, rfl, s _ _ h1, B, [.obj D fs], rr, s, .cons (.obj h1 h2 r) .nil, er, fun v2 B2 H2 g2 r2 => ?_⟩
      cases rr <;> cases eb
      cases r2
      exact ⟨_, rfl, q _ B2 H2 g2 (.str _)⟩
    · cases e5
  | _ => cases e
end
section
variable {σ : L2.St} {B H : Hp} {K : PySem.W.Frag}
theorem eo_lc2t {wi wi1 : TI} {tt tt1 : TT} {te : TE} {vs vs1 : List Nat} {j j' j1 : Nat} {oxs : Option (List U)} {p : U → U → Option Bool} {ys : U → U → Option (List U)} {p1 f : U → U → U → Option _} (hi : EvI wi σ B H oxs)
    (hw : ∀ x y, wipe (((wipe σ vs).set j (some x)).set j' (some y)) vs = wipe σ vs) (hw1 : ∀ x y z, wipe ((wipe (((wipe σ vs).set j (some x)).set j' (some y)) vs1).set j1 (some z)) vs1 = wipe (((wipe σ vs).set j (some x)).set j' (some y)) vs1)
    (hp : ∀ a b v w B1 H1, At B B1 H1 → Rp B1 a v → Rp B1 b w → EvT tt (((wipe σ vs).set j (some v)).set j' (some w)) B1 H1 (p a b)) (hy : ∀ a b v w B1 H1, At B B1 H1 → Rp B1 a v → Rp B1 b w → EvI wi1 (((wipe σ vs).set j (some v)).set j' (some w)) B1 H1 (ys a b))
    (hp1 : ∀ a b v w u' v' B1 H1, At B B1 H1 → Rp B1 a v → Rp B1 b w → Rp B1 u' v' → EvT tt1 ((wipe (((wipe σ vs).set j (some v)).set j' (some w)) vs1).set j1 (some v')) B1 H1 (p1 a b u'))
    (hf : ∀ a b v w u' v' B1 H1, At B B1 H1 → Rp B1 a v → Rp B1 b w → Rp B1 u' v' → EvO te ((wipe (((wipe σ vs).set j (some v)).set j' (some w)) vs1).set j1 (some v')) B1 H1 (f a b u')) :
    EvO (tLc2 wi (gTup K 2 (gCons (gName j) (gCons (gName j') gNil))) tt wi1 (gName j1) tt1 te vs vs1) σ B H
      (compOO (fun u => (unp2 u).bind fun ab => p ab.1 ab.2) (fun u => (unp2 u).bind fun ab => ys ab.1 ab.2) (fun u u' => (unp2 u).bind fun ab => p1 ab.1 ab.2 u') (fun u u' => (unp2 u).bind fun ab => f ab.1 ab.2 u') oxs) :=
  eo_lc2G hi fun u v B1 H1 Q b g r eb k => by
    obtain ⟨⟨x, y⟩, eu, eb⟩ := bind_some eb
    refine g_two g.bh r eu fun a' b' ra rb => k _ (hw a' b') (by rw [← eb]; exact hp x y a' b' B1 H1 g ra rb) fun _ => ⟨by rw [eu]; exact hy x y a' b' B1 H1 g ra rb, fun u' v' B2 H2 Q' bb g' r' eb' k' => ?_⟩
    have gg : At B B2 H2 := g.tr g'
    rw [eu] at eb'
    refine k' _ (hw1 a' b' v') (by rw [← eb']; exact hp1 x y a' b' u' v' B2 H2 gg (ra.upA g') (rb.upA g') r') fun _ => ?_
    rw [eu]
    exact hf x y a' b' u' v' B2 H2 gg (ra.upA g') (rb.upA g') r'
end
def U.vals : U → Option (List U)
  | .dic kvs => some (kvs.map fun kv => kv.2)
  | _ => none
theorem ei_vals {σ : L2.St} {B H : Hp} {tl : TE} {oa : Option U} (h : EvO tl σ B H oa) : EvI (iVals tl) σ B H (oa.bind U.vals) := fun xs e B1 H1 g R q => by
  obtain ⟨x, ex, e⟩ := bind_some e
  refine h x ex B1 H1 g _ fun v B2 H2 g2 r => ?_
  cases r with
  | @dic a kvs es o h r =>
    cases e
    refine ⟨a, o, es, rfl, g2.bh _ _ h, q _ B2 H2 g2 ⟨fun i H' hi s => ?_, fun H' s => ?_, fun i H' x H'' B' hi s1 s2 y => ?_⟩⟩
    · rw [List.length_map, ← r.length] at hi
      exact ⟨s _ _ h, hi⟩
    · rw [List.length_map, ← r.length]
      exact ⟨s _ _ h, Nat.le_refl _⟩
    · obtain ⟨e1, k, e2⟩ := y
      subst e1
      obtain ⟨x, ex, rx⟩ := r.at e2
      exact ⟨B', x, Go.refl s2, by simp [ex], rx.kp (Kp.of s1)⟩
  | _ => cases e
def rEmp (neg : Bool) : R2 := fun x y H Q => ∃ (d p : Addr) (o : Obj) (kvs : List (Key × V)), x = .ref d ∧ y = .ref p ∧ H d = some (.frz o (.dK kvs)) ∧ H p = some (.dK []) ∧ Q (.bl (if neg then !kvs.isEmpty else kvs.isEmpty)) H
section
variable {X : Cx}
theorem op_emp (hu : X.A.units + 64 < cLine) : OpR X (compareOp .Eq) (rEmp false) := by
  intro pins s σ H x y v u Q I rx ry h
  obtain ⟨d, p, o, kvs, rfl, rfl, hd, hp, q⟩ := h
  cases rx; cases ry
  obtain ⟨hs, hgd, hx, es, ep, vs, hdt, hsz, kv, hm⟩ := I.frzK hd
  obtain ⟨_, hs2, vs2, kv2, dd2⟩ := I.hok p _ hp
  cases kv2
  have hl : kvs.length = vs.length := Paired.length kv
  refine PySem.W.keq_eq (knd := mixKind X.prog X.w) (r := true) hs hs2 hm.dictOf dd2 (by omega) (fun e => ?_) ⟨.bl kvs.isEmpty, H, I, ?_, q⟩
  · cases vs with
    | nil => exact .nil
    | cons a b => cases e
  · show Value.bool _ = Value.bool _
    cases kvs <;> cases vs <;> first | rfl | cases hl
theorem op_nemp (hu : X.A.units + 64 < cLine) : OpR X (compareOp .NotEq) (rEmp true) := by
  intro pins s σ H x y v u Q I rx ry h
  obtain ⟨d, p, o, kvs, rfl, rfl, hd, hp, q⟩ := h
  cases rx; cases ry
  obtain ⟨hs, hgd, hx, es, ep, vs, hdt, hsz, kv, hm⟩ := I.frzK hd
  obtain ⟨_, hs2, vs2, kv2, dd2⟩ := I.hok p _ hp
  cases kv2
  have hl : kvs.length = vs.length := Paired.length kv
  refine PySem.W.keq_ne (knd := mixKind X.prog X.w) (r := true) hs hs2 hm.dictOf dd2 (by omega) (fun e => ?_) ⟨.bl (!kvs.isEmpty), H, I, ?_, q⟩
  · cases vs with
    | nil => exact .nil
    | cons a b => cases e
  · show Value.bool _ = Value.bool _
    cases kvs <;> cases vs <;> first | rfl | cases hl
end
def empV (neg : Bool) : U → Option U
  | .dic kvs => some (.bl (if neg then !kvs.isEmpty else kvs.isEmpty))
  | _ => none
theorem eo_emp {σ : L2.St} {B H : Hp} {ta : TE} {oa : Option U} {neg : Bool} (h : EvO ta σ B H oa) : EvO (tOp (rEmp neg) ta tDNewK) σ B H (op1 (empV neg) oa) := fun z e B1 H1 g Q q => by
  obtain ⟨x, ex, e⟩ := bind_some e
  refine h x ex B1 H1 g _ fun v B2 H2 g2 r => fun p hp => ?_
  cases r with
  | @dic a kvs es o h r =>
    cases e
    have g3 : Go B2 H2 B2 (upd H2 p (.dK [])) := Go.own g2.bh hp
    refine ⟨a, p, o, es, rfl, rfl, g3.bh _ _ h, upd_same, ?_⟩
    have e : es.isEmpty = kvs.isEmpty := by cases r <;> rfl
    rw [e]
    exact q _ B2 _ (g2.trans g3) (.bl _)
  | _ => cases e
end Dn
set_option Elab.async false
set_option linter.all false
set_option maxRecDepth 100000
set_option maxHeartbeats 2000000
namespace Dn
open PySem PySem.Spec PyProof.Rows L2
variable [CTab]
structure MkO (c : Nat) (B H : Hp) (x dx : Addr) (fs : List (Str × U)) (es : List (Str × V)) : Prop where
  hx : H x = some (.ins (CTab.ct c) dx es)
  rf : Rpf B fs es
  hd : H dx = some (.own x)
  ne : x ≠ dx
  bx : B x = none
  bd : B dx = none
def putUF (f : Str) (u : U) : List (Str × U) → List (Str × U)
  | [] => [(f, u)]
  | (g, x) :: r => if g = f then (g, u) :: r else (g, x) :: putUF f u r
theorem Rpf.put {B : Hp} {f : Str} {u : U} {v : V} (r : Rp B u v) : ∀ {fs : List (Str × U)} {es : List (Str × V)}, Rpf B fs es → Rpf B (putUF f u fs) (putF f v es)
  | _, _, .nil => .cons r .nil
  | _, _, .cons (k := k) h t => by
    unfold putUF putF
    by_cases e : k = f
    · rw [if_pos e, if_pos e]; exact .cons r t
    · rw [if_neg e, if_neg e]; exact .cons h (Rpf.put r t)
theorem Rpf.length {B : Hp} : ∀ {fs : List (Str × U)} {es : List (Str × V)}, Rpf B fs es → es.length = fs.length
  | _, _, .nil => rfl
  | _, _, .cons _ t => by rw [List.length_cons, List.length_cons, Rpf.length t]
section
variable {c : Nat} {B H B2 H2 : Hp} {x dx : Addr} {fs : List (Str × U)} {es : List (Str × V)} {K : PySem.W.Frag} {σ : L2.St}
theorem gs_one {M : Addr → Prop} {p : Addr} {u o : HO} (s : Ok B H) (hb : B p = none) (hM : M p) (hp : H p = some o) (nu : PL p o := by (first | assumption | exact ⟨rfl, fun _ z => by cases z⟩ | exact ⟨rfl, fun _ z => nomatch z⟩)) (n : NT u := by (first | rfl | assumption)) : Gs M B H B (upd H p u) :=
  ⟨fun a v e hm _ => by rw [upd_ne (fun z => hm (by rw [z]; exact hM))]; exact e, fun a e => (upd_none e).1, Same.refl _, same_upd s hb hp nu n, fun a v e => .inl e⟩
theorem MkO.go (M : MkO c B H x dx fs es) (g : Go B H B2 H2) : MkO c B2 H2 x dx fs es :=
  ⟨g.h _ _ M.hx, M.rf.kp (Kp.of g.b), g.h _ _ M.hd, M.ne, g.noB M.bx M.hx, g.noB M.bd M.hd⟩
theorem MkO.set {f : Str} {u : U} {v : V} (M : MkO c B H x dx fs es) (r : Rp B u v) : MkO c B (upd H x (.ins (CTab.ct c) dx (putF f v es))) x dx (putUF f u fs) (putF f v es) :=
  ⟨upd_same, M.rf.put r, by rw [upd_ne M.ne.symm]; exact M.hd, M.ne, M.bx, M.bd⟩
theorem q_fld {f : Str} {u : U} {tv : TE} {tz : TS} {D : Ends} (M : MkO c B H x dx fs es) (s : Ok B H) (cl : Cls K (CTab.ct c)) (na : NoAttr K (CTab.ct c) f) (hv : σ[0]? = some (some (.ref x))) (h : EvO tv σ B H (some u)) (hl : fs.length < 1000)
    (k : ∀ B2 H2 es2, Gs (fun a => a = x) B H B2 H2 → MkO c B2 H2 x dx (putUF f u fs) es2 → tz D σ H2) : tSeq (sFld K (tVar 0) tv f) tz D σ H := by
  refine h u rfl B H (At.refl s) _ fun v B2 H2 g2 r2 => ?_
  have M2 := M.go g2
  refine ⟨_, hv, x, _, dx, es, rfl, M2.hx, cl, na, by rw [M.rf.length]; exact hl, ?_⟩
  exact k B2 _ _ ((Gs.of g2).trans (gs_one g2.bh M2.bx rfl M2.hx)) (M2.set r2)
/-- self.f = g(self.e) -/
theorem q_fldC {f e : Str} {u z : U} {m : List U → Option U} {E : XK} {tz : TS} {D : Ends} (M : MkO c B H x dx fs es) (s : Ok B H) (cl : Cls K (CTab.ct c)) (na : NoAttr K (CTab.ct c) f) (ne : NoAttr K (CTab.ct c) e) (hv : σ[0]? = some (some (.ref x)))
    (he : fs.lookup e = some u) (hm : m [u] = some z) (hl : fs.length < 1000)
    (k : ∀ B2 H2 es2, Gs (fun a => a = x) B H B2 H2 → MkO c B2 H2 x dx (putUF f z fs) es2 → tz D σ H2) : tSeq (sFld K (tVar 0) (tCall (spU m) [] E (tCons (tFld K (tVar 0) e) tNil)) f) tz D σ H := by
  obtain ⟨v, ev, rv⟩ := (M.rf.look e).1 u he
  refine ⟨_, hv, x, _, dx, es, v, rfl, M.hx, cl, ne, ev, ?_⟩
  refine ⟨B, [u], z, s, .cons rv .nil, hm, fun w B2 H2 g2 r2 => ?_⟩
  have M2 := M.go g2
  refine ⟨_, hv, x, _, dx, es, rfl, M2.hx, cl, na, by rw [M.rf.length]; exact hl, ?_⟩
  exact k B2 _ _ ((Gs.of g2).trans (gs_one g2.bh M2.bx rfl M2.hx)) (M2.set r2)
end
/-- the promise of an own __init__ with one argument -/
def spMk (c : Nat) (m : U → Option (List (Str × U))) : Sp := fun vs H Q _ => ∃ B x dx w u fs, Ok B H ∧ vs = [.ref x, w] ∧ MkO c B H x dx [] [] ∧ Rp B u w ∧ m u = some fs ∧
  ∀ B2 H2 es, Gs (fun a => a = x) B H B2 H2 → MkO c B2 H2 x dx fs es → Q .non H2
def mkF (c : Nat) (m : U → Option (List (Str × U))) : List U → Option U
  | [u] => (m u).map (U.obj c)
  | _ => none
section
variable {σ : L2.St} {B H : Hp} {tl : TA} {ol : Option (List U)} {c : Nat} {m : U → Option (List (Str × U))} {E : XK}
theorem make_go {B2 H2 : Hp} {u z : U} {w : V} {Q : VK} (s2 : Ok B2 H2) (r : Rp B2 u w) (e : mkF c m [u] = some z) (q : ∀ v B3 H3, Go B2 H2 B3 H3 → Rp B3 z v → Q v H3) (x dx : Addr) (hx : H2 x = none) (hd : H2 dx = none) (hne : dx ≠ x) :
    spMk c m [.ref x, w] (upd (upd H2 dx (.own x)) x (.ins (CTab.ct c) dx [])) (fun v H3 => v = .non ∧ Q (.ref x) H3) E := by
  obtain ⟨fs, ef, e⟩ := map_some (show (m u).map (U.obj c) = some z from e)
  subst e
  have bx : B2 x = none := s2.free hx
  have bd : B2 dx = none := s2.free hd
  have okN : Ok B2 (upd (upd H2 dx (.own x)) x (.ins (CTab.ct c) dx [])) := (s2.own (o := .own x) hd).own (by rw [upd_ne hne.symm]; exact hx)
  refine ⟨B2, x, dx, w, u, fs, okN, rfl, ⟨upd_same, .nil, by rw [upd_ne hne, upd_same], hne.symm, bx, bd⟩, r, ef, fun B3 H3 es g3 M => ⟨rfl, ?_⟩⟩
  · have g4 : Go B2 H2 (upd (upd B3 dx (.own x)) x (.ins (CTab.ct c) dx es)) H3 := by
      refine ⟨fun a o e n => ?_, fun a e => ?_, fun a o e => ?_, ?_, fun a o e => ?_⟩
      · exact g3.h a o (by rw [upd_ne (ne_of_none e hx), upd_ne (ne_of_none e hd)]; exact e) (ne_of_none e hx) n
      · exact (upd_none (upd_none (g3.n a e)).1).1
      · rw [upd_ne (ne_of_none e bx), upd_ne (ne_of_none e bd)]; exact g3.b a o e
      · exact (g3.bh.keep (o := .own x) M.bd M.hd).keep (by rw [upd_ne hne.symm]; exact M.bx) M.hx
      · by_cases h1 : a = x
        · subst h1; exact .inr hx
        · rw [upd_ne h1] at e
          by_cases h2 : a = dx
          · subst h2; exact .inr hd
          · rw [upd_ne h2] at e
            rcases g3.fr a o e with z | z | z
            · exact .inl z
            · rw [upd_ne h1, upd_ne h2] at z; exact .inr z
            · exact absurd z h1
    refine q _ _ _ g4 (.obj upd_same (by rw [upd_ne hne, upd_same]) (M.rf.kp (Kp.of fun a o e => ?_)))
    rw [upd_ne (ne_of_none e M.bx), upd_ne (ne_of_none e M.bd)]; exact e
theorem mkF_one : ∀ xs z, mkF c m xs = some z → ∃ x, xs = [x]
  | [x], _, _ => ⟨x, rfl⟩
  | [], _, e => by cases e
  | _ :: _ :: _, _, e => by cases e
theorem eo_make (h : EvA tl σ B H ol) : EvO (tMake (CTab.ct c) (spMk c m) [] E tl) σ B H (callO (mkF c m) ol) := fun z e B1 H1 g Q q => by
  obtain ⟨xs, ex, e⟩ := bind_some e
  obtain ⟨u, rfl⟩ := mkF_one _ _ e
  refine h _ ex B1 H1 g _ fun vs B2 H2 g2 r => ?_
  cases r with
  | cons r t =>
    cases t
    intro x dx hx hd hne
    exact make_go g2.bh r e (fun v B3 H3 g3 r3 => q v B3 H3 (g2.trans g3) r3) x dx hx hd hne
end
def tpdV : U → Option U
  | .lst xs => some (.tpd xs)
  | .frl xs => some (.tpd xs)
  | _ => none
theorem rc_tpd {K : PySem.W.Frag} : RC (rTupF K) (c1 tpdV) := rc_one c1_one fun x z e v B H s rx Q q => by
  cases rx with
  | @lst a xs vs h r =>
    cases e
    exact ⟨a, vs, rfl, SqL.of (s _ _ h), fun l od hl hd => q _ _ _ (Go.new s hl) (.tpd upd_same hd (r.new s hl))⟩
  | @frl a xs vs o h r =>
    cases e
    exact ⟨a, vs, rfl, .inl (.inr ⟨o, s _ _ h⟩), fun l od hl hd => q _ _ _ (Go.new s hl) (.tpd upd_same hd (r.new s hl))⟩
  | _ => cases e
section
variable {B H : Hp} {x dx : Addr} {K : PySem.W.Frag} {c : Nat} {t1 t4 t5 : TE} {t2 : TT} {tr : TS} {E : XK} {m : List U → Option U} {text found heads : U} {prs : List U} {rows : U} {v : V} {Q : VK}
def webF (text found heads pairs rows : U) : List (Str × U) := [("written", text), ("rows", found), ("heads", heads), ("pairs", pairs), ("zigzag_rows", rows)]
theorem putW (text found heads pairs rows : U) : putUF "zigzag_rows" rows (putUF "pairs" pairs (putUF "heads" heads (putUF "rows" found (putUF "written" text [])))) = webF text found heads pairs rows := by
  have h1 : ¬ (("written" : Str) = "rows") := by decide +kernel
  have h2 : ¬ (("written" : Str) = "heads") := by decide +kernel
  have h3 : ¬ (("rows" : Str) = "heads") := by decide +kernel
  have h4 : ¬ (("written" : Str) = "pairs") := by decide +kernel
  have h5 : ¬ (("rows" : Str) = "pairs") := by decide +kernel
  have h6 : ¬ (("heads" : Str) = "pairs") := by decide +kernel
  have h7 : ¬ (("written" : Str) = "zigzag_rows") := by decide +kernel
  have h8 : ¬ (("rows" : Str) = "zigzag_rows") := by decide +kernel
  have h9 : ¬ (("heads" : Str) = "zigzag_rows") := by decide +kernel
  have h10 : ¬ (("pairs" : Str) = "zigzag_rows") := by decide +kernel
  simp only [putUF, h1, h2, h3, h4, h5, h6, h7, h8, h9, h10, if_false, webF]
theorem lookP (text found heads pairs : U) : (putUF "pairs" pairs (putUF "heads" heads (putUF "rows" found (putUF "written" text [])))).lookup ("pairs" : Str) = some pairs := by
  have h1 : ¬ (("written" : Str) = "rows") := by decide +kernel
  have h2 : ¬ (("written" : Str) = "heads") := by decide +kernel
  have h3 : ¬ (("rows" : Str) = "heads") := by decide +kernel
  have h4 : ¬ (("written" : Str) = "pairs") := by decide +kernel
  have h5 : ¬ (("rows" : Str) = "pairs") := by decide +kernel
  have h6 : ¬ (("heads" : Str) = "pairs") := by decide +kernel
  have e1 : (("pairs" : Str) == "written") = false := by decide +kernel
  have e2 : (("pairs" : Str) == "rows") = false := by decide +kernel
  have e3 : (("pairs" : Str) == "heads") = false := by decide +kernel
  have e4 : (("pairs" : Str) == "pairs") = true := by decide +kernel
  simp only [putUF, h1, h2, h3, h4, h5, h6, if_false, List.lookup_cons, e1, e2, e3, e4]
theorem lenW (text found heads pairs : U) : (putUF "written" text []).length = 1 ∧ (putUF "rows" found (putUF "written" text [])).length < 1000 ∧ (putUF "heads" heads (putUF "rows" found (putUF "written" text []))).length < 1000 ∧ (putUF "pairs" pairs (putUF "heads" heads (putUF "rows" found (putUF "written" text [])))).length < 1000 := by
  have len : ∀ (f : Str) (u : U) (fs : List (Str × U)), (putUF f u fs).length ≤ fs.length + 1 := fun f u fs => by
    induction fs with
    | nil => simp [putUF]
    | cons a r ih =>
      obtain ⟨g, w⟩ := a
      unfold putUF
      split
      · simp
      · simp; omega
  have a1 : (putUF "written" text []).length = 1 := rfl
  have a2 := len "rows" found (putUF "written" text [])
  have a3 := len "heads" heads (putUF "rows" found (putUF "written" text []))
  have a4 := len "pairs" pairs (putUF "heads" heads (putUF "rows" found (putUF "written" text [])))
  refine ⟨a1, ?_, ?_, ?_⟩ <;> omega
theorem webInit_reads {n0 : List (Option V)} (cl : Cls K (CTab.ct c)) (nw : NoAttr K (CTab.ct c) "written") (nr : NoAttr K (CTab.ct c) "rows") (nh : NoAttr K (CTab.ct c) "heads") (np : NoAttr K (CTab.ct c) "pairs") (nz : NoAttr K (CTab.ct c) "zigzag_rows")
    (s : Ok B H) (M : MkO c B H x dx [] []) (rt : Rp B text v)
    (h1 : EvO t1 (some (.ref x) :: some v :: none :: n0) B H (some found)) (h2 : ∀ vf B' H', Same B B' → Rp B' found vf → EvT t2 (some (.ref x) :: some v :: some vf :: n0) B' H' (some false))
    (h4 : ∀ vf B' H', Same B B' → Rp B' found vf → EvO t4 (some (.ref x) :: some v :: some vf :: n0) B' H' (some heads))
    (h5 : ∀ vf B' H', Same B B' → Rp B' found vf → EvO t5 (some (.ref x) :: some v :: some vf :: n0) B' H' (some (.tpd prs)))
    (hm : m [.tpd prs] = some rows) (kQ : ∀ B2 H2 es, Gs (fun a => a = x) B H B2 H2 → MkO c B2 H2 x dx (webF text found heads (.tpd prs) rows) es → Q .non H2) :
    tSeq (tAsg t1 (gName 2)) (tSeq (tIfS t2 tr tNext) (tSeq (sFld K (tVar 0) (tVar 1) "written") (tSeq (sFld K (tVar 0) (tVar 2) "rows") (tSeq (sFld K (tVar 0) t4 "heads") (tSeq (sFld K (tVar 0) t5 "pairs")
      (tSeq (sFld K (tVar 0) (tCall (spU m) [] E (tCons (tFld K (tVar 0) "pairs") tNil)) "zigzag_rows") tNext)))))) { nx := fun _ H' => Q .non H', rt := Q } (some (.ref x) :: some v :: none :: n0) H := by
  refine h1 found rfl B H (At.refl s) _ fun vf B1 H1 g1 rf => ?_
  show tSeq _ _ _ (some (V.ref x) :: some v :: some vf :: n0) H1
  refine h2 vf B1 H1 g1.b rf false rfl B1 H1 (At.refl g1.bh) _ fun B2 H2 g2 => ?_
  obtain ⟨l1, l2, l3, l4⟩ := lenW text found heads (.tpd prs)
  have G2 : Gs (fun a => a = x) B H B2 H2 := .of (g1.trans g2)
  have M2 := M.go (g1.trans g2)
  refine q_fld M2 G2.bh cl nw rfl (eo_var rfl ((rt.kp (Kp.of G2.b)))) (by decide) fun B3 H3 es3 G3 M3 => ?_
  have B3' := G2.b.trans G3.b
  have rf3 : Rp B3 found vf := (rf.kp (Kp.of g2.b)).kp (Kp.of G3.b)
  refine q_fld M3 G3.bh cl nr rfl (eo_var rfl rf3) (by rw [l1]; decide) fun B4 H4 es4 G4 M4 => ?_
  have rf4 := rf3.kp (Kp.of G4.b)
  have B4' := B3'.trans G4.b
  refine q_fld M4 G4.bh cl nh rfl (h4 vf B4 H4 B4' rf4) l2 fun B5 H5 es5 G5 M5 => ?_
  have rf5 := rf4.kp (Kp.of G5.b)
  have B5' := B4'.trans G5.b
  refine q_fld M5 G5.bh cl np rfl (h5 vf B5 H5 B5' rf5) l3 fun B6 H6 es6 G6 M6 => ?_
  refine q_fldC M6 G6.bh cl nz np rfl (lookP text found heads (.tpd prs)) hm l4 fun B7 H7 es7 G7 M7 => ?_
  rw [putW] at M7
  exact kQ B7 H7 es7 (((((G2.trans G3).trans G4).trans G5).trans G6).trans G7) M7
end
end Dn
set_option Elab.async false
set_option linter.all false
set_option maxRecDepth 100000
set_option maxHeartbeats 2000000
namespace Dn
open PySem PySem.Spec PyProof.Rows L2
end Dn
set_option Elab.async false
set_option linter.all false
set_option maxRecDepth 100000
set_option maxHeartbeats 2000000
namespace Dn
open PySem PySem.Spec PyProof.Rows L2
section
variable {X : Cx}
def rStrB : List V → Hp → VK → Prop := fun xs H Q => (∃ a, xs = [V.str a] ∧ Q (.str a) H) ∨ ∃ i : Int, xs = [V.int i] ∧ i.natAbs.log2 < 1920 ∧ Q (.str (toString i)) H
theorem call_strB [CTab] : CallR X (.type "str") rStrB := CallR.or SkE.call_str_str call_str_int
theorem pe_tidx {o e : Expr} {apos cpos : Pos} {to : TE} {t : TA} (hu : X.A.units + 64 < cLine) (ho : PE X o to) (ha : PA X [e] t) (hbase : attributeBase o "index" X.env (eval o X.env) = eval o X.env := by rfl)
    (hfew : ((backTo cpos (starEach [e] X.env)).all (fun x => !x.1) && (backToKw cpos (keywordEach [] X.env)).all (fun x => x.1.isSome)
      && decide ([e].length + ([] : List Keyword).length + (if ([] : List Keyword).isEmpty then 0 else 1) < 30)) = true := by rfl)
    (hline : (apos.endLine == cpos.line) = true := by rfl) (hs : starEach [e] X.env = (false, eval e X.env) :: starEach [] X.env := by rfl) (hplain : (backTo cpos (starEach [] X.env)).any (·.1) = false := by rfl) [CTab] :
    PE X (.Call (.Attribute o "index" apos) [e] [] cpos) (tTM rTIdx to t) := pe_tm PySem.F.slot_tuple_index PySem.F.type_tuple_index (mt_tidx hu) ho ha hbase hfew hline hs hplain
theorem pe_propK {K : PySem.W.Frag} {CX : CXT} {k : Nat} {C p g : Addr} {f : Str} {fd : FuncData} {ps : List Str} {sp : Sp} {E : XK} {e : Expr} {pos : Pos} {ta : TE} (hK : X.K = K) (he : PE X e ta) (c : Cls K C) (hp : PropOf K C f p g) (F : FnOk X.prog X.w X.K X.mg X.base CX k g fd ps sp) (hr : Room (k + 1) X.A) (hb : Binds K fd ps [])
    (hx : Passes CX X.nox E) (hab : attributeBase e f X.env (eval e X.env) = eval e X.env := by rfl) : PE X (.Attribute e f pos) (tProp C sp [] E ta) := by
  subst hK
  exact pe_prop he c hp F hr hb .nil hx hab
end
variable [CTab]
def strBV : U → Option U
  | .str s => some (.str s)
  | .int i => if i.natAbs.log2 < 1920 then some (.str (toString i)) else none
  | _ => none
theorem rc_strB : RC rStrB (c1 strBV) := rc_one c1_one fun x z e v B H s rx Q q => by
  cases rx with
  | str a => cases e; exact .inl ⟨a, rfl, q _ B H (Go.refl s) (.str a)⟩
  | int i =>
    have e5 : (if i.natAbs.log2 < 1920 then some (U.str (toString i)) else none) = some z := e
    clear e
    split at e5
    · rename_i h
      cases e5
      exact .inr ⟨i, rfl, h, q _ B H (Go.refl s) (.str _)⟩
    · cases e5
  | _ => cases e
section
variable {σ : L2.St} {B H : Hp} {ta : TE} {oa : Option U}
/-- {} kept for good -/
theorem eo_dnil : EvO (tFrz tDNewK) σ B H (some (.dic [])) := fun z e B1 H1 g Q q p hp => by
  cases e
  refine ⟨p, _, rfl, upd_same, trivial, fun od => ?_⟩
  have e0 : upd (upd H1 p (.dK [])) p (.frz od (.dK [])) = upd H1 p (.frz od (.dK [])) := by
    funext a
    by_cases h : a = p
    · subst h; rw [upd_same, upd_same]
    · rw [upd_ne h, upd_ne h, upd_ne h]
  rw [e0]
  exact q _ _ _ (Go.new g.bh hp) (.dic upd_same .nil)
/-- the end of a def without a return -/
theorem q_fall {B0 H0 : Hp} {r : U} {Q : VK} (e : some U.non = some r) (g : Go B0 H0 B H) (k : ∀ v B2 H2, Go B0 H0 B2 H2 → Rp B2 r v → Q v H2) : Q .non H := by
  cases e
  exact k .non B H g .non
end
end Dn
set_option Elab.async false
set_option linter.all false
set_option maxRecDepth 100000
set_option maxHeartbeats 2000000
namespace Dn
open PySem PySem.Spec PyProof.Rows L2
variable [CTab]
/-- one's own list, kept for good from here on -/
theorem q_keepS {α : Type} {R : α × List U} {β : Bs} {B H : Hp} {ps : List Addr} {us : List U} {j : Nat} {p : Addr} {f : U → SM α} {G : Prop} (W : Wh β B H ps us) (hp : ps[j]? = some p) (e : bindS (takeS j) f us = some R)
    (k : ∀ x B1 us1, Wh β B1 H ps us1 → Same B B1 → Rp B1 x (.ref p) → f x us1 = some R → G) : G := by
  obtain ⟨z, us', ez, e⟩ := bindS_some e
  unfold takeS at ez
  split at ez
  · rename_i xs eu
    cases ez
    have wp := W.w.at_ j p _ hp eu
    obtain ⟨hb, vs, e1, r⟩ := wp.own rfl
    have s1 : Same B (upd B p (.lst vs)) := same_lock hb
    have sb : Ok (upd B p (.lst vs)) H := W.s.keep hb e1
    refine k _ (upd B p (.lst vs)) _ (W.step ⟨fun a o e _ _ => e, fun a e => e, s1, sb, fun a o e => ?_⟩ ?_) s1 (.lst upd_same (r.kp (Kp.of s1))) e
    · by_cases ha : a = p
      · subst ha; exact .inr (.inr (List.mem_of_getElem? hp))
      · rw [upd_ne ha] at e; exact .inl e
    · exact W.w.set hp (fun q _ _ o e _ => e) s1 (fun q _ hq hn => by rw [upd_ne hq]; exact hn) ⟨wp.m, ⟨_, e1, rfl⟩, .inl rfl⟩
  · cases ez
end Dn
set_option Elab.async false
set_option linter.all false
set_option maxRecDepth 100000
set_option maxHeartbeats 2000000
namespace Dn
open PySem PySem.Spec PyProof.Rows L2
end Dn
set_option Elab.async false
set_option linter.all false
set_option maxRecDepth 100000
set_option maxHeartbeats 2000000
namespace Dn
open PySem PySem.Spec PyProof.Rows L2
structure Sh (u : U) (d : PyData) (k n : Nat) : Prop where
  py : u.py = some d
  sh : d.showable = true
  nd : d.hasDict = false
  dp : d.depth ≤ k
  lv : d.leavesShort 8 = true
  wt : d.weight ≤ n
structure Shs (us : List U) (ds : List PyData) (k n : Nat) : Prop where
  py : U.pys us = some ds
  sh : PyData.showableAll ds = true
  nd : PyData.hasDictAll ds = false
  dp : PyData.depthAll ds ≤ k
  lv : PyData.leavesShortAll 8 ds = true
  wt : PyData.weightAll ds ≤ n
theorem Sh.str {s : Str} {n : Nat} (h : ∀ c ∈ s.cps.toList, c < 16 ^ 8) (hl : s.length ≤ n) : Sh (.str s) (.str s) 0 n :=
  ⟨by simp [U.py], by simp [PyData.showable], by simp [PyData.hasDict], by simp [PyData.depth], by simp only [PyData.leavesShort, List.all_eq_true, decide_eq_true_eq]; exact h, by simp only [PyData.weight]; exact hl⟩
theorem Sh.bl {b : Bool} : Sh (.bl b) (.bool b) 0 0 := ⟨by simp [U.py], by simp [PyData.showable], by simp [PyData.hasDict], by simp [PyData.depth], by simp [PyData.leavesShort], by simp [PyData.weight]⟩
theorem Sh.non : Sh .non .none 0 0 := ⟨by simp [U.py], by simp [PyData.showable], by simp [PyData.hasDict], by simp [PyData.depth], by simp [PyData.leavesShort], by simp [PyData.weight]⟩
theorem Sh.mono {u : U} {d : PyData} {k n k' n' : Nat} (h : Sh u d k n) (hk : k ≤ k') (hn : n ≤ n') : Sh u d k' n' := ⟨h.py, h.sh, h.nd, Nat.le_trans h.dp hk, h.lv, Nat.le_trans h.wt hn⟩
theorem Shs.mono {u : List U} {d : List PyData} {k n k' n' : Nat} (h : Shs u d k n) (hk : k ≤ k') (hn : n ≤ n') : Shs u d k' n' := ⟨h.py, h.sh, h.nd, Nat.le_trans h.dp hk, h.lv, Nat.le_trans h.wt hn⟩
theorem Shs.nil {k : Nat} : Shs [] [] k 0 := ⟨by simp [U.pys], by simp [PyData.showableAll], by simp [PyData.hasDictAll], by simp [PyData.depthAll], by simp [PyData.leavesShortAll], by simp [PyData.weightAll]⟩
theorem Shs.cons {u : U} {d : PyData} {us : List U} {ds : List PyData} {k m n : Nat} (h : Sh u d k m) (t : Shs us ds k n) : Shs (u :: us) (d :: ds) k (m + 1 + n) := by
  refine ⟨by simp [U.pys, h.py, t.py], by simp [PyData.showableAll, h.sh, t.sh], by simp [PyData.hasDictAll, h.nd, t.nd], ?_, by simp [PyData.leavesShortAll, h.lv, t.lv], ?_⟩
  · have := h.dp
    have := t.dp
    simp only [PyData.depthAll]
    omega
  · have := h.wt
    have := t.wt
    simp only [PyData.weightAll]
    omega
theorem Sh.tup {us : List U} {ds : List PyData} {k n : Nat} (t : Shs us ds k n) : Sh (.tup us) (.tuple ds) (k + 1) n := by
  refine ⟨by simp [U.py, t.py], by simp [PyData.showable, t.sh], by simp [PyData.hasDict, t.nd], ?_, by simp [PyData.leavesShort, t.lv], ?_⟩
  · have := t.dp; simp only [PyData.depth]; omega
  · have := t.wt; simp only [PyData.weight]; omega
theorem Sh.tpd {us : List U} {ds : List PyData} {k n : Nat} (t : Shs us ds k n) : Sh (.tpd us) (.tuple ds) (k + 1) n := by
  refine ⟨by simp [U.py, t.py], by simp [PyData.showable, t.sh], by simp [PyData.hasDict, t.nd], ?_, by simp [PyData.leavesShort, t.lv], ?_⟩
  · have := t.dp; simp only [PyData.depth]; omega
  · have := t.wt; simp only [PyData.weight]; omega
theorem Sh.lst {us : List U} {ds : List PyData} {k n : Nat} (t : Shs us ds k n) : Sh (.lst us) (.list ds) (k + 1) n := by
  refine ⟨by simp [U.py, t.py], by simp [PyData.showable, t.sh], by simp [PyData.hasDict, t.nd], ?_, by simp [PyData.leavesShort, t.lv], ?_⟩
  · have := t.dp; simp only [PyData.depth]; omega
  · have := t.wt; simp only [PyData.weight]; omega
theorem Shs.map {α : Type} {g : α → U} {h : α → PyData} {k m : Nat} : ∀ (l : List α), (∀ a ∈ l, Sh (g a) (h a) k m) → Shs (l.map g) (l.map h) k (l.length * (m + 1))
  | [], _ => Shs.nil.mono (Nat.le_refl _) (Nat.zero_le _)
  | a :: l, hh => by
    have ih := Shs.map l fun x hx => hh x (List.mem_cons_of_mem _ hx)
    refine (Shs.cons (hh a (List.mem_cons_self ..)) ih).mono (Nat.le_refl _) ?_
    rw [List.length_cons, Nat.add_mul, Nat.one_mul]
    omega
theorem Sh.repr {u : U} {d : PyData} {k n : Nat} (h : Sh u d k n) (hk : k ≤ 40) (hn : n ≤ 9000) : callO (c1 reprV) (consO (some u) (some [])) = some (.str d.shown) := by
  show reprV u = _
  unfold reprV
  have h1 := PyData.shown_le 8 (by decide) d h.lv
  have h2 := h.wt
  have hlim : lim = 100000 := rfl
  have h3 : (8 + 2) * d.weight ≤ 10 * 9000 := Nat.mul_le_mul (by decide) (by omega)
  have h4 : d.shown.length ≤ lim := by omega
  rw [h.py, Option.bind_some, if_pos ⟨h.sh, h.nd, Nat.le_trans h.dp hk, h4⟩]
end Dn
set_option Elab.async false
set_option linter.all false
set_option maxRecDepth 100000
set_option maxHeartbeats 2000000
namespace Dn
open PySem PySem.Spec PyProof.Rows L2
end Dn
set_option Elab.async false
set_option linter.all false
set_option maxRecDepth 100000
set_option maxHeartbeats 2000000
namespace Dn
open PySem PySem.Spec PyProof.Rows L2
variable [CTab]
def rLIdx (K : PySem.W.Frag) : V → List V → Hp → VK → Prop := fun x ws H Q => ∃ (xs : List U) (y : U) (v : V) (a : Addr) (vs : List V), ws = [v] ∧ x = .ref a ∧ SqL K H a vs ∧ Rps H xs vs ∧ Rp H y v ∧ inO dep y xs = some true ∧ Q (.int (xs.findIdx (hitU y) : Nat)) H
section
variable {X : Cx}
theorem mt_lidx (hu : X.A.units + 64 < cLine) : MtR X "list.index" (rLIdx X.K) := by
  intro pins s σ H x ws v us Q I rx rxs h
  obtain ⟨xs, y, w, a, vs, rfl, rfl, hT, r, hy, hb, q⟩ := h
  cases rx
  obtain ⟨u, rfl, ru⟩ := rxs.one
  obtain ⟨its, rv, ⟨⟨cls, dd, data, sl⟩, n, ho, hc, hdn, hd⟩, hlen0⟩ := I.list hT
  simp only at hc hd
  subst hc hd
  obtain ⟨i1, i2⟩ := inO_any r rv hb
  have hlen := rps_len r rv
  obtain ⟨z, hz, ez⟩ := inO_true hb
  have hj : xs.findIdx (hitU y) < xs.length := List.findIdx_lt_length_of_exists ⟨z, hz, by simp [hitU, ez]⟩
  have hj2 : xs.findIdx (hitU y) < its.toArray.size := by rw [List.size_toArray, hlen]; exact hj
  have at_ : ∀ (m : Nat) (hm : m < its.toArray.size), ∃ c, eqO dep (xs[m]'(by rw [← hlen]; simpa using hm)) y = some c ∧ eqOf H dep y its.toArray[m] = c := fun m hm => by
    have hm2 : m < its.length := by simpa using hm
    obtain ⟨u1, v1, e1, r1, r2⟩ := rps_at r rv m its[m] (List.getElem?_eq_getElem hm2)
    have hm3 : m < xs.length := by omega
    have e2 : xs[m] = u1 := by rw [List.getElem?_eq_getElem hm3] at e1; exact Option.some.inj e1
    obtain ⟨c, ec⟩ := inO_def hb u1 (e2 ▸ List.getElem_mem hm3)
    refine ⟨c, by rw [e2]; exact ec, ?_⟩
    show eqOf H dep y its[m] = c
    exact eqOf_is r1 r2 ec
  have hsl := sizeLine_eq
  have hvl := rv.length
  refine call_meets PySem.F.slot_list_index ⟨_, ho, rfl⟩ PySem.F.entry_list_index (PySem.F.args_list_index_2 _ _) (SeqAt.list_indexAt a its.toArray n dd sl u (eqOf H dep y) (xs.findIdx (hitU y)) hj2 (by omega) ?_ ?_)
    ⟨ho, fun p hp => ?_, ⟨.int (xs.findIdx (hitU y) : Nat), H, I.tok _, ⟨_, rfl⟩, q⟩⟩
  · obtain ⟨c, e1, e2⟩ := at_ _ hj2
    have : hitU y xs[xs.findIdx (hitU y)] = true := List.findIdx_getElem
    rw [hitU, e1] at this
    rw [e2]
    simpa using this
  · intro m hm hmj
    obtain ⟨c, e1, e2⟩ := at_ m hm
    have : hitU y (xs[m]'(by omega)) = false := List.not_of_lt_findIdx hmj
    rw [hitU, e1] at this
    rw [e2]
    simpa using this
  · obtain ⟨u1, v1, c, r1, rv1, e1, e2⟩ := i2 p (by simpa using hp)
    rw [e2]
    refine eq_at e1 r1 hy rv1 ru (eq_rc I dep e1 r1 hy rv1 ru ?_).1
    show X.A.units + 1 + dep < cLine
    unfold dep; omega
theorem pe_lidx {K : PySem.W.Frag} {o e : Expr} {es : List Expr} {apos cpos : Pos} {to : TE} {t : TA} (hK : X.K = K) (hu : X.A.units + 64 < cLine) (ho : PE X o to) (ha : PA X (e :: es) t) (hbase : attributeBase o "index" X.env (eval o X.env) = eval o X.env := by rfl)
    (hfew : ((backTo cpos (starEach (e :: es) X.env)).all (fun x => !x.1) && (backToKw cpos (keywordEach [] X.env)).all (fun x => x.1.isSome)
      && decide ((e :: es).length + ([] : List Keyword).length + (if ([] : List Keyword).isEmpty then 0 else 1) < 30)) = true := by rfl)
    (hline : (apos.endLine == cpos.line) = true := by rfl) (hs : starEach (e :: es) X.env = (false, eval e X.env) :: starEach es X.env := by rfl) (hplain : (backTo cpos (starEach es X.env)).any (·.1) = false := by rfl) :
    PE X (.Call (.Attribute o "index" apos) (e :: es) [] cpos) (tBM K "list" (rLIdx K) to t) := hK ▸ pe_bm PySem.F.plainAttrs_list PySem.F.slot_list_index PySem.F.type_list_index (mt_lidx hu) ho ha hbase hfew hline hs hplain
end
def lidxV : U → U → Option U
  | .lst xs, y => (inO dep y xs).bind fun b => if b = true then some (.int (xs.findIdx (hitU y) : Nat)) else none
  | .frl xs, y => (inO dep y xs).bind fun b => if b = true then some (.int (xs.findIdx (hitU y) : Nat)) else none
  | _, _ => none
theorem eo_lidx {K : PySem.W.Frag} {σ : L2.St} {B H : Hp} {ta tb : TE} {oa ob : Option U} (ha : EvO ta σ B H oa) (hb : EvO tb σ B H ob) : EvO (tBM K "list" (rLIdx K) ta (tCons tb tNil)) σ B H (op2 lidxV oa ob) := fun z e B1 H1 g Q q => by
  obtain ⟨x, ex, e⟩ := bind_some e
  obtain ⟨y, ey, e⟩ := bind_some e
  refine ha x ex B1 H1 g _ fun v B2 H2 g2 r2 => ?_
  cases r2 with
  | @lst a xs vs h r =>
    obtain ⟨b, eb, e⟩ := bind_some (show (inO dep y xs).bind _ = some z from e)
    split at e
    · rename_i hb'
      subst hb'
      cases e
      refine ⟨.inl ⟨rfl, _, SqL.of (g2.bh _ _ h)⟩, hb _ ey B2 H2 (g.trans g2) _ fun w B3 H3 g3 r3 => ?_⟩
      exact ⟨xs, y, w, a, vs, rfl, rfl, SqL.of (g3.bh _ _ (g3.b _ _ h)), (r.up g3).in g3.bh, r3.in g3.bh, eb, q _ B3 H3 (g2.trans g3) (.int _)⟩
    · cases e
  | @frl a xs vs o h r =>
    obtain ⟨b, eb, e⟩ := bind_some (show (inO dep y xs).bind _ = some z from e)
    split at e
    · rename_i hb'
      subst hb'
      cases e
      refine ⟨.inl ⟨rfl, _, .inl (.inr ⟨o, g2.bh _ _ h⟩)⟩, hb _ ey B2 H2 (g.trans g2) _ fun w B3 H3 g3 r3 => ?_⟩
      exact ⟨xs, y, w, a, vs, rfl, rfl, .inl (.inr ⟨o, g3.bh _ _ (g3.b _ _ h)⟩), (r.up g3).in g3.bh, r3.in g3.bh, eb, q _ B3 H3 (g2.trans g3) (.int _)⟩
    · cases e
  | _ => cases e
end Dn
set_option Elab.async false
set_option linter.all false
set_option maxRecDepth 100000
set_option maxHeartbeats 2000000
namespace Dn
open PySem PySem.Spec PyProof.Rows L2
end Dn
set_option Elab.async false
set_option linter.all false
set_option maxRecDepth 100000
set_option maxHeartbeats 2000000
namespace Dn
open PySem PySem.Spec PyProof.Rows L2
variable [CTab]
section
variable {P : Program} {w : World} {H : Hp} {h : Heap} {a : Addr}
theorem DictB.of {es : List (Bool × V)} {vs : List (Bool × Value)} (r : KV es vs) (d : h.DictOf (PpSet.boolK P w) a vs) : ∃ o, h.get? a = some o ∧ DictB o es := by
  obtain ⟨o, ents, ep, ho, hx, hd, hk, hp, hn⟩ := d
  exact ⟨o, ho, hx, ents, ep, vs, hd, r, BPs.of hp (fun e he => hk e (by simpa using he)), hn⟩
theorem DictB.at {es : List (Bool × V)} {o : Obj} (x : DictB o es) (ho : h.get? a = some o) : ∃ (ents : Array DictEntry) (ep : Nat) (vs : List (Bool × Value)), o.data = .dict ents ep ∧ ents.size = es.length ∧ KV es vs ∧ h.DictAt (PpSet.boolK P w) a vs ep := by
  obtain ⟨hx, ents, ep, vs, hd, r, bp, hn⟩ := x
  refine ⟨ents, ep, vs, hd, ?_, r, o, ents, ho, hx, hd, fun e he => bp.keys e (by simpa using he), bp.pairs, hn⟩
  have l1 : ents.toList.length = vs.length := (bp.pairs (P := P) (w := w)).length
  have l2 : es.length = vs.length := Paired.length r
  rw [Array.length_toList] at l1
  omega
end
end Dn
set_option Elab.async false
set_option linter.all false
set_option maxRecDepth 100000
set_option maxHeartbeats 2000000
namespace Dn
open PySem PySem.Spec PyProof.Rows L2
variable [CTab]
section
variable {B : Hp} {x : U} {v : V}
theorem Rpb.any (k : Bool) : ∀ {kvs : List (Bool × U)} {es : List (Bool × V)}, Rpb B kvs es → (es.any fun kv => decide (kv.1 = k)) = (kvs.any fun kv => decide (kv.1 = k))
  | _, _, .nil => rfl
  | _, _, .cons _ t => by rw [List.any_cons, List.any_cons, Rpb.any k t]
theorem Rpb.repl (h : Rp B x v) (k : Bool) : ∀ {kvs : List (Bool × U)} {es : List (Bool × V)}, Rpb B kvs es → Rpb B (kvs.map fun kv => if kv.1 = k then (kv.1, x) else kv) (es.map fun kv => if kv.1 = k then (kv.1, v) else kv)
  | _, _, .nil => .nil
  | _, _, @Rpb.cons _ _ k' y w kvs es r t => by
    rw [List.map_cons, List.map_cons]
    by_cases e : k' = k
    · simp only [e, if_true]; exact .cons h (Rpb.repl h k t)
    · simp only [e, if_false]; exact .cons r (Rpb.repl h k t)
theorem Rpb.snoc (h : Rp B x v) (k : Bool) : ∀ {kvs : List (Bool × U)} {es : List (Bool × V)}, Rpb B kvs es → Rpb B (kvs ++ [(k, x)]) (es ++ [(k, v)])
  | _, _, .nil => .cons h .nil
  | _, _, .cons r t => .cons r (Rpb.snoc h k t)
theorem Rpb.put (h : Rp B x v) (k : Bool) {kvs : List (Bool × U)} {es : List (Bool × V)} (r : Rpb B kvs es) : Rpb B (putU kvs k x) (putK es k v) := by
  unfold putU putK
  rw [r.any k]
  split
  · exact r.repl h k
  · exact r.snoc h k
theorem Rpb.length : ∀ {xs : List (Bool × U)} {vs : List (Bool × V)}, Rpb B xs vs → vs.length = xs.length
  | _, _, .nil => rfl
  | _, _, .cons _ t => by rw [List.length_cons, List.length_cons, Rpb.length t]
theorem Rpb.at : ∀ {xs : List (Bool × U)} {vs : List (Bool × V)} {i : Nat} {k : Bool} {v : V}, Rpb B xs vs → vs[i]? = some (k, v) → ∃ x, xs[i]? = some (k, x) ∧ Rp B x v
  | _, _, _, _, _, .nil, e => by simp at e
  | _, _, 0, _, _, .cons h t, e => by simp at e; obtain ⟨rfl, rfl⟩ := e; exact ⟨_, rfl, h⟩
  | _, _, i + 1, k, v, .cons h t, e => by
    obtain ⟨x, h1, h2⟩ := Rpb.at (i := i) (k := k) (v := v) t (by simpa using e)
    exact ⟨x, by simpa using h1, h2⟩
end
end Dn
set_option Elab.async false
set_option linter.all false
set_option maxRecDepth 100000
set_option maxHeartbeats 2000000
namespace Dn
open PySem L2 StX
variable [CTab]
def U.sitems : U → Option (List U)
  | .tup xs => some xs
  | .tpd xs => some xs
  | .lst xs => some xs
  | .frl xs => some xs
  | _ => none
def starO (a : Option U) (b : Option (List U)) : Option (List U) := a.bind fun x => x.sitems.bind fun xs => b.map fun r => xs ++ r
theorem pa_starK {X : Cx} {K : PySem.W.Frag} (hK : X.K = K) {e : Expr} {es : List Expr} {te : TE} {t : TA} {p : Pos} (he : PE X e te) (hr : PA X es t) (hs : starEach (.Starred e p :: es) X.env = (true, eval e X.env) :: starEach es X.env := by rfl) : PA X (.Starred e p :: es) (tStar K te t) := by
  subst hK
  exact pa_star he hr hs
theorem ea_star {K : PySem.W.Frag} {σ : St} {B H : Hp} {te : TE} {tr : TA} {oa : Option U} {ol : Option (List U)} (h : EvO te σ B H oa) (hr : EvA tr σ B H ol) : EvA (tStar K te tr) σ B H (starO oa ol) := fun z e B1 H1 g Q q => by
  obtain ⟨x, ex, e⟩ := bind_some e
  obtain ⟨xs, exs, e⟩ := bind_some e
  obtain ⟨r, er, e⟩ := map_some e
  subst e
  refine h x ex B1 H1 g _ fun v B2 H2 g2 r2 => ?_
  have fin : ∀ ws, Rps B2 xs ws → tr σ H2 fun ys H3 => Q (ws ++ ys) H3 := fun ws rw' => hr r er B2 H2 (g.trans g2) _ fun vs B3 H3 g3 r3 => q _ B3 H3 (g2.trans g3) ((rw'.up g3).append r3)
  cases r2 with
  | @tup a ys vs h r => cases exs; exact ⟨a, vs, rfl, .inl (SqT.of (g2.bh _ _ h)), fin vs r⟩
  | @tpd a ys vs o h hd r => cases exs; exact ⟨a, vs, rfl, .inl (.inl (.inr ⟨o, g2.bh _ _ h⟩)), fin vs r⟩
  | @lst a ys vs h r => cases exs; exact ⟨a, vs, rfl, .inr (SqL.of (g2.bh _ _ h)), fin vs r⟩
  | @frl a ys vs o h r => cases exs; exact ⟨a, vs, rfl, .inr (.inl (.inr ⟨o, g2.bh _ _ h⟩)), fin vs r⟩
  | _ => cases exs
end Dn
namespace Dn
open PySem L2
end Dn
set_option Elab.async false
set_option linter.all false
set_option maxRecDepth 100000
set_option maxHeartbeats 2000000
namespace Dn
open PySem PySem.Spec PyProof.Rows L2
variable [CTab]
def EtK (K : PySem.W.Frag) : Prop := ∃ (o : Obj) (n : Nat), K.lookup CTab.et = some o ∧ o.cls = .type "tuple" ∧ o.data = .seq #[] n
theorem EtK.sq {K : PySem.W.Frag} (h : EtK K) {H : Hp} : SqT K H CTab.et [] := by
  obtain ⟨o, n, h1, h2, h3⟩ := h
  exact .inr ⟨o, #[], n, h1, h2, h3, Nat.zero_le _, .nil⟩
end Dn
set_option Elab.async false
set_option linter.all false
set_option maxRecDepth 100000
set_option maxHeartbeats 4000000
namespace Dn
open PySem PySem.Spec PyProof.Rows L2 Builtin Builtin.ObjectAttr
/-- what the written part says of an own exception class over a built-in one -/
structure OexB (K : PySem.W.Frag) (C : Addr) (initId : String) : Prop where
  cls : ∃ newId B bmB, ExcBaseFacts B newId initId bmB ∧ StoreFacts B bmB "object.__setattr__" "object" ∧ PySem.W.excInitIn K C bmB newId = true ∧ PySem.W.excOver K C bmB = true
  hd : PySem.W.hasDictIn K C = true
structure OexG (K : PySem.W.Frag) (C : Addr) : Prop where
  base : ∃ initId, OexB K C initId
  sa : PySem.W.findIn K (.ref C) "__setattr__" = some (some (.builtin "object.__setattr__"))
  kC : PySem.W.keepIn K (.ref C) = true
section
variable {K : PySem.W.Frag} {C : Addr}
theorem oexB_VE (h : oexB K veTail "ValueError.__new__" C = true) : OexB K C "ValueError.__init__" := by
  obtain ⟨h1, h⟩ := Bool.and_eq_true_iff.mp h
  obtain ⟨h2, h3⟩ := Bool.and_eq_true_iff.mp h
  exact ⟨⟨_, _, _, F.excBase_ValueError, F.store_ValueError, h1, h2⟩, h3⟩
theorem oexB_AE (h : oexB K aeTail "ArithmeticError.__new__" C = true) : OexB K C "ArithmeticError.__init__" := by
  obtain ⟨h1, h⟩ := Bool.and_eq_true_iff.mp h
  obtain ⟨h2, h3⟩ := Bool.and_eq_true_iff.mp h
  exact ⟨⟨_, _, _, F.excBase_ArithmeticError, F.store_ArithmeticError, h1, h2⟩, h3⟩
theorem oexG_VE (h : oexG K veTail "ValueError.__new__" C = true) : OexG K C := by
  obtain ⟨h1, h⟩ := Bool.and_eq_true_iff.mp h
  obtain ⟨h2, h3⟩ := Bool.and_eq_true_iff.mp h
  exact ⟨⟨_, oexB_VE h1⟩, of_decide_eq_true h2, h3⟩
theorem oexG_AE (h : oexG K aeTail "ArithmeticError.__new__" C = true) : OexG K C := by
  obtain ⟨h1, h⟩ := Bool.and_eq_true_iff.mp h
  obtain ⟨h2, h3⟩ := Bool.and_eq_true_iff.mp h
  exact ⟨⟨_, oexB_AE h1⟩, of_decide_eq_true h2, h3⟩
/-- in the words of the store -/
structure OexS (K : PySem.W.Frag) (C : Addr) (B : String) (bmB : List Value) : Prop where
  sf : StoreFacts B bmB "object.__setattr__" "object"
  ov : PySem.W.excOver K C bmB = true
  cd : ∃ cd, PySem.W.clsIn K C = some cd ∧ cd.hasDict = true
theorem OexG.store (T : OexG K C) : ∃ B bmB, OexS K C B bmB := by
  obtain ⟨_, ⟨_, B, bmB, _, sf, _, ov⟩, hd⟩ := T.base
  exact ⟨B, bmB, sf, ov, PySem.W.any_some hd⟩
theorem taker_none {name : Str} (h : PySem.W.findIn K (.ref C) name = some none) : PySem.W.takerIn K C name = some none := by
  unfold PySem.W.takerIn
  rw [h]
  rfl
end
section
variable {X : Cx} {pins : List (Addr × Obj)} {σ : L2.St} {H : Hp} {s : Shared} {a C dx : Addr} {f : Str} {y : V} {u : Value} {fs : List (Str × V)} {Q : Unit → Shared → Prop} {E : Value → Shared → Prop} {A : Around}
/-- two steps at once: a dict is laid at dx, the object at a is told of it -/
theorem inv_dict {h' : Heap} {t' : Nat} {o1 o2 : HO} {oa ob : Obj} (I : Inv X pins σ H s) (mu : Mut (H a)) (he : s.heap.get? a = some oa) (fr : oa.isFreed = false) (hd : s.heap.objs.size ≤ dx) (k : ∀ b o, b ≠ a → s.heap.get? b = some o → h'.get? b = some o) (hb : h'.get? a = some ob)
    (n1 : ∀ h1 : Heap, (∀ o, h'.get? dx = some o → h1.get? dx = some o) → ObjOk X.prog X.w (upd H dx o1) h1 dx o1) (n2 : ObjOk X.prog X.w (upd (upd H dx o1) a o2) h' a o2) :
    Inv X pins σ (upd (upd H dx o1) a o2) { s with heap := h', toks := t' } := by
  have ne : a ≠ dx := Nat.ne_of_lt (Nat.lt_of_lt_of_le (Heap.lt_size he) hd)
  have ga : (h'.update a fun _ => oa).get? a = some oa := Heap.get?_update_self _ hb fr
  have go : ∀ b, b ≠ a → (h'.update a fun _ => oa).get? b = h'.get? b := fun b hb => Heap.get?_update_other _ _ (Ne.symm hb)
  have I1 : Inv X pins σ (upd H dx o1) { s with heap := h'.update a fun _ => oa, toks := t' } := I.laid (fun b o e => by
    by_cases z : b = a
    · rw [z] at e ⊢
      rw [ga, ← he, e]
    · rw [go b z]
      exact k b o z e) hd (n1 _ fun o e => (go dx ne.symm).trans e)
  exact I1.write (t' := t') (x := a) (e := a) (h' := h') (by rw [upd_ne ne]; exact mu) (.inl rfl) (fun b o z e => (go b z).symm.trans e) ⟨ob, hb⟩ n2
/-- the first field -/
theorem put_first (T : OexG X.K C) (I : Inv X pins σ H s) (e : H a = some (exo a C none)) (hno : PySem.W.findIn X.K (.ref C) f = some none) (ry : RelV y u)
    (h : ∀ dx s', H dx = none → dx ≠ a → Inv X pins σ (upd (upd H dx (exd dx [(f, y)])) a (exo a C (some dx))) s' → Q () s') : wpAny (model X.prog X.w) A (setAttr (.ref a) f u) Q E s := by
  obtain ⟨B, bmB, SF, ov, cd, hc, hd⟩ := T.store
  obtain ⟨t1, ho⟩ := exo_at I.hok e
  obtain ⟨hp, g, d, t, os⟩ := s
  have ox : PySem.W.InstAt hp a { cls := .ref C, dict := none, data := .fields #[.ref t1, .none, .none, .none, .bool false, .none] } C none := ⟨ho, rfl, rfl, trivial⟩
  refine PySem.W.set_plain I.kIn ox T.sa (PySem.W.osa_openX SF I.kIn ox ov (taker_none hno) fun b => ?_)
  have lt : a < hp.objs.size := Heap.lt_size ho
  have ho1 := Heap.get?_push_of_some (PySem.W.dictOf [] 0) ho
  refine wpAny_bind (wpAny_pure (wpAny_bind (PySem.W.instanceDict_exc ho (PySem.W.looks_clsIn I.kIn hc) hd ?_)))
  show wpAny _ _ (storeInDict hp.objs.size (.str f t) f u) _ _ ⟨_, g, d, _, os⟩
  refine HandSPX.store_in_new ⟨PySem.W.dictOf [] 0, #[], 0, ?_, rfl, fun _ z => absurd z (by simp), fun _ => rfl⟩ fun h' tk' hn sb => ?_
  · rw [Heap.get?_update_other _ _ (Nat.ne_of_lt lt)]
    exact Heap.get?_push_at rfl rfl
  · have na : a ≠ hp.objs.size := Nat.ne_of_lt lt
    have hb := (sb.2 a na).trans (Heap.get?_update_self (fun o => { o with dict := some hp.objs.size }) ho1 rfl)
    refine h hp.objs.size _ (I.hok.fresh (Nat.le_refl _)) na.symm (inv_dict (t' := tk') (h' := h') (oa := _) I (by rw [e]; exact True.intro) ho rfl (Nat.le_refl _) (fun b o z q => ?_) hb (fun h1 k1 => exd_ok (hn.at k1) (relO_put (fs := []) ry fun g => True.intro)) (exo_ok hb))
    rw [sb.2 b (Nat.ne_of_lt (Heap.lt_size q)), Heap.get?_update_other _ _ (Ne.symm z)]
    exact Heap.get?_push_of_some _ q
/-- a further one -/
theorem put_next (T : OexG X.K C) (I : Inv X pins σ H s) (e : H a = some (exo a C (some dx))) (ed : H dx = some (exd dx fs)) (hl : fs.length ≤ 900) (hno : PySem.W.findIn X.K (.ref C) f = some none) (ry : RelV y u)
    (h : ∀ s', Inv X pins σ (upd H dx (exd dx ((f, y) :: fs))) s' → Q () s') : wpAny (model X.prog X.w) A (setAttr (.ref a) f u) Q E s := by
  obtain ⟨B, bmB, SF, ov, cd, hc, hd⟩ := T.store
  obtain ⟨t1, ho⟩ := exo_at I.hok e
  obtain ⟨mA, hns, rel⟩ := exd_at I.hok ed
  obtain ⟨hp, g, d, t, os⟩ := s
  obtain ⟨oD, _, _, hoD, _, _⟩ := hns.count (within_of rel)
  have ox : PySem.W.InstAt hp a { cls := .ref C, dict := some dx, data := .fields #[.ref t1, .none, .none, .none, .bool false, .none] } C (some oD) := ⟨ho, rfl, rfl, hoD⟩
  refine PySem.W.set_plain I.kIn ox T.sa (PySem.W.osa_openX SF I.kIn ox ov (taker_none hno) fun b => ?_)
  unfold storeInOwnDict ownDictForStores
  refine wpAny_bind (wpAny_pure (wpAny_bind ?_))
  unfold instanceDict
  have lk : PySem.W.Looks (model X.prog X.w) hp (classData C) cd := PySem.W.looks_clsIn I.kIn hc
  refine wpAny_bind (wpAny_loadPart ho (wpAny_bind (lk.at ?_)))
  rw [hd]
  refine wpAny_pure ?_
  show wpAny _ _ (storeInDict dx (.str f t) f u) _ _ ⟨hp, g, d, _, os⟩
  refine PySem.OEX.store_in_old hns (within_of rel) (by rw [List.length_map]; omega) fun h' tk' hn sb => ?_
  obtain ⟨oN, _, _, hoN, _⟩ := id hn
  exact h _ (I.write (t' := tk') (x := dx) (e := dx) (o := exd dx ((f, y) :: fs)) (by rw [ed]; exact True.intro) (.inl rfl) (fun b o z q => (sb.2 b z).trans q) ⟨oN, hoN⟩ (exd_ok hn (relO_put ry rel)))
end
def tOstX (K : PySem.W.Frag) (f : Str) (to te : TE) : TS := fun D σ H => te σ H fun y H1 => to σ H1 fun x H2 => ∃ a C : Addr, x = .ref a ∧ OexG K C ∧ PySem.W.findIn K (.ref C) f = some none ∧
  ((H2 a = some (exo a C none) ∧ ∀ dx, H2 dx = none → dx ≠ a → D.nx σ (upd (upd H2 dx (exd dx [(f, y)])) a (exo a C (some dx)))) ∨
    ∃ (dx : Addr) (fs : List (Str × V)), H2 a = some (exo a C (some dx)) ∧ H2 dx = some (exd dx fs) ∧ fs.length ≤ 900 ∧ D.nx σ (upd H2 dx (exd dx ((f, y) :: fs))))
theorem ps_ostX {X : Cx} {o e : Expr} {to te : TE} {f : Str} {p' pos : Pos} (ho : PE X o to) (he : PE X e te) (hs : swapsWith e (some (.Attribute o f p')) pos.line X.env = pure false := by rfl) : PS X (.Assign [.Attribute o f p'] e pos) (tOstX X.K f to te) := ⟨fun pins s σ H D I h =>
  plainObj_wpAny_Assign_Attribute (thn (he.run pins s σ H _ I h) fun v s1 ⟨y, H1, I1, r1, q1⟩ => thn (ho.run pins s1 σ H1 _ I1 q1) fun u s2 ⟨x, H2, I2, r2, a, C, ex, T, hno, q⟩ => by
    subst ex
    cases r2
    rcases q with ⟨ea, q⟩ | ⟨dx, fs, ea, ed, hl, q⟩
    · exact put_first T I2 ea hno r1 fun dx s' n ne J => ⟨σ, _, J, q dx n ne⟩
    · exact put_next T I2 ea ed hl hno r1 fun s' J => ⟨σ, _, J, q⟩) hs⟩
end Dn
namespace PySem
namespace Dnx
open Builtin Builtin.ObjectAttr
section
variable {prog : Program} {w : World} {A : Around} {R : Result → Shared → Prop} {h : Heap} {g : Array GenState} {d : Drawn} {t : Nat} {os : OsState}
variable {nm q : Str} {C N : Addr} {bs bm bmB : List Value} {hdct : Bool} {sn : List Str} {sub : List Value} {ab : Bool} {col : Option Bool} {dd : Option Addr} {k0 k1 k2 k3 k5 : Option Value} {B newId initId : String} {us : List Value} {kw : List (Str × Value)}
/-- the new object, its values in a tuple ahead of it -/
abbrev excH (h : Heap) (us : List Value) (C : Addr) : Heap := (h.push (W.kdv_tup us)).push (HandSPX.excO C h.objs.size)
theorem exc_new (F : ExcBaseFacts B newId initId bmB) (hT : ∀ X : String, bm.contains (.type X) = bmB.contains (.type X)) (hC : h.get? C = some (excClassObj nm q C N bs bm hdct sn sub ab col dd k0 k1 k2 k3 k5 newId)) (hz : us.length ≤ sizeLine)
    (hq : R (.ok (.ret (.ref (h.objs.size + 1)))) ⟨excH h us C, g, d, t, os⟩) : codeAny (model prog w) A (.call (.builtin newId) ⟨.ref C :: us, kw⟩) R ⟨h, g, d, t, os⟩ := by
  have at_ : ∀ Y : String, (Value.ref C :: bm).contains (.type Y) = bmB.contains (.type Y) := fun Y => by
    rw [List.contains_cons, hT]; rfl
  have c1 := (at_ B).trans F.hasB
  have c2 := (at_ "AttributeError").trans F.noAttr
  have c3 := (at_ "NameError").trans F.noName
  have n1 := F.noStar
  have n2 := F.ends
  refine codeAny_call_builtin_code (Code.quiet_builtin _ F.quiet) ?_
  simp only [checkBuiltinCall, F.newKind, F.newSplit, F.newRow]
  repeat (first | refine wpAny_loadPart_at hC ?_ | (refine wpAny_isSubtype_exc hC ?_; rw [c1]) | refine wpAny_staticBase_exc hC ?_ | refine wpAny_madeBy_exc hC ?_ | simp only [bne_self_eq_false, Bool.false_eq_true, if_false] | wp_step)
  refine codeAny_builtinAt F.entry ?_
  unfold Builtin.«BaseException.__new__»
  refine wpAt_bind (wpAt_bind (wpAt_stack fun p below => wpAt_of_wpAny ?_))
  wp_walk
  refine wpAt_of_wpAny ?_
  rw [F.owner]
  repeat (first | with_reducible refine wpAny_madeHere_exc F.canon hC ?_ | with_reducible refine wpAny_loadPart_at hC ?_ | (with_reducible refine wpAny_isSubtype_exc hC ?_; first | rw [c1] | rw [c2] | rw [c3]) | wp_step)
  show R _ _
  rw [Heap.size_push]
  exact hq
theorem exc_tc {fI : Addr} {Q : Fin → Shared → Prop} {E : Value → Shared → Prop} (F : ExcBaseFacts B newId initId bmB) (hT : ∀ X : String, bm.contains (.type X) = bmB.contains (.type X)) (hC : h.get? C = some (excClassObj nm q C N bs bm hdct sn sub ab col dd k0 k1 k2 k3 k5 newId))
    (hi : W.Looks (model prog w) h (typeLookup (.ref C) "__init__") (some (.ref fI))) (hb : ∀ self, W.Looks (model prog w) h (bindSpecial (.ref fI) self) (.ref fI, [self])) (hz : us.length ≤ sizeLine)
    (hq : codeAny (model prog w) A (.call (.ref fI) ⟨.ref (h.objs.size + 1) :: us, kw⟩) (fun r s' => match r with | .ok (.ret v) => v = .none ∧ Q (.done (.ret (.ref (h.objs.size + 1)))) s' | .ok _ => False | .error e => E e s') ⟨excH h us C, g, d, t, os⟩) :
    wpAny (model prog w) A (Builtin.«type.__call__» ⟨.ref C :: us, kw⟩) Q E ⟨h, g, d, t, os⟩ := by
  repeat (first | with_reducible refine wpAny_loadPart_at hC ?_ | with_reducible refine wpAny_madeBy_exc hC ?_ | wp_step)
  refine exc_new F hT hC hz ?_
  have up : ∀ b o, h.get? b = some o → (excH h us C).get? b = some o := fun b o e => Heap.get?_push_of_some _ (Heap.get?_push_of_some _ e)
  have me : (excH h us C).get? (h.objs.size + 1) = some (HandSPX.excO C h.objs.size) := by heap_get
  have cC := up _ _ hC
  have own : (Value.ref C :: bm).contains (.ref C) = true := by simp
  have iI := hi.keeps up
  have iB := (hb (.ref (h.objs.size + 1))).keeps up
  show wpAny _ _ _ _ _ _
  unfold isInstance
  repeat (first | with_reducible refine wpAny_loadPart_at me ?_ | (with_reducible refine wpAny_isSubtype_exc cC ?_; rw [own]) | wp_step)
  show wpAny _ _ (typeLookup (.ref C) _) _ _ _
  refine iI.at (wpAny_holding (wpAny_bind (iB.at (wpAny_bind (wpAny_call (codeAny_mono hq fun r s' z => ?_))))))
  match r, z with
  | .error e, z => exact z
  | .ok .next, z => exact z.elim
  | .ok .brk, z => exact z.elim
  | .ok .cont, z => exact z.elim
  | .ok (.ret v), z =>
    obtain ⟨rfl, z⟩ := z
    first
      | exact wpAny_pure (wpAny_pure z)
      | (wp_walk; exact z)
theorem exc_call {fI : Addr} (F : ExcBaseFacts B newId initId bmB) (hT : ∀ X : String, bm.contains (.type X) = bmB.contains (.type X)) (hC : h.get? C = some (excClassObj nm q C N bs bm hdct sn sub ab col dd k0 k1 k2 k3 k5 newId))
    (hi : W.Looks (model prog w) h (typeLookup (.ref C) "__init__") (some (.ref fI))) (hb : ∀ self, W.Looks (model prog w) h (bindSpecial (.ref fI) self) (.ref fI, [self])) (hz : us.length ≤ sizeLine)
    (hq : codeAny (model prog w) (A.under (.builtin "type.__call__" ⟨.ref C :: us, kw⟩)) (.call (.ref fI) ⟨.ref (h.objs.size + 1) :: us, kw⟩) (W.InitBack (h.objs.size + 1) R) ⟨excH h us C, g, d, t, os⟩) :
    codeAny (model prog w) A (.call (.ref C) ⟨us, kw⟩) R ⟨h, g, d, t, os⟩ := by
  have l1 := tc_lookup
  have l2 := tc_bind (.ref C)
  have ty : (⟨h, g, d, t, os⟩ : Shared).TypeIs (.ref C) "type" := ⟨_, hC, rfl⟩
  refine codeAny_of_tree (show wpAny _ _ (callAny (.ref C) _) _ _ _ from ?_)
  repeat (any_goals (first | assumption | with_reducible refine wpAny_loadPart_at hC ?_ | wp_step))
  refine ⟨rfl, codeAny_call_builtin_at (Code.quiet_builtin _ (by decide +kernel)) entry_typeCall (wpAny_check_type_call_sub hC (exc_tc F hT hC hi hb hz (codeAny_mono hq fun r s' z => ?_)))⟩
  match r, z with
  | .error e, z => exact z
  | .ok .next, z => exact z
  | .ok .brk, z => exact z
  | .ok .cont, z => exact z
  | .ok (.ret v), z => exact z
end
end Dnx
end PySem
namespace Dn
open PySem PySem.Spec PyProof.Rows L2 PySem.Dnx
theorem exg_ok {P : Program} {w : World} {H : Hp} {h : Heap} {a C : Addr} {d : Option Addr} {oe : Obj} {vs : Array Value} (e : h.get? a = some oe) (hc : oe.cls = .ref C) (hd : oe.dict = d) (hf : oe.data = .fields vs) : ObjOk P w H h a (exg a C d) :=
  ⟨⟨oe, vs, e, hc, hd, hf⟩, ⟨oe, e⟩, fun _ _ ⟨o, v, q, r⟩ k => ⟨o, v, k o q, r⟩⟩
theorem exg_at {P : Program} {w : World} {H : Hp} {h : Heap} {a C : Addr} {d : Option Addr} (hok : HOk P w H h) (e : H a = some (exg a C d)) : ∃ (oe : Obj) (vs : Array Value), h.get? a = some oe ∧ oe.cls = .ref C ∧ oe.dict = d ∧ oe.data = .fields vs := by
  have x : ObjOk P w H h a (exg a C d) := hok a _ e
  unfold exg at x
  exact x.1
end Dn
set_option Elab.async false
set_option linter.all false
set_option maxRecDepth 100000
set_option maxHeartbeats 4000000
namespace Dn
open PySem PySem.Spec PyProof.Rows L2
end Dn
set_option Elab.async false
set_option linter.all false
set_option maxRecDepth 100000
set_option maxHeartbeats 4000000
namespace Dn
open PySem PySem.Spec PyProof.Rows L2
section
variable {X : Cx}
/-- what stands at a: an exception of the class at C, its dict -/
def ExAt (H : Hp) (a C : Addr) (fs : List (Str × V)) : Prop := (H a = some (exg a C none) ∧ fs = []) ∨ ∃ dx, H a = some (exg a C (some dx)) ∧ H dx = some (.xd fs)
theorem xd_at {P : Program} {w : World} {H : Hp} {h : Heap} {dx : Addr} {fs : List (Str × V)} (hok : HOk P w H h) (e : H dx = some (.xd fs)) : ∃ mA, h.Ns1 dx mA ∧ ∀ f, RelO (fs.lookup f) (mA f) := hok dx _ e
theorem not_cls {o : Obj} {vs : Array Value} (h : o.data = .fields vs) : PySem.W.notCls o = true := by
  obtain ⟨c, d, dt, sl⟩ := o
  cases h
  rfl
theorem exAt_inst {pins : List (Addr × Obj)} {σ : L2.St} {H : Hp} {s : Shared} {a C : Addr} {fs : List (Str × V)} (I : Inv X pins σ H s) (h : ExAt H a C fs) : ∃ ox od, PySem.W.InstAt s.heap a ox C od := by
  rcases h with ⟨h, _⟩ | ⟨dx, h, hd⟩
  · obtain ⟨oe, vs, ho, hc, hx, hf⟩ := exg_at I.hok h
    exact ⟨oe, none, ho, hc, not_cls hf, by rw [hx]; trivial⟩
  · obtain ⟨oe, vs, ho, hc, hx, hf⟩ := exg_at I.hok h
    obtain ⟨mA, hns, _⟩ := xd_at I.hok hd
    obtain ⟨od, hod, _⟩ := lookIn_ns hns
    exact ⟨oe, some od, ho, hc, not_cls hf, by rw [hx]; exact hod⟩
/-- e.f -/
def tXg (K : PySem.W.Frag) (f : Str) (te : TE) : TE := fun σ H Q => te σ H fun x H1 => ∃ (a C : Addr) (fs : List (Str × V)) (v : V), x = .ref a ∧ XfC K C ∧ PySem.W.findIn K (.ref C) f = some none ∧ ExAt H1 a C fs ∧ fs.lookup f = some v ∧ Q v H1
theorem pe_xg {K : PySem.W.Frag} (hK : X.K = K) {e : Expr} {te : TE} {pos : Pos} {n : Str} (he : PE X e te) (hb : attributeBase e n X.env (eval e X.env) = eval e X.env := by rfl) : PE X (.Attribute e n pos) (tXg K n te) := by
  subst hK
  refine ⟨fun pins s σ H Q I h => ?_⟩
  refine attr_of hb (thn (he.run pins s σ H _ I h) fun u s1 hh => ?_)
  obtain ⟨x, H1, I1, rx, a, C, fs, v, ex, T, hno, ea, l, q⟩ := hh
  subst ex
  obtain rfl : u = Value.ref a := rx
  rcases ea with ⟨_, e0⟩ | ⟨dx, ea, ed⟩
  · rw [e0] at l
    cases l
  · obtain ⟨oe, vs, ho, hc, hx, hf⟩ := exg_at I1.hok ea
    obtain ⟨mA, hns, hr⟩ := xd_at I1.hok ed
    obtain ⟨od, hod, hl⟩ := lookIn_ns hns
    obtain ⟨u, hu, ru⟩ := RelO.some_of (v := v) (o := mA n) (by rw [← l]; exact hr n)
    have J : PySem.W.InstAt s1.heap a oe C (some od) := ⟨ho, hc, not_cls hf, by rw [hx]; exact hod⟩
    exact HandSPX.exc_get I1.kIn J T.ga T.gg T.exC (PySem.W.findObj_own T.hdC hno rfl (by rw [hl, hu])) (handed_of ru) ⟨v, H1, I1.tok _, ru, q⟩
theorem cls_some {K : PySem.W.Frag} {D : Addr} (h : PySem.W.hasDictIn K D = true) : (PySem.W.clsIn K D).isSome = true := by
  obtain ⟨cd, e, _⟩ := PySem.W.any_some h
  rw [e]
  rfl
/-- isinstance(e, c) -/
def rIsX (K : PySem.W.Frag) : List V → Hp → VK → Prop := fun xs H Q => ∃ (a D : Addr) (fs : List (Str × V)) (c : V) (cv : Value) (b : Bool), xs = [.ref a, c] ∧ ExcC K D ∧ ExAt H a D fs ∧ (∀ u, RelV c u → u = cv) ∧ PySem.W.kitOne K (.ref D) cv = some b ∧ Q (.bl b) H
theorem call_isX {K : PySem.W.Frag} (hK : X.K = K) : CallR X (.builtin "isinstance") (rIsX K) := by
  subst hK
  intro pins s σ H xs us Q I r h
  obtain ⟨a, D, fs, c, cv, b, rfl, C, ea, hcv, e, q⟩ := h
  cases r with
  | cons rx rr =>
    cases rr with
    | cons rt rr =>
      cases rr
      cases rx
      have ec := hcv _ rt
      subst ec
      obtain ⟨ox, od, J⟩ := exAt_inst I ea
      exact PySem.W.kia_one (PySem.W.kitx_exc (cls_some C.hd) C.hg C.hk C.hs C.ha C.hn C.ht C.hm) I.kIn J e (fun z => nomatch z) fun tk => ⟨.bl b, H, I.kept (t' := tk) fun _ _ z => z, rfl, q⟩
end
end Dn
set_option Elab.async false
set_option linter.all false
set_option maxRecDepth 100000
set_option maxHeartbeats 2000000
namespace Dn
open PySem PySem.Spec PyProof.Rows L2
variable [CTab]
def spI1 (C : Addr) (n : Str) : Sp := fun vs H Q _ => ∃ a v, vs = [.ref a, v] ∧ H a = some (exo a C none) ∧ ∀ dx, H dx = none → dx ≠ a → Q .non (upd (upd H dx (exd dx [(n, v)])) a (exo a C (some dx)))
section
variable {P : Program} {w : World} {K : PySem.W.Frag} {mg : Str → Option Value} {base : Heap} {C : Addr} {n m p1 p2 qual : Str} {st : Stmt} {f : Addr} {fd : FuncData} {q1 q2 q3 q4 q5 q6 q7 q8 : Pos}
/-- def __init__(self, p): self.n = p -/
theorem ok_init1 (F : Fun K "__init__" qual st f fd) (S : FnScope ["self", p1] ["self", p1] (defScope st)) (T : OexG K C) (hno : PySem.W.findIn K (.ref C) n = some none)
    (hb : defBody st = [.Assign [.Attribute (.Name "self" q1) n q2] (.Name p1 q3) q4]) (hd : (p1 == ("__debug__" : Str)) = false) (hcd : (p1 == ("__classdict__" : Str)) = false)
    (hv0 : Vis (defScope st) "self") (hv1 : Vis (defScope st) p1) (hs : ∀ env, swapsWith (.Name p1 q3) (some (.Attribute (.Name "self" q1) n q2)) q4.line env = pure false) :
    FnOk P w K mg base CX0 1 f fd ["self", p1] (spI1 C n) := by
  refine F.ok S (fun vs H Q E h => ?_) (fun cdv A outer s H vs Q E hr h => ?_)
  · obtain ⟨a, v, rfl, _⟩ := h
    rfl
  · obtain ⟨a, v, rfl, ha, k⟩ := h
    rw [hb]
    refine ⟨_, pss_one (ps_ostX (pe_var (i := 0) rfl hv0 (by decide) (by decide)) (pe_var (i := 1) rfl hv1 hd hcd) (hs _)), ?_⟩
    refine ⟨v, rfl, .ref a, rfl, a, C, rfl, T, hno, .inl ⟨ha, fun dx h1 h2 => k dx h1 h2⟩⟩
end
def Ex0K (K : PySem.W.Frag) (C : Addr) : Prop := ∃ ii, OexB K C ii ∧ PySem.W.findIn K (.ref C) "__init__" = some (some (.builtin ii))
section
variable {σ : L2.St} {B H : Hp} {K : PySem.W.Frag} {C : Nat} {n m : Str}
def excF (N : Nat → Bool) (n : Str) : U → Option U
  | .exc C fs => if N C = true then fs.lookup n else none
  | _ => none
theorem Rpf.lookX {B : Hp} {n : Str} {z : U} : ∀ {fs : List (Str × U)} {es : List (Str × V)}, Rpf B fs es → fs.lookup n = some z → ∃ v, es.lookup n = some v ∧ Rp B z v
  | _, _, .nil, h => by cases h
  | _, _, @Rpf.cons _ _ k x v fs es r t, h => by
    rw [List.lookup_cons] at h ⊢
    cases e : (n == k) with
    | true =>
      simp only [e] at h ⊢
      cases h
      exact ⟨v, rfl, r⟩
    | false =>
      simp only [e] at h ⊢
      exact Rpf.lookX t h
theorem exAt_of {x : U} {C : Nat} {fs : List (Str × U)} {v : V} {H2 : Hp} {B2 : Hp} (s : Ok B2 H2) (r : Rp B2 (.exc C fs) v) : ∃ a es, v = .ref a ∧ ExAt H2 a (CTab.ct C) es ∧ Rpf B2 fs es := by
  cases r with
  | exc0 h => exact ⟨_, [], rfl, .inl ⟨s _ _ h, rfl⟩, .nil⟩
  | exc h k r => exact ⟨_, _, rfl, .inr ⟨_, s _ _ h, s _ _ k⟩, r⟩
theorem eo_xg {te : TE} {oa : Option U} {N : Nat → Bool} (hx : ∀ C, N C = true → XfC K (CTab.ct C) ∧ PySem.W.findIn K (.ref (CTab.ct C)) n = some none) (h : EvO te σ B H oa) : EvO (tXg K n te) σ B H (op1 (excF N n) oa) := fun z e B1 H1 g Q q => by
  obtain ⟨x, ex, e⟩ := bind_some e
  refine h x ex B1 H1 g _ fun v B2 H2 g2 r => ?_
  match x, e, r with
  | .exc C fs, e, r =>
    have e : (if N C = true then fs.lookup n else none) = some z := e
    split at e
    · rename_i hC
      obtain ⟨a, es, rfl, ha, rf⟩ := exAt_of (x := .non) g2.bh r
      obtain ⟨v, ev, rv⟩ := rf.lookX e
      exact ⟨a, _, es, v, rfl, (hx C hC).1, (hx C hC).2, ha, ev, q v B2 H2 g2 rv⟩
    · cases e
def isaX (N : Nat → Bool) (tab : Nat → Bool) : U → Option U
  | .exc C _ => if N C = true then some (.bl (tab C)) else none
  | _ => none
theorem eo_isX {te : TE} {oa : Option U} {N : Nat → Bool} {tab : Nat → Bool} {c : V} {cv : Value} (hcv : ∀ u, RelV c u → u = cv) (hx : ∀ C, N C = true → ExcC K (CTab.ct C) ∧ PySem.W.kitOne K (.ref (CTab.ct C)) cv = some (tab C)) (h : EvO te σ B H oa) :
    EvO (tCB (rIsX K) (tCons te (tCons (tC c) tNil))) σ B H (op1 (isaX N tab) oa) := fun z e B1 H1 g Q q => by
  obtain ⟨x, ex, e⟩ := bind_some e
  refine h x ex B1 H1 g _ fun v B2 H2 g2 r => ?_
  match x, e, r with
  | .exc C fs, e, r =>
    have e : (if N C = true then some (U.bl (tab C)) else none) = some z := e
    split at e
    · rename_i hC
      cases e
      obtain ⟨a, es, rfl, ha, rf⟩ := exAt_of (x := .non) g2.bh r
      exact ⟨a, _, es, c, cv, _, rfl, (hx C hC).1, ha, hcv, (hx C hC).2, q _ B2 H2 g2 (.bl _)⟩
    · cases e
end
end Dn
set_option Elab.async false
set_option linter.all false
set_option maxRecDepth 100000
set_option maxHeartbeats 2000000
namespace Dn
open PySem PySem.Spec PyProof.Rows L2 PySem.SeqAt
variable [CTab]
def eqb (k : Bool) (v : Value) : Bool := match v with
  | .bool n => n == k
  | _ => false
theorem bl_at {k : Bool} {A : Around} {s : Shared} : ∀ {us : List Value} {ns : List Bool}, Vals (ns.map V.bl) us → (∀ y ∈ us, EqAt A s y (.bool k) (eqb k y)) ∧ us.countP (eqb k) = ns.count k
  | _, [], .nil => ⟨(fun y hy => by cases hy), rfl⟩
  | _, n :: ns, .cons r t => by
    obtain ⟨i1, i2⟩ := bl_at (k := k) (A := A) (s := s) t
    cases (show _ = Value.bool n from r)
    refine ⟨fun y hy => ?_, ?_⟩
    · rcases List.mem_cons.mp hy with e | e
      · rw [e]
        exact EqAt.bool_bool n k
      · exact i1 y e
    · rw [List.countP_cons, List.count_cons, i2] <;> rfl
def rCntB (K : PySem.W.Frag) : V → List V → Hp → VK → Prop := fun x xs H Q => ∃ (p : Addr) (ns : List Bool) (k : Bool), x = .ref p ∧ xs = [.bl k] ∧ SqL K H p (ns.map V.bl) ∧ Q (.int (ns.count k : Nat)) H
section
variable {X : Cx}
theorem mt_lcountB : MtR X "list.count" (rCntB X.K) := by
  intro pins s σ H x xs v us Q I rx rxs h
  obtain ⟨p, ns, k, rfl, rfl, hs, q⟩ := h
  cases rx
  obtain ⟨u, rfl, ru⟩ := rxs.one
  cases (show u = Value.bool k from ru)
  obtain ⟨its, rv, ⟨⟨cls, dd, data, sl⟩, n, ho, hc, hdn, hd⟩, hlen⟩ := I.list hs
  simp only at hc hd
  subst hc hd
  refine call_meets PySem.F.slot_list_count ⟨_, ho, rfl⟩ PySem.F.entry_list_count (PySem.F.args_list_count_2 _ _)
    (SeqAt.list_countAt p its.toArray n dd sl (.bool k) (eqb k)) ⟨ho, fun y hy => (bl_at rv).1 y (by simpa using hy), ?_⟩
  have ec : its.toArray.toList.countP (eqb k) = ns.count k := (bl_at (A := X.A) (s := s) rv).2
  refine ⟨.int (ns.count k : Nat), H, I.tok _, ⟨s.toks, ?_⟩, q⟩
  show Value.int ((its.toArray.toList.countP (eqb k) : Nat) : Int) s.toks = Value.int ((ns.count k : Nat) : Int) s.toks
  rw [ec]
theorem pe_countB {K : PySem.W.Frag} {o e : Expr} {es : List Expr} {apos cpos : Pos} {to : TE} {t : TA} (hK : X.K = K) (ho : PE X o to) (ha : PA X (e :: es) t) (hbase : attributeBase o "count" X.env (eval o X.env) = eval o X.env := by rfl)
    (hfew : ((backTo cpos (starEach (e :: es) X.env)).all (fun x => !x.1) && (backToKw cpos (keywordEach [] X.env)).all (fun x => x.1.isSome)
      && decide ((e :: es).length + ([] : List Keyword).length + (if ([] : List Keyword).isEmpty then 0 else 1) < 30)) = true := by rfl)
    (hline : (apos.endLine == cpos.line) = true := by rfl) (hs : starEach (e :: es) X.env = (false, eval e X.env) :: starEach es X.env := by rfl) (hplain : (backTo cpos (starEach es X.env)).any (·.1) = false := by rfl) :
    PE X (.Call (.Attribute o "count" apos) (e :: es) [] cpos) (tBM K "list" (rCntB K) to t) := hK ▸ pe_bm PySem.F.plainAttrs_list PySem.F.slot_list_count PySem.F.type_list_count mt_lcountB ho ha hbase hfew hline hs hplain
end
def countB : U → U → Option U
  | .lst xs, .bl y => (bools xs).map fun ss => .int (ss.count y : Nat)
  | _, _ => none
section
variable {K : PySem.W.Frag} {σ : L2.St} {B H : Hp} {ta tb : TE} {oa ob : Option U}
theorem eo_countB (ha : EvO ta σ B H oa) (hb : EvO tb σ B H ob) : EvO (tBM K "list" (rCntB K) ta (tCons tb tNil)) σ B H (op2 countB oa ob) := fun z e B1 H1 g Q q => by
  obtain ⟨x, ex, e⟩ := bind_some e
  obtain ⟨y, ey, e⟩ := bind_some e
  refine ha x ex B1 H1 g _ fun v B2 H2 g2 r2 => ?_
  cases r2 with
  | @lst a xs vs h r =>
    cases y with
    | bl y =>
      obtain ⟨ss, es, e⟩ := map_some (show (bools xs).map _ = some z from e)
      subst e
      have := r.bools es; subst this
      refine ⟨.inl ⟨rfl, _, SqL.of (g2.bh _ _ h)⟩, hb _ ey B2 H2 (g.trans g2) _ fun w B3 H3 g3 r3 => ?_⟩
      cases r3
      exact ⟨a, ss, y, rfl, rfl, SqL.of (g3.bh _ _ (g3.b _ _ h)), q _ B3 H3 (g2.trans g3) (.int _)⟩
    | _ => cases e
  | _ => cases y <;> cases e
end
def keyD : Key → PyData
  | .inl i => .int i
  | .inr x => .str x
mutual
def U.pyd : U → Option PyData
  | .non => some .none
  | .bl b => some (.bool b)
  | .int i => some (.int i)
  | .str z => some (.str z)
  | .tup xs => (U.pyds xs).map PyData.tuple
  | .tpd xs => (U.pyds xs).map PyData.tuple
  | .lst xs => (U.pyds xs).map PyData.list
  | .dic kvs => (U.pydk kvs).map PyData.dict
  | _ => none
def U.pyds : List U → Option (List PyData)
  | [] => some []
  | x :: xs => (U.pyd x).bind fun d => (U.pyds xs).map fun r => d :: r
def U.pydk : List (Key × U) → Option (List (PyData × PyData))
  | [] => some []
  | (k, x) :: xs => (U.pyd x).bind fun d => (U.pydk xs).map fun r => (keyD k, d) :: r
end
section
variable {X : Cx} {pins : List (Addr × Obj)} {σ : L2.St} {H : Hp} {s : Shared}
theorem not_sm (I : Inv X pins σ H s) (sm : SmB X.base) {a : Addr} {o : HO} (h : H a = some o) : a ≠ sysModules := fun z => by
  obtain ⟨ob, hb⟩ := sm
  have := (I.env0.bs _ _ hb).2
  rw [z] at h
  rw [h] at this
  cases this
theorem keys_reads {P : Program} {w : World} {h : Heap} : ∀ {es : List DictEntry} {ws : List (Key × Value)}, Pairs (mixKind P w) es ws → ReadsAll h (es.map (·.key)) (ws.map fun p => keyD p.1) [] ∧ es.map (·.val) = ws.map (·.2)
  | _, _, .nil => ⟨.nil, rfl⟩
  | _, _, @Pairs.cons _ _ _ _ _ e kv es kvs h1 h2 t => by
    obtain ⟨i1, i2⟩ := keys_reads (h := h) t
    obtain ⟨k, v⟩ := kv
    have hk : Reads h e.key (keyD k) [] := by
      rcases keyIs_shape (show keyIs k e.key = true from h1) with ⟨i, u, rfl, q⟩ | ⟨x, u, rfl, q⟩
      · rw [q]; exact Reads.int i u
      · rw [q]; exact Reads.str x u
    refine ⟨.cons hk i1, ?_⟩
    rw [List.map_cons, List.map_cons, i2]
    exact congrArg (· :: _) h2
mutual
theorem Rp.readsD (I : Inv X pins σ H s) (sm : SmB X.base) : ∀ {x : U} {v : V} {d : PyData} {u : Value}, Rp H x v → x.pyd = some d → RelV v u → ∃ as, Reads s.heap u d as ∧ sysModules ∉ as
  | _, _, _, _, .non, e, r => by cases e; cases r; exact ⟨_, Reads.none, by simp⟩
  | _, _, _, _, .bl b, e, r => by cases e; cases r; exact ⟨_, Reads.bool b, by simp⟩
  | _, _, _, _, .int b, e, r => by cases e; obtain ⟨t, rfl⟩ := r; exact ⟨_, Reads.int b t, by simp⟩
  | _, _, _, _, .str b, e, r => by cases e; obtain ⟨t, rfl⟩ := r; exact ⟨_, Reads.str b t, by simp⟩
  | _, _, _, _, @Rp.tup _ _ a xs vs h r0, e, r => by
    obtain ⟨ds, e1, e⟩ := map_some (show (U.pyds xs).map PyData.tuple = _ by simpa [U.pyd] using e)
    subst e
    cases r
    obtain ⟨its, rv, ⟨o, ho, hc, n, hd⟩, _⟩ := I.tuple (SqT.of h)
    obtain ⟨as, h1, h2⟩ := Rps.readsD I sm r0 e1 rv
    exact ⟨as, Reads.tuple ho hc hd h1, h2⟩
  | _, _, _, _, @Rp.tpd _ _ a xs vs ob h _ r0, e, r => by
    obtain ⟨ds, e1, e⟩ := map_some (show (U.pyds xs).map PyData.tuple = _ by simpa [U.pyd] using e)
    subst e
    cases r
    obtain ⟨its, rv, ⟨o, ho, hc, n, hd⟩, _⟩ := I.tuple (show SqT X.K H a vs from .inl (.inr ⟨ob, h⟩))
    obtain ⟨as, h1, h2⟩ := Rps.readsD I sm r0 e1 rv
    exact ⟨as, Reads.tuple ho hc hd h1, h2⟩
  | _, _, _, _, @Rp.lst _ _ a xs vs h r0, e, r => by
    obtain ⟨ds, e1, e⟩ := map_some (show (U.pyds xs).map PyData.list = _ by simpa [U.pyd] using e)
    subst e
    cases r
    obtain ⟨its, rv, ⟨o, n, ho, hc, _, hd⟩, _⟩ := I.list (SqL.of h)
    obtain ⟨as, h1, h2⟩ := Rps.readsD I sm r0 e1 rv
    refine ⟨_, Reads.list ho hc hd h1, fun z => ?_⟩
    rcases List.mem_cons.mp z with z | z
    · exact not_sm I sm h z.symm
    · exact h2 z
  | _, _, _, _, @Rp.dic _ _ a kvs es ob h r0, e, r => by
    obtain ⟨ds, e1, e⟩ := map_some (show (U.pydk kvs).map PyData.dict = _ by simpa [U.pyd] using e)
    subst e
    cases r
    obtain ⟨hs, hgd, hx, ents, ep, ws, hdt, hsz, kv, hm⟩ := I.frzK h
    obtain ⟨o', es', ho', hx', hd', hk', hp', hn'⟩ := hm
    rw [hgd] at ho'
    cases ho'
    rw [hdt] at hd'
    cases hd'
    obtain ⟨k1, k2⟩ := keys_reads (h := s.heap) hp'
    obtain ⟨as, h1, h2, h3⟩ := Rpk.readsD I sm r0 e1 kv
    refine ⟨_, Reads.dict hgd hx.1 hdt (by rw [h3]; exact k1) (by rw [k2]; exact h1), fun z => ?_⟩
    rcases List.mem_cons.mp (show sysModules ∈ a :: ([] ++ as) from z) with z | z
    · exact not_sm I sm h z.symm
    · exact h2 (by simpa using z)
  | _, _, _, _, .frl _ _, e, _ => by simp [U.pyd] at e
  | _, _, _, _, .dit _ _, e, _ => by simp [U.pyd] at e
  | _, _, _, _, .dib _ _ _, e, _ => by simp [U.pyd] at e
  | _, _, _, _, .mt, e, _ => by simp [U.pyd] at e
  | _, _, _, _, .exc0 _, e, _ => by simp [U.pyd] at e
  | _, _, _, _, .exc _ _ _, e, _ => by simp [U.pyd] at e
  | _, _, _, _, .obj _ _ _, e, _ => by simp [U.pyd] at e
theorem Rps.readsD (I : Inv X pins σ H s) (sm : SmB X.base) : ∀ {xs : List U} {vs : List V} {ds : List PyData} {us : List Value}, Rps H xs vs → U.pyds xs = some ds → Vals vs us → ∃ as, ReadsAll s.heap us ds as ∧ sysModules ∉ as
  | _, _, _, _, .nil, e, r => by simp [U.pyds] at e; subst e; cases r; exact ⟨_, .nil, by simp⟩
  | _, _, _, _, @Rps.cons _ _ x v xs vs h t, e, r => by
    obtain ⟨d, e1, e⟩ := bind_some (show (U.pyd x).bind (fun d => (U.pyds xs).map fun r => d :: r) = _ by simpa [U.pyds] using e)
    obtain ⟨ds, e2, e⟩ := map_some e
    subst e
    cases r with
    | cons r1 r2 =>
      obtain ⟨as, a1, a2⟩ := Rp.readsD I sm h e1 r1
      obtain ⟨bs, b1, b2⟩ := Rps.readsD I sm t e2 r2
      exact ⟨_, .cons a1 b1, fun z => (List.mem_append.mp z).elim a2 b2⟩
theorem Rpk.readsD (I : Inv X pins σ H s) (sm : SmB X.base) : ∀ {kvs : List (Key × U)} {es : List (Key × V)} {ds : List (PyData × PyData)} {ws : List (Key × Value)}, Rpk H kvs es → U.pydk kvs = some ds → KV es ws → ∃ as, ReadsAll s.heap (ws.map (·.2)) (ds.map (·.2)) as ∧ sysModules ∉ as ∧ ds.map (·.1) = ws.map fun p => keyD p.1
  | _, _, _, _, .nil, e, r => by simp [U.pydk] at e; subst e; cases r; exact ⟨_, .nil, by simp, rfl⟩
  | _, _, _, _, @Rpk.cons _ _ k x v xs vs h t, e, r => by
    obtain ⟨d, e1, e⟩ := bind_some (show (U.pyd x).bind (fun d => (U.pydk xs).map fun r => (keyD k, d) :: r) = _ by simpa [U.pydk] using e)
    obtain ⟨ds, e2, e⟩ := map_some e
    subst e
    cases r with
    | @cons _ q _ _ r1 r2 =>
      obtain ⟨q1, q2⟩ := q
      obtain ⟨rk, rv⟩ := r1
      obtain ⟨as, a1, a2⟩ := Rp.readsD I sm h e1 rv
      obtain ⟨bs, b1, b2, b3⟩ := Rpk.readsD I sm t e2 r2
      refine ⟨_, .cons a1 b1, fun z => (List.mem_append.mp z).elim a2 b2, ?_⟩
      rw [List.map_cons, List.map_cons, b3]
      exact congrArg (· :: _) (congrArg keyD rk)
end
end
def rReprD (b : Heap) : List V → Hp → VK → Prop := fun xs H Q => ∃ x v d, xs = [v] ∧ SmB b ∧ Rp H x v ∧ x.pyd = some d ∧ d.showable = true ∧ d.depth ≤ 40 ∧ d.shown.length ≤ sizeLine ∧ Q (.str d.shown) H
theorem call_reprD {X : Cx} {b : Heap} (hB : X.base = b) (hg : X.A.guards = some []) (hu : X.A.units + 64 < cLine) : CallR X (.builtin "repr") (rReprD b) := by
  subst hB
  intro pins s σ H xs us Q I rx h
  obtain ⟨x, v, d, rfl, sm, hd, hp, h1, h3, h4, q⟩ := h
  obtain ⟨u, rfl, ru⟩ := vals1 rx
  obtain ⟨as, rd, na⟩ := hd.readsD I sm hp ru
  have fin : ∀ a, u = .ref a → wpAny (model X.prog X.w) X.A (call (.builtin "repr") [u]) (EP X pins σ Q) X.xe s := fun a e => by
    subst e
    exact repr_of_reads' rd h1 (fun _ => na) hg (by omega) (fun b o e => e) (fun h' u tk hk => ⟨.str _, H, I.kept (t' := tk) hk, ⟨_, rfl⟩, q⟩) h4
  cases hd with
  | non => cases hp; cases ru; exact PySem.P.repr_of_none ⟨.str _, H, I.kept (t' := s.toks + 1) (fun b o e => e), ⟨_, rfl⟩, q⟩
  | bl b => cases hp; cases ru; exact PySem.P.repr_of_bool ⟨.str _, H, I.kept (t' := s.toks + 1) (fun b o e => e), ⟨_, rfl⟩, q⟩
  | int i =>
    cases hp
    obtain ⟨t, rfl⟩ := ru
    exact PySem.P.repr_of_int (by simpa [PyData.showable] using h1) ⟨.str _, H, I.kept (t' := s.toks + 1) (fun b o e => e), ⟨_, rfl⟩, q⟩
  | str i =>
    cases hp
    obtain ⟨t, rfl⟩ := ru
    exact PySem.P.repr_of_str ⟨.str _, H, I.kept (t' := s.toks + 1) (fun b o e => e), ⟨_, rfl⟩, q⟩ h4
  | _ => exact fin _ ru
def reprD : U → Option U := fun x => x.pyd.bind fun d => if d.showable = true ∧ d.depth ≤ 40 ∧ d.shown.length ≤ lim then some (.str d.shown) else none
theorem rc_reprD {b : Heap} (sm : SmB b) : RC (rReprD b) (c1 reprD) := rc_one c1_one fun x z e v B H s rx Q q => by
  obtain ⟨d, ed, e⟩ := bind_some (show x.pyd.bind _ = _ from e)
  split at e
  · rename_i h
    cases e
    exact ⟨x, v, d, rfl, sm, rx.in s, ed, h.1, h.2.1, lim_size h.2.2, q _ B H (Go.refl s) (.str _)⟩
  · cases e
end Dn
set_option Elab.async false
set_option linter.all false
set_option maxRecDepth 100000
set_option maxHeartbeats 2000000
namespace Dn
open PySem PySem.Spec PyProof.Rows L2
theorem ex0_AE {K : PySem.W.Frag} {C : Addr} (h : ex0B K aeTail "ArithmeticError.__new__" "ArithmeticError.__init__" C = true) : Ex0K K C ∧ PySem.W.keepIn K (.ref C) = true := by
  obtain ⟨h1, h⟩ := Bool.and_eq_true_iff.mp h
  obtain ⟨h2, h3⟩ := Bool.and_eq_true_iff.mp h
  exact ⟨⟨_, oexB_AE h1, of_decide_eq_true h2⟩, h3⟩
theorem clsB_ok {K : PySem.W.Frag} {fs : List Str} {D : Addr} (h : clsB K fs D = true) (hn : PySem.W.specialIn K (.builtin "object.__class__") "__get__" = some (some (.builtin "getset_descriptor.__get__"))) (ht : PySem.W.takesIn K (.builtin "object.__class__") = some true) :
    ExcC K D ∧ XfC K D ∧ ∀ f ∈ fs, PySem.W.findIn K (.ref D) f = some none := by
  obtain ⟨h1, h⟩ := Bool.and_eq_true_iff.mp h
  obtain ⟨h2, h⟩ := Bool.and_eq_true_iff.mp h
  obtain ⟨h3, h⟩ := Bool.and_eq_true_iff.mp h
  obtain ⟨h4, h⟩ := Bool.and_eq_true_iff.mp h
  obtain ⟨h5, h⟩ := Bool.and_eq_true_iff.mp h
  obtain ⟨h6, h⟩ := Bool.and_eq_true_iff.mp h
  exact ⟨⟨of_decide_eq_true h1, of_decide_eq_true h2, of_decide_eq_true h3, h4, of_decide_eq_true h5, hn, ht, of_decide_eq_true h6⟩, ⟨of_decide_eq_true h1, of_decide_eq_true h2, of_decide_eq_true h3, h4⟩, fun f hf => of_decide_eq_true (List.all_eq_true.mp h f hf)⟩
theorem all_at {α : Type} {p : α → Bool} {l : List α} (h : l.all p = true) {x : α} (hx : x ∈ l) : p x = true := List.all_eq_true.mp h x hx
/-- by the classes' tags -/
theorem tag_all {L : List Addr} {b n : Nat} {p : Addr → Bool} (h : (List.range n).all (fun i => p (L.getD (b + i) 0)) = true) {C : Nat} (hC : decide (b ≤ C ∧ C < b + n) = true) : p (L.getD C 0) = true := by
  have hC := of_decide_eq_true hC
  have := List.all_eq_true.mp h (C - b) (List.mem_range.mpr (by omega))
  rwa [show b + (C - b) = C by omega] at this
theorem tag_map {L : List Addr} {b n : Nat} {f : Addr → Option Bool} {t : Nat → Bool} (h : (List.range n).map (fun i => f (L.getD (b + i) 0)) = (List.range n).map fun i => some (t (b + i))) {C : Nat} (hC : decide (b ≤ C ∧ C < b + n) = true) : f (L.getD C 0) = some (t C) := by
  have hC := of_decide_eq_true hC
  have := List.map_inj_left.mp h (C - b) (List.mem_range.mpr (by omega))
  rwa [show b + (C - b) = C by omega] at this
end Dn
set_option Elab.async false
set_option linter.all false
set_option maxRecDepth 100000
set_option maxHeartbeats 2000000
namespace Dn
open PySem PySem.Spec PyProof.Rows L2
variable [CTab]
/-- the dict of the exception that is let out -/
def RsAt (B : Hp) (d : Option Addr) (fs : List (Str × U)) : Prop := (d = none ∧ fs = []) ∨ ∃ dx es, d = some dx ∧ B dx = some (.xd es) ∧ Rpf B fs es
def OutE (E : XK) (z : U) (B H : Hp) : Prop := ∀ C fs, z = .rsd C fs → ∀ d B2 H2, Go B H B2 H2 → RsAt B2 d fs → E (.ref (CTab.ct C)) d H2
def spE (m : List U → Option U) : Sp := fun vs H Q E => ∃ B xs z, Ok B H ∧ Rps B xs vs ∧ m xs = some z ∧ (∀ v B2 H2, Go B H B2 H2 → Rp B2 z v → Q v H2) ∧ OutE E z B H
theorem OutE.go {E : XK} {z : U} {B H B2 H2 : Hp} (o : OutE E z B H) (g : Go B H B2 H2) : OutE E z B2 H2 := fun C fs e d B3 H3 g3 r => o C fs e d B3 H3 (g.trans g3) r
theorem rsd_no {B : Hp} {C : Nat} {fs : List (Str × U)} {v : V} (r : Rp B (.rsd C fs) v) : False := by cases r
section
variable {vs : List V} {H : Hp} {Q : VK} {E : XK}
theorem se2 {f : U → U → Option U} (h : spE (a2 f) vs H Q E) : ∃ B x y v w r, vs = [v, w] ∧ Ok B H ∧ Rp B x v ∧ Rp B y w ∧ f x y = some r ∧ (∀ v B2 H2, Go B H B2 H2 → Rp B2 r v → Q v H2) ∧ OutE E r B H := by
  obtain ⟨B, xs, r, s, rs, e, k⟩ := h
  match xs, rs, e with
  | [x, y], .cons r1 (.cons r2 .nil), e => exact ⟨B, x, y, _, _, r, rfl, s, r1, r2, e, k⟩
theorem se3 {f : U → U → U → Option U} (h : spE (a3 f) vs H Q E) : ∃ B x y z v w u r, vs = [v, w, u] ∧ Ok B H ∧ Rp B x v ∧ Rp B y w ∧ Rp B z u ∧ f x y z = some r ∧ (∀ v B2 H2, Go B H B2 H2 → Rp B2 r v → Q v H2) ∧ OutE E r B H := by
  obtain ⟨B, xs, r, s, rs, e, k⟩ := h
  match xs, rs, e with
  | [x, y, z], .cons r1 (.cons r2 (.cons r3 .nil)), e => exact ⟨B, x, y, z, _, _, _, r, rfl, s, r1, r2, r3, e, k⟩
end
def EvX (te : XK → TE) (σ : L2.St) (B H : Hp) (o : Option U) : Prop :=
  ∀ z, o = some z → ∀ B1 H1, At B B1 H1 → ∀ (Q : VK) (E : XK), (∀ v B2 H2, Go B1 H1 B2 H2 → Rp B2 z v → Q v H2) → OutE E z B1 H1 → te E σ H1 Q
/-- what comes behind: an exception goes on -/
def onR {α : Type} (x : U) (out : Nat → List (Str × U) → α) (k : U → α) : α := match x with
  | .rsd C fs => out C fs
  | x => k x
def bindR (o : Option U) (k : U → Option U) : Option U := o.bind fun x => onR x (fun C fs => some (.rsd C fs)) k
theorem onR_val {α : Type} {B : Hp} {x : U} {v : V} {out : Nat → List (Str × U) → α} {k : U → α} (r : Rp B x v) : onR x out k = k x := by
  cases x with
  | rsd C fs => exact (rsd_no r).elim
  | _ => rfl
section
variable {σ : L2.St} {B H B0 H0 : Hp} {ta : TA} {te : TE} {tx : XK → TE} {oa : Option (List U)} {o : Option U} {m : List U → Option U} {E : XK} {tz : TS} {D : Ends} {r : U}
theorem ex_call (h : EvA ta σ B H oa) : EvX (fun E => tCall (spE m) [] E ta) σ B H (callO m oa) := fun z e B1 H1 g Q E q oe => by
  obtain ⟨xs, ex, e⟩ := bind_some e
  refine h xs ex B1 H1 g _ fun vs B2 H2 g2 r2 => ?_
  show spE m (vs ++ []) H2 Q E
  rw [List.append_nil]
  exact ⟨B2, xs, z, g2.bh, r2, e, fun v B3 H3 g3 r3 => q v B3 H3 (g2.trans g3) r3, oe.go g2⟩
theorem q_exprX {f : U → Option U} (h : EvX tx σ B H o) (e : bindR o f = some r) (g : Go B0 H0 B H) (ke : OutE E r B0 H0) (k : ∀ x v B1 H1, Go B H B1 H1 → Rp B1 x v → f x = some r → tz D σ H1) : tSeq (tDrop (tx E)) tz D σ H := by
  obtain ⟨x, ex, e⟩ := bind_some e
  refine h x ex B H (Go.refl g.bh) _ E (fun v B2 H2 g2 r2 => k x v B2 H2 g2 r2 (by rw [onR_val r2] at e; exact e)) fun C fs ec d B2 H2 g2 rs => ?_
  subst ec
  cases e
  exact ke C fs rfl d B2 H2 (g.trans g2) rs
end
def tMkX (C : Addr) (sp : Sp) (ta : TA) : L2.St → Hp → XK → Prop := fun σ H Q => ta σ H fun vs H1 => vs.length ≤ 1000 ∧ ∀ a, H1 a = none → sp (.ref a :: vs) (upd H1 a (exo a C none)) (fun v H2 => v = .non ∧ ∃ d fs, H2 a = some (exo a C (some d)) ∧ H2 d = some (exd d fs) ∧ H1 d = none ∧ Q (.ref C) (some d) (upd (del H2 a) d (.xd fs))) (fun _ _ _ => False)
theorem pmk_excX {X : Cx} {e : Expr} {es : List Expr} {ta : TA} {p pos : Pos} {CX : CXT} {x : Str} {C fI : Addr} {k : Nat} {fd : FuncData} {ps : List Str} {sp : Sp} (T : OexG X.K C) (rr : Raises X (.ref C)) (iC : PySem.W.findIn X.K (.ref C) "__init__" = some (some (.ref fI))) (tI : PySem.W.typeIn X.K (.ref fI) = some (.type "function"))
    (F1 : FnOk X.prog X.w X.K X.mg X.base CX k fI fd ps sp) (hr : Room (k + 1) X.A) (hb : Binds X.K fd ps []) (hx : Passes CX X (fun _ _ _ => False)) (hg : Gl X x) (hm : X.mg x = some (.ref C)) (ha : PA X (e :: es) ta)
    (hdb : (x == ("__debug__" : Str)) = false := by decide) (he : starEach (e :: es) X.env = (false, eval e X.env) :: starEach es X.env := by rfl) (hpl : (backTo pos (starEach es X.env)).any (·.1) = false := by rfl) :
    PMk X (.Call (.Name x p) (e :: es) [] pos) (tMkX C sp ta) := by
  intro pins s σ H Q I h
  obtain ⟨_, ⟨newId, B, bmB, FB, _, hI, _⟩, _⟩ := T.base
  refine wpAny_Call_Name_kw (ld_glob I hg hm (PySem.W.callWith_K (h₀ := X.base) I.ok.mod.kin T.kC (thn (ha.run pos pins s σ H _ I h) fun us s1 ⟨vs, H1, I1, r1, hz, q1⟩ => ⟨I1.kIn, ?_⟩) he hpl) hdb)
  show wpAny _ _ (call (.ref C) us) _ _ _
  obtain ⟨hp, g, dr, tk, os⟩ := s1
  obtain ⟨nm, N, qn, bs, bm, hdct, sn, sub, ab, col, dd, k0, k1, k2, k3, k5, hC, hT⟩ := PySem.W.excInit_of I1.kIn hI
  have hsz : hp.objs.size ≤ hp.objs.size + 1 := Nat.le_succ _
  have hq := q1 (hp.objs.size + 1) (I1.hok.fresh hsz)
  have up : ∀ b o, hp.get? b = some o → (PySem.Dnx.excH hp us C).get? b = some o := fun b o e => Heap.get?_push_of_some _ (Heap.get?_push_of_some _ e)
  have me : (PySem.Dnx.excH hp us C).get? (hp.objs.size + 1) = some (HandSPX.excO C hp.objs.size) := by heap_get
  have I2 : Inv X pins σ (upd H1 (hp.objs.size + 1) (exo (hp.objs.size + 1) C none)) ⟨PySem.Dnx.excH hp us C, g, dr, tk, os⟩ := I1.laid (t' := tk) (h' := PySem.Dnx.excH hp us C) up hsz (exo_ok me)
  have r2 : Vals (V.ref (hp.objs.size + 1) :: vs) (Value.ref (hp.objs.size + 1) :: us) := .cons rfl r1
  have b := hb _ (.ref (hp.objs.size + 1) :: us) I2.kIn (by rw [List.append_nil, ← r2.length]; exact F1.len _ _ _ _ hq)
  rw [List.append_nil] at b
  refine wpAny_call (PySem.Dnx.exc_call FB hT hC (PySem.W.looks_findIn I1.kIn iC) (fun self => PySem.W.bind_fn I1.kIn self tI) (by rw [← Paired.length r1, sizeLine_eq]; omega)
    (codeAny_mono (F1.run _ X.stack _ _ ⟨.ref (hp.objs.size + 1) :: us, []⟩ _ _ _ (fun _ _ _ => False) (hr.make C us []) (I2.env0.make C us []) b r2 hq) fun r s' hq' => ?_))
  match r, hq' with
  | .error er, hq' => exact hx pins σ _ _ er s' I2 hq'
  | .ok .next, hq' => exact False.elim hq'
  | .ok .brk, hq' => exact False.elim hq'
  | .ok .cont, hq' => exact False.elim hq'
  | .ok (.ret u), hq' =>
    obtain ⟨v, H2, os2, bare2, un2, hok2, rv, ev, d, fs, ea, ed, hd1, q2⟩ := hq'
    subst ev
    obtain ⟨h2, g2, d2, t2, os'⟩ := s'
    exact ⟨rv, mk_end rr I1 hsz up un2 hok2 os2 bare2 ea ed hd1 q2⟩
end Dn
set_option Elab.async false
set_option linter.all false
set_option maxRecDepth 100000
set_option maxHeartbeats 2000000
namespace Dn
open PySem PySem.Spec PyProof.Rows L2
variable [CTab]
def tRaiseX (E : XK) (t : L2.St → Hp → XK → Prop) : TS := fun _ σ H => t σ H fun cls d H' => E cls d H'
section
variable {P : Program} {w : World} {K : PySem.W.Frag} {mg : Str → Option Value} {base : Heap} {N : List Str} {qual : Str} {sc : Scope} {f : Addr} {cdv : Value} {A : Around} {outer : List Env} {s : Shared} {H : Hp} {E : XK}
abbrev cxX (P : Program) (w : World) (K : PySem.W.Frag) (mg : Str → Option Value) (base : Heap) (N : List Str) (qual : Str) (sc : Scope) (f : Addr) (cdv : Value) (A : Around) (outer : List Env) (s : Shared) (H : Hp) (E : XK) : Cx := cxOf (L2.CX P w) P w K mg base N qual sc f cdv A outer s H E
theorem takesD : Takes (cxX P w K mg base N qual sc f cdv A outer s H E) (fun cls d _ H => E cls d H) := takes_of rfl rfl rfl rfl
theorem passD : Passes (L2.CX P w) (cxX P w K mg base N qual sc f cdv A outer s H E) E := passes_call takesD fun _ _ _ _ h => h
theorem ps_raiseX {e : Expr} {t : L2.St → Hp → XK → Prop} {pos : Pos} (he : PMk (cxX P w K mg base N qual sc f cdv A outer s H E) e t) : PS (cxX P w K mg base N qual sc f cdv A outer s H E) (.Raise (some e) none pos) (tRaiseX E t) := ps_raise rfl takesD he
/-- a def that may raise -/
theorem Fun.okX {x : Str} {st : Stmt} {fd : FuncData} {ps : List Str} {k : Nat} {sp : Sp} (F : Fun K x qual st f fd) (S : FnScope N ps (defScope st)) (len : ∀ vs H Q E, sp vs H Q E → vs.length = ps.length)
    (hb : ∀ (cdv : Value) (A : Around) (outer : List Env) (s : Shared) (H : Hp) (vs : List V) (Q : VK) (E : XK), Room k (A.deeper (envOfC qual (defScope st) s.heap.objs.size f cdv)) → sp vs H Q E →
      ∃ t, PSs (cxX P w K mg base N qual (defScope st) f cdv A outer s H E) (defBody st) t ∧ t { nx := fun _ H' => Q .non H', rt := Q } (start N vs) H) : FnOk P w K mg base (L2.CX P w) (k + 1) f fd ps sp := by
  obtain ⟨oc, od, kV, doc, pm, an, cdv, ct, osl, rfl, lk, cd⟩ := F.ex
  exact fn_of lk cd S len fun A outer s H vs Q E hr h => hb cdv A outer s H vs Q E hr h
end
def rs1 (C : Nat) (n : Str) : List U → Option U
  | [x] => some (.rsd C [(n, x)])
  | _ => none
theorem upd_del {H H' : Hp} {a d : Addr} {e : HO} (h : ∀ c, c ≠ a → c ≠ d → H' c = H c) (ha : H a = none) (ne : d ≠ a) : upd (del H' a) d e = upd H d e := by
  funext c
  by_cases h2 : c = d
  · subst h2; rw [upd_same, upd_same]
  · rw [upd_ne h2, upd_ne h2]
    by_cases h1 : c = a
    · subst h1; rw [del_same, ha]
    · rw [del_ne h1]; exact h c h1 h2
section
variable {σ : L2.St} {B H B0 H0 : Hp} {ta : TA} {oa : Option (List U)} {E : XK} {tz : TS} {D : Ends} {r : U} {C : Nat} {n m : Str}
theorem q_raise1 (h : EvA ta σ B H oa) (e : callO (rs1 C n) oa = some r) (g : Go B0 H0 B H) (ke : OutE E r B0 H0) : tSeq (tRaiseX E (tMkX (CTab.ct C) (spI1 (CTab.ct C) n) ta)) tz D σ H := by
  obtain ⟨xs, ex, e⟩ := bind_some e
  match xs, e with
  | [x], e =>
    cases e
    refine h _ ex B H (Go.refl g.bh) _ fun vs B2 H2 g2 r2 => ?_
    match vs, r2 with
    | [v], .cons rv .nil =>
      refine ⟨show 1 ≤ 1000 by decide, fun a ha => ⟨a, v, rfl, upd_same, fun dx h1 h2 => ⟨rfl, dx, [(n, v)], upd_same, by rw [upd_ne h2, upd_same], ?_, ?_⟩⟩⟩
      · rw [upd_ne h2] at h1; exact h1
      · rw [upd_ne h2] at h1
        rw [upd_del (H := H2) (fun c c1 c2 => by rw [upd_ne c1, upd_ne c2, upd_ne c1]) ha h2]
        have gn := Go.new (o := .xd [(n, v)]) g2.bh h1
        exact ke C _ rfl _ _ _ ((g.trans g2).trans gn) (.inr ⟨dx, _, rfl, upd_same, .cons (rv.up gn) .nil⟩)
end
section
variable {X : Cx} {pins : List (Addr × Obj)} {σ : L2.St} {H H1 : Hp} {s s1 : Shared}
/-- tables that were not there before are not told of -/
noncomputable def cutT (H H1 : Hp) : Hp := fun b => match H b, H1 b with
  | none, some (.tbl _) => none
  | _, o => o
theorem cutT_some {b : Addr} {o : HO} (h : cutT H H1 b = some o) : H1 b = some o := by
  unfold cutT at h
  split at h
  · cases h
  · exact h
theorem cutT_old {b : Addr} {o : HO} (h : H b = some o) : cutT H H1 b = H1 b := by
  unfold cutT
  rw [h]
theorem cutT_nt {b : Addr} {o : HO} (h : H1 b = some o) (n : NT o) : cutT H H1 b = some o := by
  unfold cutT
  rw [h]
  cases o with
  | tbl ps => cases n
  | _ => cases H b <;> rfl
theorem cutT_none {b : Addr} (h : H1 b = none) : cutT H H1 b = none := by
  unfold cutT
  rw [h]
  cases H b <;> rfl
theorem inv_cut (I : Inv X pins σ H s) (I1 : Inv X pins σ H1 s1) : Inv X pins σ (cutT H H1) s1 := by
  refine ⟨I1.ok, I1.os, I1.bare, ⟨I1.base.keep, I1.base.slot, fun b o e n x => cutT_none (I1.base.free b o e n x), I1.base.there, fun b xs e => cutT_nt (I1.base.tups b xs e) rfl, fun b o u e => cutT_nt (I1.base.frzs b o u e) rfl, fun b ps e => ?_⟩, I1.loc, I1.cell, cutT_none I1.free, fun x c e => cutT_none (I1.freeC x c e), fun p hp => ?_, fun b u e => ?_, I1.len⟩
  · obtain ⟨more, z⟩ := I.base.tbls b ps e
    rw [cutT_old z]
    exact I1.base.tbls b ps e
  · obtain ⟨a1, a2, a3, a4, a5⟩ := I1.pin p hp
    exact ⟨a1, cutT_none a2, a3, a4, a5⟩
  · exact (I1.hok b u (cutT_some e)).stay (fun _ _ _ z => z) (fun c z => cutT_nt z rfl) fun c xs z => cutT_nt z rfl
end
/-- x(lambda: body) -/
def tLamT (TT : (XK → Hp → VK → Prop) → Hp → VK → Prop) (t : XK → TE) : TE := fun σ H Q => LamX.Tabs CTab.tb H ∧ ∀ H1, LamX.ExtN H H1 → (∀ b, H b = none → ∀ ps, H1 b ≠ some (.tbl ps)) → LamX.Tabs CTab.tb H1 → TT (fun E H' Q' => t E σ H' Q') H1 Q
theorem pe_lamT {X : Cx} {TT : (XK → Hp → VK → Prop) → Hp → VK → Prop} {x a : Str} {g c P : Addr} {k : Nat} {pg : Arguments} {bg : List Stmt} {sg : Scope} {dV kV doc pm cdv ct oc : Value} {an od : Option Addr} {osl : Array (Option Value)} {Ng : List Str}
    {params : Arguments} {body : Expr} {scope : Scope} {t : XK → TE} {p lpos pos : Pos} (hg : Gl X x) (hm : X.mg x = some (.ref g)) (hk : PySem.W.keepIn X.K (.ref g) = true)
    (lk : X.K.lookup g = some ⟨oc, od, .func (PySem.W.fnOf x x pg bg sg dV kV doc pm an cdv ct), osl⟩) (hcg : PySem.W.codeIn X.K cdv x = true) (hb : L2.Binds X.K (PySem.W.fnOf x x pg bg sg dV kV doc pm an cdv ct) [a] []) (Sg : FnScope Ng [a] sg) (hNg : Ng[0]? = some a) (hva : Vis sg a)
    (hG : LamX.GivesTo X Ng x sg g cdv bg a (X.env.qual ++ "<lambda>") TT)
    (TB : LamX.TabB X.base X.mg c P) (hcode : X.env.code = .ref c) (hmT : (P, X.env.qual ++ "<lambda>") ∈ CTab.tb) (hu : ∀ p ∈ CTab.tb, p.1 = P → p.2 = X.env.qual ++ "<lambda>") (hr : Room (k + 2) X.A) (L : LamX.LamS X.env.scope scope) (hdef : defaultsOf params X.env = ([], []))
    (hbind : ∀ (q : Str) (cl : List (Str × Addr)) (pm cv ctv : Value), bindArgs (PySem.W.kla_fn "<lambda>" q params body scope cl pm cv ctv) ⟨[], []⟩ = pure [])
    (hbody : ∀ (A : Around) (outer : List Env) (s : Shared) (H : Hp) (E : XK) (f c' : Addr), Room k (A.deeper (LamX.lamEnv X scope s.heap.objs.size f c')) → PE (LamX.lamCx X A outer s H E scope f c') body (t E))
    (hdb : (x == ("__debug__" : Str)) = false := by decide) (hd : (a == ("__debug__" : Str)) = false := by decide) (hcd : (a == ("__classdict__" : Str)) = false := by decide) :
    PE X (.Call (.Name x p) [.Lambda params body scope lpos] [] pos) (tLamT TT t) := by
  refine ⟨fun pins s σ H Q I h => ?_⟩
  obtain ⟨hT, h⟩ := h
  refine wpAny_Call_Name_kw (ld_glob I hg hm (PySem.W.callWith_K (h₀ := X.base) I.ok.mod.kin hk (show wpAny _ _ (spliced ((false, eval (.Lambda params body scope lpos) X.env) :: backTo pos (starEach [] X.env))) _ _ s from
    Calls.spliced_cons (LamX.lam_make2 I TB hcode hmT hu hT hdef (L.has I.ok) fun f c' pm' ctv H1 s' I1 eN T1 hf hfn hfr hco => Calls.spliced_nil ⟨I1.kIn, ?_⟩)) (by rfl) (by rfl)) hdb)
  have J : Inv X pins σ (cutT H H1) s' := inv_cut I I1
  have eN' : LamX.ExtN H (cutT H H1) := fun b o e n => by rw [cutT_old e]; exact eN b o e n
  have T1' : LamX.Tabs CTab.tb (cutT H H1) := fun p hp => by
    obtain ⟨ps0, h0, _⟩ := hT p hp
    obtain ⟨ps, h1, h2, h3⟩ := T1 p hp
    refine ⟨ps, by rw [cutT_old h0]; exact h1, h2, fun pos cv hc => ?_⟩
    obtain ⟨c0, e1, e2⟩ := h3 pos cv hc
    exact ⟨c0, e1, cutT_nt e2 rfl⟩
  have nw : ∀ b, H b = none → ∀ ps, cutT H H1 b ≠ some (.tbl ps) := fun b n ps z => by
    have z1 := cutT_some z
    unfold cutT at z
    rw [n, z1] at z
    cases z
  have rc : codeAny (model X.prog X.w) X.A (.call (.ref g) ⟨[.ref f], []⟩) (CR C8.CX0 X.stack X.prog X.w (cutT H H1) s' Q C8.E0) s' := by
    refine LamX.run_ofS (N := Ng) (ps := [a]) (us := [.ref f]) (vs := [.ref f]) lk hcg Sg hr J.env0 (hb s' [.ref f] J.kIn rfl) (.cons rfl .nil) rfl fun hr' => ?_
    obtain ⟨t', ht', hq'⟩ := hG f c' s' (cutT H H1) Q (fun E H' Q' => t E σ H' Q') (fun W pn xe E p1 p2 tk hW => LamX.pe_act (i := 0) J L hf (cutT_none hfn) hfr (hbind _ _ _ _ _) tk hW hr' (fun A outer s H hr2 => hbody A outer s H E f c' hr2) hNg hva hd hcd) (cutT_nt hco rfl) (h _ eN' nw T1')
    exact ⟨t', ht'.nox, hq'⟩
  refine wpAny_call (codeAny_mono rc fun r s2 hq => ?_)
  match r, hq with
  | .error e, hq => exact (show False from hq).elim
  | .ok .next, hq => exact False.elim hq
  | .ok .brk, hq => exact False.elim hq
  | .ok .cont, hq => exact False.elim hq
  | .ok (.ret u), hq => exact J.after hq
end Dn
set_option Elab.async false
set_option linter.all false
set_option maxRecDepth 100000
set_option maxHeartbeats 2000000
namespace Dn
open PySem PySem.Spec PyProof.Rows L2
structure FnQ (P : Program) (w : World) (K : PySem.W.Frag) (mg : Str → Option Value) (base : Heap) (CX : CXT) (k : Nat) (f : Addr) (fd : FuncData) (ps : List Str) (sp : Sp) : Prop where
  len : ∀ vs H Q E, sp vs H Q E → vs.length = ps.length
  run : ∀ (A : Around) (outer : List Env) (s : Shared) (H : Hp) (args : Args) (us : List Value) (vs : List V) (Q : VK) (E : XK), A.guards = some [] → L2H.RoomH k A → Env0 P w K mg base A outer s H → BindsTo s fd args (ps.zip us) → Vals vs us → sp vs H Q E →
    codeAny (model P w) A (.call (.ref f) args) (CR CX outer P w H s Q E) s
theorem _root_.L2H.RoomH.units {k : Nat} {A : Around} (r : L2H.RoomH k A) : A.units + 64 < cLine := by have := r.un; omega
section
variable {P : Program} {w : World} {K : PySem.W.Frag} {mg : Str → Option Value} {base : Heap}
theorem Fun.okQ {x qual : Str} {st : Stmt} {f : Addr} {fd : FuncData} {N ps : List Str} {k : Nat} {sp : Sp} (F : Fun K x qual st f fd) (S : FnScope N ps (defScope st)) (len : ∀ vs H Q E, sp vs H Q E → vs.length = ps.length)
    (hb : ∀ (cdv : Value) (A : Around) (outer : List Env) (s : Shared) (H : Hp) (vs : List V) (Q : VK) (E : XK) (p : Addr × Obj), A.guards = some [] → L2H.RoomH k (A.deeper (envOfC qual (defScope st) s.heap.objs.size f cdv)) → sp vs H Q E →
      ∃ t, PSs (L2H.cxH CX0 P w K mg base N qual (defScope st) f cdv A outer s H E p).nox (defBody st) t ∧ t { nx := fun _ H' => Q .non H', rt := Q } (start N vs) H) : FnQ P w K mg base CX0 (k + 1) f fd ps sp := by
  obtain ⟨oc, od, kV, doc, pm, an, cdv, ct, osl, rfl, lk, cd⟩ := F.ex
  refine ⟨len, fun A outer s H args us vs Q E hg hr e0 hbn r sp1 => ?_⟩
  have ln := len _ _ _ _ sp1
  have kin : K.In s.heap := e0.mod.kin.keeps fun b o e => (e0.bs b o e).1
  have nl : s.heap.NoLimit := e0.mod.nolimit.keeps fun b o e => (e0.bs b o e).1
  have kd : ∀ y ∈ ps.zip us, (defScope st).names.lookup y.1 = some .local ∨ ((defScope st).names.lookup y.1 = some .cell ∧ ((cellsFrom (s.heap.objs.size + 1) (defScope st).names []).lookup y.1).isSome = true) := fun ⟨n, v⟩ hy => by
    rcases S.par n (List.of_mem_zip hy).1 with z | z
    · exact .inl z
    · exact .inr ⟨z, PySem.W.cellsFrom_some _ _ _ (.inl z)⟩
  have nfr : f ∉ frs outer := fun hm => by
    have := (e0.funs.mem hm).1
    rw [e0.mod.kin _ _ lk] at this; cases this
  have pin : L2H.PinOk outer H s (f, _) := ⟨kin _ _ lk, (e0.bs _ _ (e0.mod.kin _ _ lk)).2, nfr, fun v z => by cases z⟩
  refine codeAny_call_function hr.depth (kin _ _ lk) rfl S.co S.gen rfl (PySem.W.codeRec_of kin cd) (hbn _ _ _ _ ?_)
  refine wpAny_newFunctionEnv_cells S.kind kd fun env he s1 x1 => ?_
  subst he
  refine ⟨nl.keeps x1.toInCall.keep, codeAny_func ?_⟩
  obtain ⟨t, ht, q⟩ := hb cdv A outer s H vs Q E _ hg (hr.deeper _) sp1
  have I := L2H.inv_startH (CX := CX0) (E := E) S pin e0 ln r x1
  refine wpAny_mono (ht.nox.run [] s1 (start N vs) H _ I q) (fun fl s2 hs => ?_) fun e s2 hs => hs
  cases fl with
  | ret u =>
    obtain ⟨v, σ2, H2, J, rv, q2⟩ := hs
    exact ⟨v, H2, J.os, J.bare, J.base, J.hok, rv, q2⟩
  | next =>
    obtain ⟨σ2, H2, J, q2⟩ := hs
    exact ⟨V.non, H2, J.os, J.bare, J.base, J.hok, rfl, q2⟩
  | brk =>
    obtain ⟨_, _, _, q2⟩ := hs
    exact False.elim q2
  | cont =>
    obtain ⟨_, _, _, q2⟩ := hs
    exact False.elim q2
end
theorem pe_callQ {X : Cx} {CX : CXT} {k : Nat} {f : Addr} {fd : FuncData} {ps : List Str} {sp : Sp} {E : XK} {x : Str} {p pos : Pos} {e : Expr} {es : List Expr} {t : TA} (F : FnQ X.prog X.w X.K X.mg X.base CX k f fd ps sp) (hg0 : X.A.guards = some []) (hr : L2H.RoomH k X.A) (hg : Gl X x) (hm : X.mg x = some (.ref f)) (hk : PySem.W.keepIn X.K (.ref f) = true) (hb : Binds X.K fd ps []) (hx : Passes CX X E)
    (ha : PA X (e :: es) t) (hdb : (x == ("__debug__" : Str)) = false := by decide) (he : starEach (e :: es) X.env = (false, eval e X.env) :: starEach es X.env := by rfl) (hpl : (backTo pos (starEach es X.env)).any (·.1) = false := by rfl) :
    PE X (.Call (.Name x p) (e :: es) [] pos) (tCall sp [] E t) := by
  refine ⟨fun pins s σ H Q I h => wpAny_Call_Name_kw (ld_glob I hg hm (PySem.W.callWith_K (h₀ := X.base) I.ok.mod.kin hk (thn (ha.run pos pins s σ H _ I h) fun us s1 ⟨vs, H1, I1, r, q⟩ => ⟨I1.kIn, ?_⟩) he hpl) hdb)⟩
  have q' : sp vs H1 Q E := by
    have z : sp (vs ++ []) H1 Q E := q
    rwa [List.append_nil] at z
  have hl : us.length = ps.length := by rw [← r.length]; exact F.len _ _ _ _ q'
  have b := hb s1 us I1.kIn (by rw [List.append_nil]; exact hl)
  rw [List.append_nil] at b
  refine wpAny_call (codeAny_mono (F.run X.A X.stack s1 H1 ⟨us, []⟩ us vs Q E hg0 hr I1.env0 b r q') fun r s' hq => ?_)
  match r, hq with
  | .error e, hq => exact hx pins σ H1 s1 e s' I1 hq
  | .ok .next, hq => exact False.elim hq
  | .ok .brk, hq => exact False.elim hq
  | .ok .cont, hq => exact False.elim hq
  | .ok (.ret u), hq => exact I1.after hq
/-- what is wished of an exception: both classes' look hits, and the suite does -/
def wTup (K : PySem.W.Frag) (c1 c2 : Addr) (i m : Nat) (ts : Addr → TS) (D : Ends) : WX := fun cls d σ H => ∃ C, cls = .ref C ∧ PySem.W.exmAny K (.ref C) [.ref c1, .ref c2] = some true ∧
  (σ.length = m → ∀ a, H a = none → ts a { nx := fun σ' H' => D.nx (σ'.set i none) H', rt := D.rt, bk := fun σ' H' => D.bk (σ'.set i none) H', ct := fun σ' H' => D.ct (σ'.set i none) H' } (σ.set i (some (.ref a))) (upd H a (exg a C d)))
section
variable {X : Cx} {pins : List (Addr × Obj)} {σ : L2.St} {H : Hp} {s : Shared}
theorem inv_suite (I : Inv X pins σ H s) (a : Addr) : Inv (X.suite a (X.pn ++ pins)) [] σ H s :=
  ⟨I.ok.suite _ _, I.os, I.bare, I.base, I.loc, I.cell, I.free, I.freeC, fun p hp => I.pin p (by rw [List.append_nil] at hp; exact hp), I.hok, I.len⟩
theorem inv_unsuite {a : Addr} {pn' : List (Addr × Obj)} (I : Inv (X.suite a (X.pn ++ pins)) pn' σ H s) (ok : X.Ok) : Inv X pins σ H s :=
  ⟨ok, I.os, I.bare, I.base, I.loc, I.cell, I.free, I.freeC, fun p hp => I.pin p (List.mem_append_left _ hp), I.hok, I.len⟩
theorem fly_push {B h : Heap} {l : List Env} {a : Addr} {Z : Obj → Prop} (x : HandSPX.FlyingZ B l a Z h) (o : Obj) : HandSPX.FlyingZ B l a Z (h.push o) := by
  obtain ⟨f1, f2, f3, oe, vs, T, oT, ts, e1, e2, e3, e4, e5, e6, e7, e8, e9⟩ := x
  exact ⟨fun b u e => Heap.get?_push_of_some _ (f1 b u e), f2, Heap.FunFrames.of_keeps (fun b u e _ => ⟨u, Heap.get?_push_of_some _ e, rfl⟩) f3, oe, vs, T, oT, ts, Heap.get?_push_of_some _ e1, e2, e3, e4, e5, e6, Heap.get?_push_of_some _ e7, e8, e9⟩
end
section
variable {X : Cx} {x1 x2 n : Str} {c1 c2 : Addr} {i : Nat} {body suite : List Stmt} {b₀ : Stmt} {p1 p2 tp pos pos' : Pos} {tb : WX → TS} {ts : Addr → TS}
theorem ps_tryT {cx} (hs : X.stack = X.env :: X.outer) (hf : X.env.frame = some X.env.locals) (hN : X.N.Nodup) (hi : X.N[i]? = some n) (hln : X.env.kindOf n = some .local) (g1 : Gl X x1) (m1 : X.mg x1 = some (.ref c1)) (g2 : Gl X x2) (m2 : X.mg x2 = some (.ref c2))
    (hb : ∀ (W : WX) (pn : List (Addr × Obj)) (xe : Value → Shared → Prop), Takes (X.tr pn xe) W → PassesOwn (model X.prog X.w) X.A X.env xe → PSs (X.tr pn xe) body (tb W))
    (hsu : ∀ (a : Addr) (pn : List (Addr × Obj)), PSs (X.suite a pn) (b₀ :: suite) (ts a)) (d1 : (x1 == ("__debug__" : Str)) = false := by decide) (d2 : (x2 == ("__debug__" : Str)) = false := by decide)
    (hst : ∀ env, starEach [.Name x1 p1, .Name x2 p2] env = [(false, eval (.Name x1 p1) env), (false, eval (.Name x2 p2) env)] := by intro _; rfl) :
    PS X (.Try body [.ExceptHandler (some (.Tuple [.Name x1 p1, .Name x2 p2] cx tp)) (some n) (b₀ :: suite) pos'] [] [] pos) (fun D σ H => tb (wTup X.K c1 c2 i X.N.length ts D) D σ H) := by
  refine ⟨fun pins s σ H D I h => ?_⟩
  have ok := I.ok
  have hfr : X.A.frames = some (X.env :: X.outer) := by rw [ok.frames, hs]
  refine wpAny_Try_except ?_
  refine wpAny_mono ((hb (wTup X.K c1 c2 i X.N.length ts D) (X.pn ++ pins) (fun e s₁ => wpAny (model X.prog X.w) X.A (noteFrame e X.env) (fun _ s₂ => wpAny (model X.prog X.w) X.A (setFlight e none) (fun _ s₃ =>
    wpAny (model X.prog X.w) X.A (handleBy e X.env [.ExceptHandler (some (.Tuple [.Name x1 p1, .Name x2 p2] cx tp)) (some n) (b₀ :: suite) pos']) (SP X pins D) X.xe s₃) X.xe s₂) X.xe s₁) (fun u s' xx => ?_) PassesOwn.looking).run [] s σ H D (I.toTry _) h) (fun f s1 hsp => ?_) (fun e s1 he => he)
  · obtain ⟨a, B, sI, pins', σ', H', cls, d, rfl, J', nb, up, sky, na, os, ag, C, rfl, hx, hyes⟩ := xx
    have J : Inv X pins σ' H' sI := J'.ofTry ok
    rw [show (X.tr (X.pn ++ pins) _).stack = X.env :: X.outer from hs] at sky
    show wpAny (model X.prog X.w) X.A (noteFrame (.ref a) X.env) _ _ _
    refine Sky.land Zc.steady hfr hf sky fun h3 fl3 up3 => ?_
    have J3 : Inv X pins σ' H' { s' with heap := h3 } := J.landed nb fl3.1 (up.trans up3) os ag
    obtain ⟨oe3, vs3, he3, hz3, hd3⟩ := fl3.there
    have S3 := inv_suite J3 a
    refine wpAny_handleBy_cons (codeAny_handlers_test (wpAny_Tuple_spliced ?_)) (by intro q; cases q)
    rw [hst]
    refine Calls.spliced_cons (ld_glob (X := X.suite a (X.pn ++ pins)) S3 g1 m1 (Calls.spliced_cons (ld_glob (X := X.suite a (X.pn ++ pins)) S3 g2 m2 (Calls.spliced_nil ⟨by show 2 ≤ sizeLine; decide, ?_⟩) d2)) d1)
    have fl5 := fly_push fl3 { cls := .type "tuple", data := .seq [Value.ref c1, Value.ref c2].toArray }
    have J5 : Inv X pins σ' H' { s' with heap := h3.push { cls := .type "tuple", data := .seq [Value.ref c1, Value.ref c2].toArray } } := J3.kept (t' := s'.toks) fun b o e => Heap.get?_push_of_some _ e
    have LT : PySem.W.Looks (model X.prog X.w) (h3.push { cls := .type "tuple", data := .seq [Value.ref c1, Value.ref c2].toArray }) (typeOf (.ref a)) (.ref C) := fun A Q E s k q => wpAny_typeOf_ref (k _ _ (Heap.get?_push_of_some _ he3)) (by rw [hz3.1]; exact q)
    refine (PySem.W.exm_tup2 (M := model X.prog X.w) J5.kIn LT (Heap.get?_push_size _ rfl) hx).here ?_
    refine codeAny_handlers_suite_as ?_
    refine HandSPX.lands_againZ fl5 fun h4 fl4 up4 => ?_
    obtain ⟨oe4, vs4, he4, hz4, hd4⟩ := fl4.there
    -- the heap without the exception is a state of ours, then it is laid
    obtain ⟨G, q1, q2⟩ := restrict h4 fun b => decide (b ≠ a)
    have gk : ∀ b, b ≠ a → G.get? b = h4.get? b := fun b hb => q1 b (decide_eq_true hb)
    have ga : G.get? a = none := q2 a (by simp)
    have fIa : ∀ b o, sI.heap.get? b = some o → b ≠ a := fun b o e z => by
      subst z
      by_cases hm : b ∈ frs (X.env :: X.outer)
      · obtain ⟨_, o', e', hnf⟩ := fl4.2.2.1.mem hm
        rw [he4] at e'; cases e'
        exact hnf _ hd4
      · have z2 := nb b o e (by rw [show (X.tr (X.pn ++ pins) _).stack = X.env :: X.outer from hs]; exact hm)
        rw [fl4.2.1] at z2; cases z2
    have up34 : sI.heap.UpToSlots h4 := by
      have u1 := up.trans up3
      have u2 : h3.UpToSlots (h3.push { cls := .type "tuple", data := .seq [Value.ref c1, Value.ref c2].toArray }) := Heap.UpToSlots.of_keeps fun b o e => Heap.get?_push_of_some _ e
      exact (u1.trans u2).trans up4
    have JG : Inv X pins σ' H' { s' with heap := G } := J.landed nb (fun b o e => by
      have hb : b ≠ a := fun z => by rw [z, fl4.2.1] at e; cases e
      rw [gk b hb]; exact fl4.1 b o e) (fun b o e hn => by
      obtain ⟨sl, e1⟩ := up34 b o e hn
      exact ⟨sl, by rw [gk b (fIa b o e)]; exact e1⟩) os ag
    have J4 : Inv X pins σ' (upd H' a (exg a C d)) { s' with heap := h4, toks := s'.toks } := JG.laidN (t' := s'.toks) (fun b u e => by
      have hb : b ≠ a := fun z => by
        have e' : G.get? b = some u := e
        rw [z, ga] at e'; cases e'
      exact (gk b hb).symm.trans e) ga na (exg_ok he4 hz4.1 hz4.2 hd4)
    refine store_ok (X := X.suite a (X.pn ++ pins)) (v := .ref a) (inv_suite J4 a) hN hi (.inl hln) rfl (fun s5 S5 => ?_) (.inr hln)
    refine wpAny_mono ((hsu a (X.pn ++ pins)).run [] s5 _ _ _ S5 (hyes J'.len a na)) (fun f s6 hsp => ?_) (fun _ _ z => False.elim z)
    have end_ : ∀ {σ6 : L2.St} {H6 : Hp} {Q : Shared → Prop}, Inv (X.suite a (X.pn ++ pins)) [] σ6 H6 s6 → (∀ s7, Inv X pins (σ6.set i none) H6 s7 → Q s7) →
        wpAny (model X.prog X.w) X.A (do bindName X.env n .none; unbindBehindTheSuite X.env n pos') (fun _ s7 => Q s7) X.xe s6 := fun {σ6 H6 Q} S6 hq => gone_ok (inv_unsuite S6 ok) hN hi hln hq
    cases f with
    | next =>
      obtain ⟨σ6, H6, S6, q6⟩ := hsp
      exact end_ S6 fun s7 J7 => ⟨_, _, J7, q6⟩
    | brk =>
      obtain ⟨σ6, H6, S6, q6⟩ := hsp
      exact end_ S6 fun s7 J7 => ⟨_, _, J7, q6⟩
    | cont =>
      obtain ⟨σ6, H6, S6, q6⟩ := hsp
      exact end_ S6 fun s7 J7 => ⟨_, _, J7, q6⟩
    | ret u =>
      obtain ⟨v6, σ6, H6, S6, r6, q6⟩ := hsp
      exact end_ S6 fun s7 J7 => ⟨_, _, _, J7, r6, q6⟩
  · cases f with
    | next =>
      obtain ⟨σ', H', J', q⟩ := hsp
      exact wpAny_execs_nil ⟨σ', H', J'.ofTry ok, q⟩
    | brk =>
      obtain ⟨σ', H', J', q⟩ := hsp
      exact ⟨σ', H', J'.ofTry ok, q⟩
    | cont =>
      obtain ⟨σ', H', J', q⟩ := hsp
      exact ⟨σ', H', J'.ofTry ok, q⟩
    | ret u =>
      obtain ⟨v, σ', H', J', r, q⟩ := hsp
      exact ⟨v, σ', H', J'.ofTry ok, r, q⟩
end
end Dn
set_option Elab.async false
set_option linter.all false
set_option maxRecDepth 100000
set_option maxHeartbeats 2000000
namespace Dn
open PySem PySem.Spec PyProof.Rows L2
variable [CTab]
/-- the exception that is caught, sorted and asked -/
def Caught (K : PySem.W.Frag) (c1 c2 : Addr) (ms ma : List U → Option U) (Q : VK) : XK := fun cls d H' =>
  ∃ C, cls = .ref C ∧ PySem.W.exmAny K (.ref C) [.ref c1, .ref c2] = some true ∧ ∀ a, H' a = none → spU ms [.ref a] (upd H' a (exg a C d)) (fun w H2 => spU ma [.ref a, w] H2 (fun x H3 => ∀ p, H3 p = none → Q (.ref p) (upd H3 p (.tup [w, x]))) C8.E0) C8.E0
def TTold (K : PySem.W.Frag) (c1 c2 : Addr) (ms ma : List U → Option U) (ret : Str) : (XK → Hp → VK → Prop) → Hp → VK → Prop := fun tl H Q =>
  ∀ (Qr : VK) (Er : XK), (∀ v H', (∀ p, H' p = none → Q (.ref p) (upd H' p (.tup [.str ret, v]))) → Qr v H') → (∀ cls d H', Caught K c1 c2 ms ma Q cls d H' → Er cls d H') → tl Er H Qr
theorem spU_mono {m : List U → Option U} {vs : List V} {H : Hp} {Q Q' : VK} {E E' : XK} (h : spU m vs H Q E) (k : ∀ v H', Q v H' → Q' v H') : spU m vs H Q' E' := by
  obtain ⟨B, xs, r, s, rs, e, q⟩ := h
  exact ⟨B, xs, r, s, rs, e, fun v B2 H2 g2 r2 => k _ _ (q v B2 H2 g2 r2)⟩
theorem roomH_mark {k : Nat} {A : Around} {x : Option Value} (r : L2H.RoomH k A) : L2H.RoomH k (A.mark x) := ⟨r.dp, r.un⟩
section
variable {X : Cx} {x job gave e word srt att x1 x2 q ret : Str} {sg : Scope} {g c1 c2 f1 f2 : Addr} {cdg : Value} {fd1 fd2 : FuncData} {qs1 qs2 qs3 : Str} {k1 k2 j : Nat} {ms ma : List U → Option U} {p1 p2 p3 p4 p5 p6 p7 p8 p9 p10 p11 p12 p13 p14 p15 p16 p17 p18 p19 p20 p21 p22 p23 p24 p25 : Pos}
theorem told_gives {y1 y2 y3} (S : FnScope [job, gave, e, word] [job] sg) (F1 : FnQ X.prog X.w X.K X.mg X.base CX0 k1 f1 fd1 [qs1] (spU ms)) (F2 : FnQ X.prog X.w X.K X.mg X.base CX0 k2 f2 fd2 [qs2, qs3] (spU ma)) (hgd : X.A.guards = some [])
    (hr1 : L2H.RoomH (k1 + 1) X.A) (hr2 : L2H.RoomH (k2 + 1) X.A) (l0 : sg.names.lookup job = some .local) (l1 : sg.names.lookup gave = some .local) (l2 : sg.names.lookup e = some .local) (l3 : sg.names.lookup word = some .local)
    (gs : sg.names.lookup srt = some .globalImplicit) (ga : sg.names.lookup att = some .globalImplicit) (g1 : sg.names.lookup x1 = some .globalImplicit) (g2 : sg.names.lookup x2 = some .globalImplicit)
    (m1 : X.mg x1 = some (.ref c1)) (m2 : X.mg x2 = some (.ref c2)) (ms1 : X.mg srt = some (.ref f1)) (ma1 : X.mg att = some (.ref f2)) (kp1 : PySem.W.keepIn X.K (.ref f1) = true) (kp2 : PySem.W.keepIn X.K (.ref f2) = true) (b1 : Binds X.K fd1 [qs1] []) (b2 : Binds X.K fd2 [qs2, qs3] [])
    (dg : (gave == ("__debug__" : Str)) = false) (dg' : (gave == ("__classdict__" : Str)) = false) (de : (e == ("__debug__" : Str)) = false) (de' : (e == ("__classdict__" : Str)) = false) (dw : (word == ("__debug__" : Str)) = false) (dw' : (word == ("__classdict__" : Str)) = false)
    (ds : (srt == ("__debug__" : Str)) = false) (da : (att == ("__debug__" : Str)) = false) (d1 : (x1 == ("__debug__" : Str)) = false) (d2 : (x2 == ("__debug__" : Str)) = false) :
    LamX.GivesTo X [job, gave, e, word] x sg g cdg [.Try [.Assign [.Name gave p1] (.Call (.Name job p2) [] [] p3) p4] [.ExceptHandler (some (.Tuple [.Name x1 p5, .Name x2 p6] y1 p7)) (some e) [.Assign [.Name word p8] (.Call (.Name srt p9) [.Name e p10] [] p11) p12, .Return (some (.Tuple [.Name word p13, .Call (.Name att p14) [.Name e p15, .Name word p16] [] p17] y2 p18)) p19] p20] [] [] p21,
      .Return (some (.Tuple [.Constant (.str ret) j p22, .Name gave p23] y3 p24)) p25] job q (TTold X.K c1 c2 ms ma ret) := by
  intro f c' s H Q tl act hc h
  have nd := S.nd
  refine ⟨_, pss_cons (ps_tryT (X := (cxOf C8.CX0 X.prog X.w X.K X.mg X.base [job, gave, e, word] x sg g cdg X.A X.stack s H C8.E0).nox) (i := 2) (c1 := c1) (c2 := c2)
      (tb := fun W D σ H => ∃ Ech : XK, (∀ cls d σ' H', Ech cls d H' → W cls d σ' H') ∧ σ[0]? = some (some (.ref f)) ∧ H c' = some (LamX.CodeO c' q) ∧ tl Ech H fun v H1 => D.nx (σ.set 1 (some v)) H1)
      (ts := fun a => tSeq (tAsg (tCall (spU ms) [] C8.E0 (tCons (tVar 2) tNil)) (gName 3)) (tSeq (tRet (tTup (tCons (tVar 3) (tCons (tCall (spU ma) [] C8.E0 (tCons (tVar 2) (tCons (tVar 3) tNil))) tNil)))) tNext))
      rfl rfl nd rfl l2 g1 m1 g2 m2 (fun W pn xe tk _ => ?_) (fun a pn => ?_) d1 d2) (pss_cons (ps_ret (pe_tup (pa_cons pe_str (pa_cons (pe_var (i := 1) rfl (.inl l1) dg dg') pa_nil)))) pss_nil), ?_⟩
  · refine ⟨fun pins s' σ H' D I h' => ?_⟩
    obtain ⟨Ech, hW, h1, h2, h3⟩ := h'
    have hp := act W pn xe Ech p2 p3 tk hW
    have hq : PSs _ [.Assign [.Name gave p1] (.Call (.Name job p2) [] [] p3) p4] _ := pss_one (ps_set (i := 1) nd rfl (.inl l1) hp)
    exact hq.run pins s' σ H' D I ⟨h1, h2, h3⟩
  · refine pss_cons (ps_set (i := 3) nd rfl (.inl l3) (pe_callQ F1 hgd (roomH_mark (hr1.deeper _)) gs ms1 kp1 b1 pass0 (pa_cons (pe_var (i := 2) rfl (.inl l2) de de') pa_nil) ds)) (pss_cons (ps_ret (pe_tup (pa_cons (pe_var (i := 3) rfl (.inl l3) dw dw') (pa_cons (pe_callQ F2 hgd (roomH_mark (hr2.deeper _)) ga ma1 kp2 b2 pass0 (pa_cons (pe_var (i := 2) rfl (.inl l2) de de') (pa_cons (pe_var (i := 3) rfl (.inl l3) dw dw') pa_nil)) da) pa_nil)))) pss_nil)
  · refine ⟨Caught X.K c1 c2 ms ma Q, fun cls d σ' H' ⟨C, e1, e2, e3⟩ => ⟨C, e1, e2, fun hl a na => ?_⟩, rfl, hc, h _ _ (fun v H' k => ?_) fun _ _ _ z => z⟩
    · match σ', hl with
      | [s0, s1, s2, s3], _ =>
        refine ⟨.ref a, rfl, spU_mono (E' := C8.E0) (e3 a na) fun w H2 k2 => ⟨w, rfl, .ref a, rfl, w, rfl, spU_mono (E' := C8.E0) k2 fun x H3 k3 => ⟨show 2 ≤ sizeLine by decide, k3⟩⟩⟩
    · exact ⟨v, rfl, show 2 ≤ sizeLine by decide, k⟩
end
theorem go_lam {B H H2 : Hp} (s : Ok B H) (eN : LamX.ExtN H H2) (nw : ∀ b, H b = none → ∀ ps, H2 b ≠ some (.tbl ps)) (T2 : LamX.Tabs CTab.tb H2) : Go B H B H2 := by
  refine ⟨fun a o e n => eN a o e fun ps => nt_ne n, fun a e => ?_, Same.refl _, ⟨fun a o e => eN a o (s a o e) fun ps => nt_ne (s.nt a o e), s.nt, T2, fun a ps e => ?_⟩, fun a o e => .inl e⟩
  · cases q : H a with
    | none => rfl
    | some o =>
      by_cases n : NT o
      · rw [eN a o q fun ps => nt_ne n] at e; cases e
      · cases o with
        | tbl ps =>
          obtain ⟨P, hP, rfl⟩ := List.mem_map.mp (s.ot a ps q)
          obtain ⟨ps2, h1, _⟩ := T2 P hP
          rw [e] at h1; cases h1
        | _ => exact absurd rfl n
  · cases q : H a with
    | none => exact absurd e (nw a q ps)
    | some o =>
      by_cases n : NT o
      · rw [eN a o q fun ps => nt_ne n] at e
        cases e
        cases n
      · cases o with
        | tbl ps' => exact s.ot a ps' q
        | _ => exact absurd rfl n
def toldV (ok : Nat → Bool) (ms ma : List U → Option U) (ret : Str) : U → Option U
  | .rsd C fs => if ok C = true then (ms [.exc C fs]).bind fun w => (ma [.exc C fs, w]).map fun x => .tup [w, x] else none
  | v => some (.tup [.str ret, v])
theorem toldV_val {ok : Nat → Bool} {ms ma : List U → Option U} {ret : Str} {B : Hp} {x : U} {v : V} (r : Rp B x v) : toldV ok ms ma ret x = some (.tup [.str ret, x]) := by
  cases x with
  | rsd C fs => exact (rsd_no r).elim
  | _ => rfl
theorem eo_told {K : PySem.W.Frag} {c1 c2 : Addr} {ms ma : List U → Option U} {ret : Str} {ok : Nat → Bool} {te : XK → TE} {σ : L2.St} {B H : Hp} {o : Option U} (hx : ∀ C, ok C = true → PySem.W.exmAny K (.ref (CTab.ct C)) [.ref c1, .ref c2] = some true) (h : EvX te σ B H o) :
    EvO (tLamT (TTold K c1 c2 ms ma ret) te) σ B H (o.bind (toldV ok ms ma ret)) := fun z e B1 H1 g Q q => by
  obtain ⟨x, ex, e⟩ := bind_some e
  refine ⟨g.bh.tb, fun H2 eN nw T2 Qr Er hq he => ?_⟩
  have gl := go_lam g.bh eN nw T2
  refine h x ex B1 H2 ⟨g.b, gl.bh⟩ Qr Er (fun v B3 H3 g3 r3 => hq v H3 fun p hp => ?_) fun C fs ec d B3 H3 g3 rs => he _ _ _ ?_
  · rw [toldV_val r3] at e
    cases e
    have gn := Go.new (o := .tup [.str ret, v]) g3.bh hp
    exact q _ _ _ ((gl.trans g3).trans gn) (.tup upd_same (.cons (.str _) (.cons (r3.up gn) .nil)))
  · subst ec
    have e : (if ok C = true then (ms [.exc C fs]).bind fun w => (ma [.exc C fs, w]).map fun x => U.tup [w, x] else none) = some z := e
    split at e
    · rename_i hok
      obtain ⟨w, ew, e⟩ := bind_some e
      obtain ⟨y, ey, e⟩ := map_some e
      subst e
      refine ⟨_, rfl, hx C hok, fun a ha => ?_⟩
      have gn := Go.new (o := exg a (CTab.ct C) d) g3.bh ha
      have rx : Rp (upd B3 a (exg a (CTab.ct C) d)) (.exc C fs) (.ref a) := by
        have sb : Same B3 (upd B3 a (exg a (CTab.ct C) d)) := gn.b
        rcases rs with ⟨rfl, rfl⟩ | ⟨dx, es, rfl, hd, rf⟩
        · exact .exc0 upd_same
        · exact .exc upd_same (sb _ _ hd) (rf.kp (Kp.of sb))
      refine ⟨_, [.exc C fs], w, gn.bh, .cons rx .nil, ew, fun wv B5 H5 g5 r5 => ⟨B5, [.exc C fs, w], y, g5.bh, .cons (rx.up g5) (.cons r5 .nil), ey, fun yv B6 H6 g6 r6 p hp => ?_⟩⟩
      have gp := Go.new (o := .tup [wv, yv]) g6.bh hp
      exact q _ _ _ (((((gl.trans g3).trans gn).trans g5).trans g6).trans gp) (.tup upd_same (.cons ((r5.up g6).up gp) (.cons (r6.up gp) .nil)))
    · cases e
end Dn
set_option Elab.async false
set_option linter.all false
set_option maxRecDepth 100000
set_option maxHeartbeats 2000000
namespace Dn
open PySem PySem.Spec PyProof.Rows L2
variable [CTab]
/-- the body of the def that tells what a call raises or returns -/
def IsTold (st : Stmt) : Prop := ∃ (y1 y2 y3 j : Nat) (p1 p2 p3 p4 p5 p6 p7 p8 p9 p10 p11 p12 p13 p14 p15 p16 p17 p18 p19 p20 p21 p22 p23 p24 p25 : Pos), defBody st = [.Try [.Assign [.Name "_law_gave" p1] (.Call (.Name "_law_job" p2) [] [] p3) p4] [.ExceptHandler (some (.Tuple [.Name "WrongValue" p5, .Name "NoAnswer" p6] y1 p7)) (some "_law_e") [.Assign [.Name "_law_word_here" p8] (.Call (.Name "_law_sort" p9) [.Name "_law_e" p10] [] p11) p12, .Return (some (.Tuple [.Name "_law_word_here" p13, .Call (.Name "_law_attribute" p14) [.Name "_law_e" p15, .Name "_law_word_here" p16] [] p17] y2 p18)) p19] p20] [] [] p21,
      .Return (some (.Tuple [.Constant (.str "returned") j p22, .Name "_law_gave" p23] y3 p24)) p25]
abbrev toldN : List Str := ["_law_job", "_law_gave", "_law_e", "_law_word_here"]
structure ToldS (sg : Scope) : Prop where
  sc : FnScope toldN ["_law_job"] sg
  l0 : sg.names.lookup ("_law_job" : Str) = some .local
  l1 : sg.names.lookup ("_law_gave" : Str) = some .local
  l2 : sg.names.lookup ("_law_e" : Str) = some .local
  l3 : sg.names.lookup ("_law_word_here" : Str) = some .local
  gs : sg.names.lookup ("_law_sort" : Str) = some .globalImplicit
  ga : sg.names.lookup ("_law_attribute" : Str) = some .globalImplicit
  g1 : sg.names.lookup ("WrongValue" : Str) = some .globalImplicit
  g2 : sg.names.lookup ("NoAnswer" : Str) = some .globalImplicit
/-- where a def's code object stands, its table -/
structure CodeAt (base : Heap) (mg : Str → Option Value) (q : Str) (fd : FuncData) (c P : Addr) : Prop where
  code : fd.code = .ref c
  tb : LamX.TabB base mg c P
  mem : (P, q) ∈ CTab.tb
  one : ∀ p ∈ CTab.tb, p.1 = P → p.2 = q
theorem pe_told {X : Cx} {st : Stmt} {g f1 f2 c1 c2 c Pt : Addr} {fd fd1 fd2 : FuncData} {qs1 qs2 qs3 : Str} {k k1 k2 : Nat} {ms ma : List U → Option U} {params : Arguments} {body : Expr} {scope : Scope} {t : XK → TE} {p lpos pos : Pos} {fdX : FuncData}
    (F : Fun X.K "_law_told" "_law_told" st g fd) (hg : Gl X "_law_told") (hm : X.mg "_law_told" = some (.ref g)) (hk : PySem.W.keepIn X.K (.ref g) = true) (hb : Binds X.K fd ["_law_job"] []) (S : ToldS (defScope st)) (hbd : IsTold st)
    (F1 : FnQ X.prog X.w X.K X.mg X.base CX0 k1 f1 fd1 [qs1] (spU ms)) (F2 : FnQ X.prog X.w X.K X.mg X.base CX0 k2 f2 fd2 [qs2, qs3] (spU ma)) (hgd : X.A.guards = some []) (hr : Room (k + 2) X.A) (hk1 : k1 ≤ k + 1) (hk2 : k2 ≤ k + 1)
    (m1 : X.mg "WrongValue" = some (.ref c1)) (m2 : X.mg "NoAnswer" = some (.ref c2)) (ms1 : X.mg "_law_sort" = some (.ref f1)) (ma1 : X.mg "_law_attribute" = some (.ref f2)) (kp1 : PySem.W.keepIn X.K (.ref f1) = true) (kp2 : PySem.W.keepIn X.K (.ref f2) = true) (b1 : Binds X.K fd1 [qs1] []) (b2 : Binds X.K fd2 [qs2, qs3] [])
    (CA : CodeAt X.base X.mg (X.env.qual ++ "<lambda>") fdX c Pt) (hcode : X.env.code = .ref c) (L : LamX.LamS X.env.scope scope) (hdef : defaultsOf params X.env = ([], []))
    (hbind : ∀ (q : Str) (cl : List (Str × Addr)) (pm cv ctv : Value), bindArgs (PySem.W.kla_fn "<lambda>" q params body scope cl pm cv ctv) ⟨[], []⟩ = pure [])
    (hbody : ∀ (A : Around) (outer : List Env) (s : Shared) (H : Hp) (E : XK) (f c' : Addr), Room k (A.deeper (LamX.lamEnv X scope s.heap.objs.size f c')) → PE (LamX.lamCx X A outer s H E scope f c') body (t E)) :
    PE X (.Call (.Name "_law_told" p) [.Lambda params body scope lpos] [] pos) (tLamT (TTold X.K c1 c2 ms ma "returned") t) := by
  obtain ⟨oc, od, kV, doc, pm, an, cdv, ct, osl, rfl, lk, cd⟩ := F.ex
  have r0 := L2H.roomH_of hr
  refine pe_lamT (Ng := toldN) (k := k) hg hm hk lk cd hb S.sc rfl (.inl S.l0) ?_ CA.tb hcode CA.mem CA.one hr L hdef hbind hbody
  obtain ⟨y1, y2, y3, j, p1, p2, p3, p4, p5, p6, p7, p8, p9, p10, p11, p12, p13, p14, p15, p16, p17, p18, p19, p20, p21, p22, p23, p24, p25, hbd⟩ := hbd
  rw [hbd]
  exact told_gives S.sc F1 F2 hgd (r0.mono (by omega)) (r0.mono (by omega)) S.l0 S.l1 S.l2 S.l3 S.gs S.ga S.g1 S.g2 m1 m2 ms1 ma1 kp1 kp2 b1 b2 (by decide) (by decide) (by decide) (by decide) (by decide) (by decide) (by decide) (by decide) (by decide) (by decide)
section
variable {P : Program} {w : World} {K : PySem.W.Frag} {mg : Str → Option Value} {base : Heap}
theorem Fun.okL {x qual : Str} {st : Stmt} {f c : Addr} {fd : FuncData} {N ps : List Str} {k : Nat} {sp : Sp} (F : Fun K x qual st f fd) (hc : fd.code = .ref c) (S : FnScope N ps (defScope st)) (len : ∀ vs H Q E, sp vs H Q E → vs.length = ps.length)
    (hb : ∀ (A : Around) (outer : List Env) (s : Shared) (H : Hp) (vs : List V) (Q : VK) (E : XK), A.guards = some [] → Room k (A.deeper (envOfC qual (defScope st) s.heap.objs.size f (.ref c))) → sp vs H Q E →
      ∃ t, PSs (cxOf CX0 P w K mg base N qual (defScope st) f (.ref c) A outer s H E).nox (defBody st) t ∧ t { nx := fun _ H' => Q .non H', rt := Q } (start N vs) H) : FnG P w K mg base CX0 (k + 1) f fd ps sp := by
  obtain ⟨oc, od, kV, doc, pm, an, cdv, ct, osl, rfl, lk, cd⟩ := F.ex
  have ec : cdv = .ref c := hc
  subst ec
  refine ⟨len, fun A outer s H args us vs Q E hg hr e0 hbn r sp1 => ?_⟩
  have ln := len _ _ _ _ sp1
  have kin : K.In s.heap := e0.mod.kin.keeps fun b o e => (e0.bs b o e).1
  have nl : s.heap.NoLimit := e0.mod.nolimit.keeps fun b o e => (e0.bs b o e).1
  have kd : ∀ y ∈ ps.zip us, (defScope st).names.lookup y.1 = some .local ∨ ((defScope st).names.lookup y.1 = some .cell ∧ ((cellsFrom (s.heap.objs.size + 1) (defScope st).names []).lookup y.1).isSome = true) := fun ⟨n, v⟩ hy => by
    rcases S.par n (List.of_mem_zip hy).1 with z | z
    · exact .inl z
    · exact .inr ⟨z, PySem.W.cellsFrom_some _ _ _ (.inl z)⟩
  refine codeAny_call_function hr.depth (kin _ _ lk) rfl S.co S.gen rfl (PySem.W.codeRec_of kin cd) (hbn _ _ _ _ ?_)
  refine wpAny_newFunctionEnv_cells S.kind kd fun env he s1 x1 => ?_
  subst he
  refine ⟨nl.keeps x1.toInCall.keep, codeAny_func ?_⟩
  obtain ⟨t, ht, q⟩ := hb A outer s H vs Q E hg (hr.deeper _) sp1
  have I : Inv (cxOf CX0 P w K mg base N qual (defScope st) f (.ref c) A outer s H E) [] (start N vs) H s1 := inv_start S hr.hd e0 ln r x1
  refine wpAny_mono (ht.nox.run [] s1 (start N vs) H _ I q) (fun fl s2 hs => ?_) fun e s2 hs => hs
  cases fl with
  | ret u =>
    obtain ⟨v, σ2, H2, J, rv, q2⟩ := hs
    exact ⟨v, H2, J.os, J.bare, J.base, J.hok, rv, q2⟩
  | next =>
    obtain ⟨σ2, H2, J, q2⟩ := hs
    exact ⟨V.non, H2, J.os, J.bare, J.base, J.hok, rfl, q2⟩
  | brk =>
    obtain ⟨_, _, _, q2⟩ := hs
    exact False.elim q2
  | cont =>
    obtain ⟨_, _, _, q2⟩ := hs
    exact False.elim q2
end
/-- what a lambda's body lets out -/
theorem passL {X : Cx} {A : Around} {outer : List Env} {s : Shared} {H : Hp} {E : XK} {scope : Scope} {f c' : Addr} : Passes (L2.CX X.prog X.w) (LamX.lamCx X A outer s H E scope f c') E :=
  passes_call (takes_of rfl rfl rfl rfl) fun _ _ _ _ h => h
end Dn
set_option Elab.async false
set_option linter.all false
set_option maxRecDepth 100000
set_option maxHeartbeats 2000000
namespace Dn
open PySem PySem.Spec PyProof.Rows L2
variable [CTab]
theorem passLK {P : Program} {w : World} {X : Cx} {A : Around} {outer : List Env} {s : Shared} {H : Hp} {E : XK} {scope : Scope} {f c' : Addr} (hP : X.prog = P) (hw : X.w = w) : Passes (L2.CX P w) (LamX.lamCx X A outer s H E scope f c') E := by
  subst hP hw
  exact passL
end Dn
set_option Elab.async false
set_option linter.all false
set_option maxRecDepth 100000
set_option maxHeartbeats 2000000
namespace Dn
open PySem PySem.Spec PyProof.Rows L2
end Dn
set_option Elab.async false
set_option linter.all false
set_option maxRecDepth 100000
set_option maxHeartbeats 2000000
namespace Dn
open PySem PySem.Spec PyProof.Rows L2
end Dn
set_option Elab.async false
set_option linter.all false
set_option maxRecDepth 100000
set_option maxHeartbeats 2000000
namespace Dn
open PySem PySem.Spec PyProof.Rows L2
end Dn
set_option Elab.async false
set_option linter.all false
set_option maxRecDepth 100000
set_option maxHeartbeats 2000000
namespace Dn
open PySem PySem.Spec PyProof.Rows L2
variable [CTab]
section
variable {β : Bs} {σ : L2.St} {B H B0 H0 : Hp} {ps : List Addr} {us : List U} {R : U × List U} {E : XK} {tx : XK → TE} {o : Option U} {tz : TS} {D : Ends} {r : U}
theorem q_fallS {Q : VK} (W : Wh β B H ps us) (e : pureS (some U.non) us = some R) (k : ∀ v B2 H2 ps2, Wh β B2 H2 ps2 R.2 → Rp B2 R.1 v → Q v H2) : Q .non H := by
  cases e
  exact k .non B H ps W .non
end
end Dn
set_option Elab.async false
set_option linter.all false
set_option maxRecDepth 100000
set_option maxHeartbeats 4000000
namespace Dn
open PySem PySem.Spec PyProof.Rows L2
end Dn
set_option Elab.async false
set_option linter.all false
set_option maxRecDepth 100000
set_option maxHeartbeats 2000000
namespace Dn
open PySem PySem.Spec PyProof.Rows L2
/-- what the heap part tells of a class without an == of its own -/
structure IdC (K : PySem.W.Frag) (C : Addr) : Prop where
  hm : PySem.W.mroIn K C (.type "object") = some true
  eq : PySem.W.findIn K (.ref C) "__eq__" = some (some (.builtin "object.__eq__"))
  ne : PySem.W.findIn K (.ref C) "__ne__" = some (some (.builtin "object.__ne__"))
end Dn
set_option Elab.async false
set_option linter.all false
set_option maxRecDepth 100000
set_option maxHeartbeats 2000000
namespace Dn
open PySem PySem.Spec PyProof.Rows L2
variable [CTab]
def U.isC (C : Nat) : U → Bool
  | .obj D _ => D == C
  | _ => false
def U.isM (C : Nat) (m : Str) : U → Bool
  | .obj D fs => D == C && noneQ (fs.lookup m)
  | _ => false
theorem isC_obj {C : Nat} {u : U} (h : u.isC C = true) : ∃ fs, u = .obj C fs := by
  cases u with
  | obj D fs => have := beq_iff_eq.mp (show (D == C) = true from h); subst this; exact ⟨fs, rfl⟩
  | _ => cases h
theorem isM_obj {C : Nat} {m : Str} {u : U} (h : u.isM C m = true) : ∃ fs, u = .obj C fs ∧ fs.lookup m = none := by
  cases u with
  | obj D fs =>
    have h : (D == C && noneQ (fs.lookup m)) = true := h
    rw [Bool.and_eq_true] at h
    have := beq_iff_eq.mp h.1; subst this
    refine ⟨fs, rfl, ?_⟩
    cases q : fs.lookup m with
    | none => rfl
    | some v => rw [q] at h; cases h.2
  | _ => cases h
section
variable {M : Addr → Prop} {ps : List Addr} {B1 H1 : Hp} {us : List U} {j : Nat} {p : Addr} {u : U}
theorem Ows.isC (w : Ows M B1 H1 ps us) (hp : ps[j]? = some p) (eu : us[j]? = some u) {C : Nat} (h : u.isC C = true) : B1 p = none ∧ ∃ fs dx es, u = .obj C fs ∧ H1 p = some (.ins (CTab.ct C) dx es) ∧ Rpf B1 fs es := by
  obtain ⟨fs, rfl⟩ := isC_obj h
  obtain ⟨hb, dx, es, e, r⟩ := (w.at_ j p _ hp eu).obj rfl
  exact ⟨hb, fs, dx, es, rfl, e, r⟩
theorem Ows.isM (w : Ows M B1 H1 ps us) (hp : ps[j]? = some p) (eu : us[j]? = some u) {C : Nat} {m : Str} (h : u.isM C m = true) : B1 p = none ∧ ∃ fs dx es, u = .obj C fs ∧ H1 p = some (.ins (CTab.ct C) dx es) ∧ Rpf B1 fs es ∧ es.lookup m = none := by
  obtain ⟨fs, rfl, l⟩ := isM_obj h
  obtain ⟨hb, dx, es, e, r⟩ := (w.at_ j p _ hp eu).obj rfl
  exact ⟨hb, fs, dx, es, rfl, e, r, (r.look m).2 l⟩
end
/-- x.f -/
def fldIS (j C : Nat) (f : Str) : SM U := fun us => us[j]?.bind fun u => (fldV C f u).map fun z => (z, us)
theorem fldV_isC {C : Nat} {f : Str} {u z : U} (h : fldV C f u = some z) : u.isC C = true := by
  cases u with
  | obj D fs =>
    have h : (if D = C then fs.lookup f else none) = some z := h
    split at h
    · rename_i e; exact beq_iff_eq.mpr e
    · cases h
  | _ => cases h
section
variable {M : Addr → Prop} {ps : List Addr} {σ : L2.St} {B H : Hp} {ta tv te : TE} {tl : TA} {F G : SM U} {K : PySem.W.Frag} {i j C : Nat} {p : Addr} {f nm : Str}
theorem es_fldI (c : Cls K (CTab.ct C)) (n : NoAttr K (CTab.ct C) f) (hp : ps[j]? = some p) (hv : σ[i]? = some (some (.ref p))) : EvS M ps σ B (tFld K (tVar i) f) (fldIS j C f) := fun us z us' e B1 H1 g w Q q => by
  obtain ⟨u, eu, e⟩ := bind_some e
  obtain ⟨y, ey, e⟩ := map_some e
  cases e
  obtain ⟨hb, fs, dx, es, rfl, e1, r⟩ := w.isC hp eu (fldV_isC ey)
  have ey : (if C = C then fs.lookup f else none) = some z := ey
  rw [if_pos rfl] at ey
  obtain ⟨v, ev, rv⟩ := (r.look f).1 z ey
  exact ⟨_, hv, p, _, dx, es, v, rfl, e1, c, n, ev, q v B1 H1 (Gs.refl g.bh) rv w⟩
/-- x.f = e -/
def putI (j C : Nat) (f : Str) (y : U) : SM U := fun us => match us[j]? with
  | some (.obj D fs) => if D = C ∧ fs.length < 1000 then some (.non, us.set j (.obj D (putUF f y fs))) else none
  | _ => none
theorem q_fldI {α : Type} {R : α × List U} {β : Bs} {us : List U} {tz : TS} {D : Ends} {k0 : SM α} (W : Wh β B H ps us) (c : Cls K (CTab.ct C)) (n : NoAttr K (CTab.ct C) f) (hp : ps[j]? = some p) (hv : σ[i]? = some (some (.ref p))) (h : EvS β.M ps σ B tv F)
    (e : bindS F (fun y => bindS (putI j C f y) fun _ => k0) us = some R) (k : ∀ B1 H1 us1, Wh β B1 H1 ps us1 → Same B B1 → k0 us1 = some R → tz D σ H1) : tSeq (sFld K (tVar i) tv f) tz D σ H := by
  obtain ⟨y, us1, ey, e⟩ := bindS_some e
  obtain ⟨z, us2, ez, e⟩ := bindS_some e
  refine h _ _ _ ey B H W.at W.w _ fun v B2 H2 g2 r2 w2 => ?_
  unfold putI at ez
  split at ez
  · rename_i D' fs eu
    split at ez
    · rename_i hl
      obtain ⟨rfl, hl⟩ := hl
      cases ez
      have wp := w2.at_ j p _ hp eu
      obtain ⟨hb, dx, es, e1, r⟩ := wp.obj rfl
      refine ⟨_, hv, p, _, dx, es, rfl, e1, c, n, by rw [r.length]; exact hl, ?_⟩
      exact k B2 _ _ (W.step (g2.trans (gs_upd hp g2.bh hb e1)) (own_upd (u := .obj _ (putUF f y fs)) hp w2 g2.bh wp.m hb ⟨dx, _, upd_same, .put r2 r⟩)) g2.b e
    · cases ez
  · cases ez
/-- x.f, a property of a value -/
theorem es_prop {m : List U → Option U} {E : XK} (h : EvS M ps σ B ta F) : EvS M ps σ B (tProp (CTab.ct C) (spU m) [] E ta) (op1S (propV C m) F) := fun us z us' e B1 H1 g w Q q => by
  obtain ⟨x, us1, ex, e⟩ := bindS_some e
  obtain ⟨ee, rfl⟩ := pureS_some e
  refine h _ _ _ ex B1 H1 g w _ fun v B2 H2 g2 r2 w2 => ?_
  cases r2 with
  | @obj a dx D fs es h1 h2 r =>
    have e5 : (if D = C then m [.obj D fs] else none) = some z := ee
    clear ee
    have ee := e5
    clear e5
    split at ee
    · rename_i hD
      subst hD
      exact ⟨a, dx, es, rfl, g2.bh _ _ h1, B2, [.obj D fs], z, g2.bh, .cons (.obj h1 h2 r) .nil, ee, fun v B3 H3 g3 r3 => q v B3 H3 (g2.trans (.of g3)) r3 (w2.go g3)⟩
    · cases ee
  | _ => cases ee
/-- a call that may change it -/
def callI (j : Nat) (C : Nat) (m : U → List U → Option (U × U)) (xs : List U) : SM U := fun us => us[j]?.bind fun u => if u.isC C = true then (m u xs).map fun r => (r.1, us.set j r.2) else none
theorem callI_go {m : U → List U → Option (U × U)} {xs : List U} {us us' : List U} {z : U} {vs : List V} {Q : VK} {E : XK} {B1 H1 : Hp} (hp : ps[j]? = some p) (e : callI j C m xs us = some (z, us')) (s : Ok B1 H1) (w : Ows M B1 H1 ps us) (r : Rps B1 xs vs)
    (q : ∀ v B2 H2, Gs (inP ps) B1 H1 B2 H2 → Rp B2 z v → Ows M B2 H2 ps us' → Q v H2) : spS m (.ref p :: vs) H1 Q E := by
  obtain ⟨u, eu, e⟩ := bind_some e
  split at e
  · rename_i ho
    obtain ⟨⟨r', u'⟩, er, e⟩ := map_some e
    cases e
    obtain ⟨hb, fs, dx, es, rfl, e1, rf⟩ := w.isC hp eu ho
    have wp := w.at_ j p _ hp eu
    refine ⟨B1, p, vs, .obj C fs, xs, _, u', s, rfl, hb, ⟨dx, es, e1, rf⟩, r, er, fun v B3 H3 g3 b3 o3 r3 => ?_⟩
    refine q v B3 H3 (g3.mono fun a ha => by subst ha; exact List.mem_of_getElem? hp) r3 ?_
    refine w.set hp (fun q hq hne o e n => g3.h q o e hne n) g3.b (fun q hq hne hn => ?_) ⟨wp.m, o3.ex, .inr ⟨b3, o3⟩⟩
    obtain ⟨o, eo⟩ := w.exs hq
    exact g3.noB hn eo hne
  · cases e
/-- f(x, ..) -/
theorem es_callI {m : U → List U → Option (U × U)} {E : XK} {F : SM (List U)} (hp : ps[j]? = some p) (hv : σ[i]? = some (some (.ref p))) (ha : EvAS M ps σ B tl F) :
    EvS M ps σ B (tCall (spS m) [] E (tCons (tVar i) tl)) (bindS F fun xs => callI j C m xs) := fun us z us' e B1 H1 g w Q q => by
  obtain ⟨x, us1, ex, e⟩ := bindS_some e
  refine ⟨_, hv, ha _ _ _ ex B1 H1 g w _ fun vs B2 H2 g2 rr w2 => ?_⟩
  show spS m ((.ref p :: vs) ++ []) H2 Q E
  rw [List.append_nil]
  exact callI_go hp e g2.bh w2 rr fun v B3 H3 g3 r3 w3 => q v B3 H3 (g2.trans g3) r3 w3
/-- x.f, a property -/
theorem es_propI {m : U → List U → Option (U × U)} {E : XK} (hp : ps[j]? = some p) (hv : σ[i]? = some (some (.ref p))) : EvS M ps σ B (tProp (CTab.ct C) (spS m) [] E (tVar i)) (callI j C m []) := fun us z us' e B1 H1 g w Q q => by
  have e0 := e
  obtain ⟨u, eu, e⟩ := bind_some e
  split at e
  · rename_i ho
    obtain ⟨hb, fs, dx, es, rfl, e1, rf⟩ := w.isC hp eu ho
    exact ⟨_, hv, p, dx, es, rfl, e1, callI_go hp e0 g.bh w .nil q⟩
  · cases e
/-- x.m(..) -/
def methI (j C : Nat) (nm : Str) (m : U → List U → Option (U × U)) (F : SM (List U)) : SM U := fun us => us[j]?.bind fun u => if u.isM C nm = true then bindS F (fun xs => callI j C m xs) us else none
theorem es_methI {m : U → List U → Option (U × U)} {E : XK} {F : SM (List U)} (hp : ps[j]? = some p) (hv : σ[i]? = some (some (.ref p))) (ha : EvAS M ps σ B tl F) : EvS M ps σ B (tMeth (CTab.ct C) nm (spS m) [] E (tVar i) tl) (methI j C nm m F) := fun us z us' e B1 H1 g w Q q => by
  obtain ⟨u, eu, e⟩ := bind_some e
  split at e
  · rename_i ho
    obtain ⟨hb, fs, dx, es, rfl, e1, rf, l⟩ := w.isM hp eu ho
    obtain ⟨xs, us1, ex, e⟩ := bindS_some e
    refine ⟨_, hv, p, dx, es, rfl, e1, l, ha _ _ _ ex B1 H1 g w _ fun vs B2 H2 g2 rr w2 => ?_⟩
    show spS m (.ref p :: (vs ++ [])) H2 Q E
    rw [List.append_nil]
    exact callI_go hp e g2.bh w2 rr fun v B3 H3 g3 r3 w3 => q v B3 H3 (g2.trans g3) r3 w3
  · cases e
end
def spSE (m : U → List U → Option (U × U)) : Sp := fun vs H Q E => ∃ B p ws u xs r u', Ok B H ∧ vs = .ref p :: ws ∧ B p = none ∧ OwnAt B H p u ∧ Rps B xs ws ∧ m u xs = some (r, u') ∧
  (∀ v B2 H2, Gs (fun a => a = p) B H B2 H2 → B2 p = none → OwnAt B2 H2 p u' → Rp B2 r v → Q v H2) ∧
  (∀ C fs, r = .rsd C fs → ∀ d B2 H2, Gs (fun a => a = p) B H B2 H2 → B2 p = none → OwnAt B2 H2 p u' → RsAt B2 d fs → E (.ref (CTab.ct C)) d H2)
def EvXS (M : Addr → Prop) (ps : List Addr) (σ : L2.St) (B : Hp) (te : XK → TE) (F : SM U) : Prop :=
  ∀ us z us', F us = some (z, us') → ∀ B1 H1, At B B1 H1 → Ows M B1 H1 ps us → ∀ (Q : VK) (E : XK), (∀ v B2 H2, Gs (inP ps) B1 H1 B2 H2 → Rp B2 z v → Ows M B2 H2 ps us' → Q v H2) →
    (∀ C fs, z = .rsd C fs → ∀ d B2 H2, Gs (inP ps) B1 H1 B2 H2 → Ows M B2 H2 ps us' → RsAt B2 d fs → E (.ref (CTab.ct C)) d H2) → te E σ H1 Q
section
variable {M : Addr → Prop} {ps : List Addr} {σ : L2.St} {B H : Hp} {ta tv te : TE} {tx : XK → TE} {tl : TA} {F G : SM U} {K : PySem.W.Frag} {i j C : Nat} {p : Addr} {f nm : Str}
theorem callI_goX {m : U → List U → Option (U × U)} {xs : List U} {us us' : List U} {z : U} {vs : List V} {Q : VK} {E : XK} {B1 H1 : Hp} (hp : ps[j]? = some p) (e : callI j C m xs us = some (z, us')) (s : Ok B1 H1) (w : Ows M B1 H1 ps us) (r : Rps B1 xs vs)
    (q : ∀ v B2 H2, Gs (inP ps) B1 H1 B2 H2 → Rp B2 z v → Ows M B2 H2 ps us' → Q v H2) (oe : ∀ C fs, z = .rsd C fs → ∀ d B2 H2, Gs (inP ps) B1 H1 B2 H2 → Ows M B2 H2 ps us' → RsAt B2 d fs → E (.ref (CTab.ct C)) d H2) : spSE m (.ref p :: vs) H1 Q E := by
  obtain ⟨u, eu, e⟩ := bind_some e
  split at e
  · rename_i ho
    obtain ⟨⟨r', u'⟩, er, e⟩ := map_some e
    cases e
    obtain ⟨hb, fs, dx, es, rfl, e1, rf⟩ := w.isC hp eu ho
    have wp := w.at_ j p _ hp eu
    have st : ∀ B3 H3, Gs (fun a => a = p) B1 H1 B3 H3 → B3 p = none → OwnAt B3 H3 p u' → Gs (inP ps) B1 H1 B3 H3 ∧ Ows M B3 H3 ps (us.set j u') := fun B3 H3 g3 b3 o3 => by
      refine ⟨g3.mono fun a ha => by subst ha; exact List.mem_of_getElem? hp, ?_⟩
      refine w.set hp (fun q hq hne o e n => g3.h q o e hne n) g3.b (fun q hq hne hn => ?_) ⟨wp.m, o3.ex, .inr ⟨b3, o3⟩⟩
      obtain ⟨o, eo⟩ := w.exs hq
      exact g3.noB hn eo hne
    refine ⟨B1, p, vs, .obj C fs, xs, _, u', s, rfl, hb, ⟨dx, es, e1, rf⟩, r, er, fun v B3 H3 g3 b3 o3 r3 => ?_, fun C fs ec d B3 H3 g3 b3 o3 rs => ?_⟩
    · obtain ⟨a1, a2⟩ := st B3 H3 g3 b3 o3
      exact q v B3 H3 a1 r3 a2
    · obtain ⟨a1, a2⟩ := st B3 H3 g3 b3 o3
      exact oe C fs ec d B3 H3 a1 a2 rs
  · cases e
/-- x.m(..), which may raise, x one's own -/
theorem exs_methI {m : U → List U → Option (U × U)} {F : SM (List U)} (hp : ps[j]? = some p) (hv : σ[i]? = some (some (.ref p))) (ha : EvAS M ps σ B tl F) : EvXS M ps σ B (fun E => tMeth (CTab.ct C) nm (spSE m) [] E (tVar i) tl) (methI j C nm m F) := fun us z us' e B1 H1 g w Q E q oe => by
  obtain ⟨u, eu, e⟩ := bind_some e
  split at e
  · rename_i ho
    obtain ⟨hb, fs, dx, es, rfl, e1, rf, l⟩ := w.isM hp eu ho
    obtain ⟨xs, us1, ex, e⟩ := bindS_some e
    refine ⟨_, hv, p, dx, es, rfl, e1, l, ha _ _ _ ex B1 H1 g w _ fun vs B2 H2 g2 rr w2 => ?_⟩
    show spSE m (.ref p :: (vs ++ [])) H2 Q E
    rw [List.append_nil]
    exact callI_goX hp e g2.bh w2 rr (fun v B3 H3 g3 r3 w3 => q v B3 H3 (g2.trans g3) r3 w3) fun C fs ec d B3 H3 g3 w3 rs => oe C fs ec d B3 H3 (g2.trans g3) w3 rs
  · cases e
/-- x.m(..), which may raise, x a value -/
def methXS (C : Nat) (m : Str) (f : List U → Option U) (F : SM U) (G : SM (List U)) : SM U := bindS F fun x => if x.isM C m = true then bindS G fun xs => pureS (f (x :: xs)) else pureS none
theorem exs_meth {m : List U → Option U} {G : SM (List U)} (h : EvS M ps σ B ta F) (ha : EvAS M ps σ B tl G) : EvXS M ps σ B (fun E => tMeth (CTab.ct C) nm (spE m) [] E ta tl) (methXS C nm m F G) := fun us z us' e B1 H1 g w Q E q oe => by
  obtain ⟨x, us1, ex, e⟩ := bindS_some e
  refine h _ _ _ ex B1 H1 g w _ fun v B2 H2 g2 r2 w2 => ?_
  split at e
  · rename_i hm
    obtain ⟨fs, rfl, l⟩ := isM_obj hm
    obtain ⟨xs, us2, exs, e⟩ := bindS_some e
    obtain ⟨ee, rfl⟩ := pureS_some e
    cases r2 with
    | @obj a dx D fs es h1 h2 r =>
      refine ⟨a, dx, es, rfl, g2.bh _ _ h1, (r.look nm).2 l, ha _ _ _ exs B2 H2 (g.trs g2) w2 _ fun vs B3 H3 g3 r3 w3 => ?_⟩
      show spE m (.ref a :: (vs ++ [])) H3 Q E
      rw [List.append_nil]
      exact ⟨B3, _, z, g3.bh, .cons ((Rp.obj h1 h2 r).upA g3.at) r3, ee, fun v B4 H4 g4 r4 => q v B4 H4 ((g2.trans g3).trans (.of g4)) r4 (w3.go g4), fun C fs ec d B4 H4 g4 rs => oe C fs ec d B4 H4 ((g2.trans g3).trans (.of g4)) (w3.go g4) rs⟩
  · cases e
/-- *e in a display -/
def starS (F : SM U) (G : SM (List U)) : SM (List U) := bindS F fun x => bindS G fun r => pureS (x.sitems.map fun xs => xs ++ r)
theorem eas_star {tr : TA} {G : SM (List U)} (h : EvS M ps σ B te F) (hr : EvAS M ps σ B tr G) : EvAS M ps σ B (StX.tStar K te tr) (starS F G) := fun us z us' e B1 H1 g w Q q => by
  obtain ⟨x, us1, ex, e⟩ := bindS_some e
  obtain ⟨r, us3, er, e⟩ := bindS_some e
  obtain ⟨ee, rfl⟩ := pureS_some e
  obtain ⟨xs, exs, ee⟩ := map_some ee
  subst ee
  refine h _ _ _ ex B1 H1 g w _ fun v B2 H2 g2 r2 w2 => ?_
  have fin : ∀ ws, Rps B2 xs ws → tr σ H2 fun ys H3 => Q (ws ++ ys) H3 := fun ws rw' => hr _ _ _ er B2 H2 (g.trs g2) w2 _ fun vs B3 H3 g3 r3 w3 => q _ B3 H3 (g2.trans g3) ((rw'.kp (Kp.of g3.b)).append r3) w3
  cases r2 with
  | @tup a ys vs h r => cases exs; exact ⟨a, vs, rfl, .inl (SqT.of (g2.bh _ _ h)), fin vs r⟩
  | @tpd a ys vs o h hd r => cases exs; exact ⟨a, vs, rfl, .inl (.inl (.inr ⟨o, g2.bh _ _ h⟩)), fin vs r⟩
  | @lst a ys vs h r => cases exs; exact ⟨a, vs, rfl, .inr (SqL.of (g2.bh _ _ h)), fin vs r⟩
  | @frl a ys vs o h r => cases exs; exact ⟨a, vs, rfl, .inr (.inl (.inr ⟨o, g2.bh _ _ h⟩)), fin vs r⟩
  | _ => cases exs
/-- behind what may raise -/
def bindXS {α : Type} (F : SM U) (out : Nat → List (Str × U) → SM α) (k : U → SM α) : SM α := bindS F fun x => onR x out k
/-- x.m(e), e may raise -/
def methIX (j C : Nat) (nm : Str) (m : U → List U → Option (U × U)) (F : SM U) : SM U := fun us => us[j]?.bind fun u => if u.isM C nm = true then bindXS F (fun C fs => pureS (some (.rsd C fs))) (fun x => callI j C m [x]) us else none
/-- what is let out -/
def outXS : Nat → List (Str × U) → SM U := fun C fs => pureS (some (.rsd C fs))
theorem exs_methIX {m : U → List U → Option (U × U)} {E0 : XK} (hp : ps[j]? = some p) (hv : σ[i]? = some (some (.ref p))) (ha : EvXS M ps σ B tx F) :
    EvXS M ps σ B (fun E => tMeth (CTab.ct C) nm (spS m) [] E0 (tVar i) (tCons (tx E) tNil)) (methIX j C nm m F) := fun us z us' e B1 H1 g w Q E q oe => by
  obtain ⟨u, eu, e⟩ := bind_some e
  split at e
  · rename_i ho
    obtain ⟨hb, fs, dx, es, rfl, e1, rf, l⟩ := w.isM hp eu ho
    obtain ⟨x, us1, ex, e⟩ := bindS_some e
    refine ⟨_, hv, p, dx, es, rfl, e1, l, ha _ _ _ ex B1 H1 g w _ E (fun v B2 H2 g2 r2 w2 => ?_) fun C fs ec d B2 H2 g2 w2 rs => ?_⟩
    · rw [onR_val r2] at e
      show spS m (.ref p :: ([v] ++ [])) H2 Q E0
      exact callI_go hp e g2.bh w2 (.cons r2 .nil) fun v B3 H3 g3 r3 w3 => q v B3 H3 (g2.trans g3) r3 w3
    · subst ec
      obtain ⟨ee, rfl⟩ := pureS_some (show pureS (some (U.rsd C fs)) us1 = _ from e)
      cases ee
      exact oe C fs rfl d B2 H2 g2 w2 rs
  · cases e
/-- .. behind it other statements -/
theorem q_exprXI {β : Bs} {R : U × List U} {us : List U} {tz : TS} {D : Ends} {E : XK} {k0 : U → SM U} (W : Wh β B H ps us) (h : EvXS β.M ps σ B tx F) (e : bindXS F outXS k0 us = some R)
    (ke : ∀ C fs (_ : R.1 = .rsd C fs) d B2 H2 ps2 (_ : Wh β B2 H2 ps2 R.2), RsAt B2 d fs → E (.ref (CTab.ct C)) d H2) (k : ∀ x B1 H1 us1, Wh β B1 H1 ps us1 → Same B B1 → k0 x us1 = some R → tz D σ H1) : tSeq (tDrop (tx E)) tz D σ H := by
  obtain ⟨x, us1, ex, e⟩ := bindS_some e
  refine h _ _ _ ex B H W.at W.w _ E (fun v B2 H2 g2 r2 w2 => k x B2 H2 us1 (W.step g2 w2) g2.b (by rw [onR_val r2] at e; exact e)) fun C fs ec d B2 H2 g2 w2 rs => ?_
  subst ec
  obtain ⟨ee, e2⟩ := pureS_some (show pureS (some (U.rsd C fs)) us1 = some (R.1, R.2) from e)
  exact ke C fs (Option.some.inj ee).symm d B2 H2 ps (by rw [e2]; exact W.step g2 w2) rs
/-- the word and attribute of the error that a call raises, or what it returns -/
def toldS (ok : Nat → Bool) (ms ma : List U → Option U) (ret : Str) (F : SM U) : SM U := bindS F fun x => pureS (toldV ok ms ma ret x)
theorem es_told {c1 c2 : Addr} {ms ma : List U → Option U} {ret : Str} {ok : Nat → Bool} (hx : ∀ C, ok C = true → PySem.W.exmAny K (.ref (CTab.ct C)) [.ref c1, .ref c2] = some true) (h : EvXS M ps σ B tx F) :
    EvS M ps σ B (tLamT (TTold K c1 c2 ms ma ret) tx) (toldS ok ms ma ret F) := fun us z us' e B1 H1 g w Q q => by
  obtain ⟨x, us1, ex, e⟩ := bindS_some e
  obtain ⟨ee, rfl⟩ := pureS_some e
  clear e
  have e := ee
  refine ⟨g.bh.tb, fun H2 eN nw T2 Qr Er hq he => ?_⟩
  have gl := go_lam g.bh eN nw T2
  refine h _ _ _ ex B1 H2 ⟨g.b, gl.bh⟩ (w.go gl) Qr Er (fun v B3 H3 g3 r3 w3 => hq v H3 fun p hp => ?_) fun C fs ec d B3 H3 g3 w3 rs => he _ _ _ ?_
  · rw [toldV_val r3] at e
    cases e
    have gn := Go.new (o := .tup [.str ret, v]) g3.bh hp
    exact q _ _ _ (((Gs.of gl).trans g3).trans (.of gn)) (.tup upd_same (.cons (.str _) (.cons (r3.up gn) .nil))) (w3.go gn)
  · subst ec
    have e : (if ok C = true then (ms [.exc C fs]).bind fun w => (ma [.exc C fs, w]).map fun x => U.tup [w, x] else none) = some z := e
    split at e
    · rename_i hok
      obtain ⟨wd, ew, e⟩ := bind_some e
      obtain ⟨y, ey, e⟩ := map_some e
      subst e
      refine ⟨_, rfl, hx C hok, fun a ha => ?_⟩
      have gn := Go.new (o := exg a (CTab.ct C) d) g3.bh ha
      have rx : Rp (upd B3 a (exg a (CTab.ct C) d)) (.exc C fs) (.ref a) := by
        have sb : Same B3 (upd B3 a (exg a (CTab.ct C) d)) := gn.b
        rcases rs with ⟨rfl, rfl⟩ | ⟨dx, es, rfl, hd, rf⟩
        · exact .exc0 upd_same
        · exact .exc upd_same (sb _ _ hd) (rf.kp (Kp.of sb))
      refine ⟨_, [.exc C fs], wd, gn.bh, .cons rx .nil, ew, fun wv B5 H5 g5 r5 => ⟨B5, [.exc C fs, wd], y, g5.bh, .cons (rx.up g5) (.cons r5 .nil), ey, fun yv B6 H6 g6 r6 p hp => ?_⟩⟩
      have gp := Go.new (o := .tup [wv, yv]) g6.bh hp
      exact q _ _ _ (((((Gs.of gl).trans g3).trans (.of gn)).trans (.of g5)).trans ((Gs.of g6).trans (.of gp))) (.tup upd_same (.cons ((r5.up g6).up gp) (.cons (r6.up gp) .nil))) ((((w3.go gn).go g5).go g6).go gp)
    · cases e
end
def finI (o : Option (U × List U)) : Option (U × U) := o.bind fun R => match R.2 with
  | u0 :: _ => if u0.isO = true then some (R.1, u0) else none
  | _ => none
def bI0 (f : SM U) : U → List U → Option (U × U) := fun u xs => match xs with
  | [] => finI (f [u])
  | _ => none
def bI1 (f : U → SM U) : U → List U → Option (U × U) := fun u xs => match xs with
  | [x] => finI (f x [u])
  | _ => none
def bI2 (f : U → U → SM U) : U → List U → Option (U × U) := fun u xs => match xs with
  | [x, y] => finI (f x y [u])
  | _ => none
section
variable {vs : List V} {H : Hp} {Q : VK} {E : XK}
theorem finI_at {B B2 H2 : Hp} {p : Addr} {R : U × List U} {r u' : U} {ps2 : List Addr} (e : finI (some R) = some (r, u')) (W : Wh (bsM B H p) B2 H2 ps2 R.2) : r = R.1 ∧ Gs (fun a => a = p) B H B2 H2 ∧ B2 p = none ∧ OwnAt B2 H2 p u' := by
  have e : (match R.2 with
    | u0 :: _ => if u0.isO = true then some (R.1, u0) else none
    | _ => none) = some (r, u') := e
  split at e
  · rename_i u0 rest hR
    split at e
    · rename_i ho
      cases e
      have hd := W.hd p rfl
      cases ps2 with
      | nil => cases hd
      | cons q ps2 =>
        cases hd
        have wp := W.w.at_ 0 p u' rfl (by rw [hR]; rfl)
        obtain ⟨hb, ow⟩ := wp.obj ho
        exact ⟨rfl, W.g, hb, ow⟩
    · cases e
  · cases e
theorem fin_ofI {B : Hp} {p : Addr} {o : Option (U × List U)} {r u' : U} (e : finI o = some (r, u')) (k : ∀ v B2 H2, Gs (fun a => a = p) B H B2 H2 → B2 p = none → OwnAt B2 H2 p u' → Rp B2 r v → Q v H2) :
    ∃ R, o = some R ∧ ∀ v B2 H2 ps2, Wh (bsM B H p) B2 H2 ps2 R.2 → Rp B2 R.1 v → Q v H2 := by
  obtain ⟨R, eR, e⟩ := bind_some e
  refine ⟨R, eR, fun v B2 H2 ps2 W r2 => ?_⟩
  obtain ⟨rfl, a, b, c⟩ := finI_at (R := R) e W
  exact k v B2 H2 a b c r2
theorem fin_ofIX {B : Hp} {p : Addr} {o : Option (U × List U)} {r u' : U} (e : finI o = some (r, u')) (k : ∀ v B2 H2, Gs (fun a => a = p) B H B2 H2 → B2 p = none → OwnAt B2 H2 p u' → Rp B2 r v → Q v H2)
    (ke : ∀ C fs, r = .rsd C fs → ∀ d B2 H2, Gs (fun a => a = p) B H B2 H2 → B2 p = none → OwnAt B2 H2 p u' → RsAt B2 d fs → E (.ref (CTab.ct C)) d H2) :
    ∃ R, o = some R ∧ (∀ v B2 H2 ps2, Wh (bsM B H p) B2 H2 ps2 R.2 → Rp B2 R.1 v → Q v H2) ∧ (∀ C fs (_ : R.1 = .rsd C fs) d B2 H2 ps2 (_ : Wh (bsM B H p) B2 H2 ps2 R.2), RsAt B2 d fs → E (.ref (CTab.ct C)) d H2) := by
  obtain ⟨R, eR, e⟩ := bind_some e
  refine ⟨R, eR, fun v B2 H2 ps2 W r2 => ?_, fun C fs ec d B2 H2 ps2 W rs => ?_⟩
  · obtain ⟨rfl, a, b, c⟩ := finI_at (R := R) e W
    exact k v B2 H2 a b c r2
  · obtain ⟨rfl, a, b, c⟩ := finI_at (R := R) e W
    exact ke C fs ec d B2 H2 a b c rs
theorem ssI0 {f : SM U} (h : spS (bI0 f) vs H Q E) : ∃ B p u R, vs = [.ref p] ∧ Ok B H ∧ Wh (bsM B H p) B H [p] [u] ∧ f [u] = some R ∧ ∀ v B2 H2 ps2, Wh (bsM B H p) B2 H2 ps2 R.2 → Rp B2 R.1 v → Q v H2 := by
  obtain ⟨B, p, ws, u, xs, r, u', s, ev, hb, o, rs, e, k⟩ := h
  match xs, rs, e with
  | [], .nil, e =>
    obtain ⟨R, eR, k⟩ := fin_ofI e k
    exact ⟨B, p, u, R, ev, s, wh_first s hb o, eR, k⟩
theorem ssI1 {f : U → SM U} (h : spS (bI1 f) vs H Q E) : ∃ B p u x v R, vs = [.ref p, v] ∧ Ok B H ∧ Wh (bsM B H p) B H [p] [u] ∧ Rp B x v ∧ f x [u] = some R ∧ ∀ v B2 H2 ps2, Wh (bsM B H p) B2 H2 ps2 R.2 → Rp B2 R.1 v → Q v H2 := by
  obtain ⟨B, p, ws, u, xs, r, u', s, ev, hb, o, rs, e, k⟩ := h
  match xs, rs, e with
  | [x], .cons r1 .nil, e =>
    obtain ⟨R, eR, k⟩ := fin_ofI e k
    exact ⟨B, p, u, x, _, R, ev, s, wh_first s hb o, r1, eR, k⟩
theorem ssX1 {f : U → SM U} (h : spSE (bI1 f) vs H Q E) : ∃ B p u x v R, vs = [.ref p, v] ∧ Ok B H ∧ Wh (bsM B H p) B H [p] [u] ∧ Rp B x v ∧ f x [u] = some R ∧ (∀ v B2 H2 ps2, Wh (bsM B H p) B2 H2 ps2 R.2 → Rp B2 R.1 v → Q v H2) ∧
    (∀ C fs (_ : R.1 = .rsd C fs) d B2 H2 ps2 (_ : Wh (bsM B H p) B2 H2 ps2 R.2), RsAt B2 d fs → E (.ref (CTab.ct C)) d H2) := by
  obtain ⟨B, p, ws, u, xs, r, u', s, ev, hb, o, rs, e, k, ke⟩ := h
  match xs, rs, e with
  | [x], .cons r1 .nil, e =>
    obtain ⟨R, eR, k, ke⟩ := fin_ofIX e k ke
    exact ⟨B, p, u, x, _, R, ev, s, wh_first s hb o, r1, eR, k, ke⟩
theorem ssX2 {f : U → U → SM U} (h : spSE (bI2 f) vs H Q E) : ∃ B p u x y v w R, vs = [.ref p, v, w] ∧ Ok B H ∧ Wh (bsM B H p) B H [p] [u] ∧ Rp B x v ∧ Rp B y w ∧ f x y [u] = some R ∧ (∀ v B2 H2 ps2, Wh (bsM B H p) B2 H2 ps2 R.2 → Rp B2 R.1 v → Q v H2) ∧
    (∀ C fs (_ : R.1 = .rsd C fs) d B2 H2 ps2 (_ : Wh (bsM B H p) B2 H2 ps2 R.2), RsAt B2 d fs → E (.ref (CTab.ct C)) d H2) := by
  obtain ⟨B, p, ws, u, xs, r, u', s, ev, hb, o, rs, e, k, ke⟩ := h
  match xs, rs, e with
  | [x, y], .cons r1 (.cons r2 .nil), e =>
    obtain ⟨R, eR, k, ke⟩ := fin_ofIX e k ke
    exact ⟨B, p, u, x, y, _, _, R, ev, s, wh_first s hb o, r1, r2, eR, k, ke⟩
end
section
variable {M : Addr → Prop} {ps : List Addr} {σ : L2.St} {B : Hp} {tl : TA} {F : SM (List U)} {C : Nat} {m : U → List U → Option (U × U)} {E : XK}
def mkE (y u : U) : Option U := match y with
  | .non => if u.isO = true then some u else none
  | _ => none
def mkI (C : Nat) (m : U → List U → Option (U × U)) (xs : List U) : Option U := (m (.obj C []) xs).bind fun r => mkE r.1 r.2
theorem mkI_go {B2 H2 : Hp} {xs : List U} {vs : List V} {z : U} {Q : VK} (s2 : Ok B2 H2) (r : Rps B2 xs vs) (e : mkI C m xs = some z) (q : ∀ p B3 H3, Go B2 H2 B3 H3 → H2 p = none → B3 p = none → OwnAt B3 H3 p z → Q (.ref p) H3) (x dx : Addr) (hx : H2 x = none) (hd : H2 dx = none) (hne : dx ≠ x) :
    spS m (.ref x :: vs) (upd (upd H2 dx (.own x)) x (.ins (CTab.ct C) dx [])) (fun v H3 => v = .non ∧ Q (.ref x) H3) E := by
  obtain ⟨⟨y, u'⟩, em, e⟩ := bind_some e
  have bx : B2 x = none := s2.free hx
  have okN : Ok B2 (upd (upd H2 dx (.own x)) x (.ins (CTab.ct C) dx [])) := (s2.own (o := .own x) hd).own (by rw [upd_ne hne.symm]; exact hx)
  refine ⟨B2, x, vs, .obj C [], xs, y, u', okN, rfl, bx, ⟨dx, [], upd_same, .nil⟩, r, em, fun v B3 H3 g3 b3 o3 r3 => ?_⟩
  have e5 : mkE y u' = some z := e
  clear e
  cases y with
  | non =>
    have e : (if u'.isO = true then some u' else none) = some z := e5
    split at e
    · cases e
      cases r3
      refine ⟨rfl, q x B3 H3 ⟨fun a o e n => ?_, fun a e => ?_, g3.b, g3.bh, fun a o e => ?_⟩ hx b3 o3⟩
      · exact g3.h a o (by rw [upd_ne (ne_of_none e hx), upd_ne (ne_of_none e hd)]; exact e) (ne_of_none e hx) n
      · exact (upd_none (upd_none (g3.n a e)).1).1
      · rcases g3.fr a o e with z | z | z
        · exact .inl z
        · exact .inr (upd_none (upd_none z).1).1
        · subst z; exact .inr hx
    · cases e
  | _ => cases e5
theorem en_makeI (ha : EvAS M ps σ B tl F) : EvN M ps σ B (tMake (CTab.ct C) (spS m) [] E tl) (callS (mkI C m) F) := fun us z us' e B1 H1 g w Q q => by
  obtain ⟨xs, us1, ex, e⟩ := bindS_some e
  obtain ⟨ee, rfl⟩ := pureS_some e
  clear e
  refine ha _ _ _ ex B1 H1 g w _ fun vs B2 H2 g2 r w2 x dx hx hd hne => ?_
  rw [List.append_nil]
  exact mkI_go g2.bh r ee (fun p B3 H3 g3 n3 b3 o3 => q p B3 H3 (g2.trans (.of g3)) (g2.n p n3) b3 o3 (w2.go g3)) x dx hx hd hne
end
end Dn
set_option Elab.async false
set_option linter.all false
set_option maxRecDepth 100000
set_option maxHeartbeats 2000000
namespace Dn
open PySem L2
end Dn
set_option Elab.async false
set_option linter.all false
set_option maxRecDepth 100000
set_option maxHeartbeats 2000000
namespace Dn
open PySem PySem.Spec PyProof.Rows L2
end Dn
set_option Elab.async false
set_option linter.all false
set_option maxRecDepth 100000
set_option maxHeartbeats 400000
namespace Dn
open PySem PySem.Spec PyProof.Rows L2
structure FnR (P : Program) (w : World) (K : PySem.W.Frag) (mg : Str → Option Value) (base : Heap) (CX : CXT) (k : Nat) (f : Addr) (fd : FuncData) (ps : List Str) (sp : Sp) : Prop where
  len : ∀ vs H Q E, sp vs H Q E → vs.length = ps.length
  run : ∀ (A : Around) (outer : List Env) (s : Shared) (H : Hp) (args : Args) (us : List Value) (vs : List V) (Q : VK) (E : XK), L2H.RoomH k A → Env0 P w K mg base A outer s H → BindsTo s fd args (ps.zip us) → Vals vs us → sp vs H Q E →
    codeAny (model P w) A (.call (.ref f) args) (CR CX outer P w H s Q E) s
section
variable {P : Program} {w : World} {K : PySem.W.Frag} {mg : Str → Option Value} {base : Heap}
theorem FnR.ok {CX : CXT} {k : Nat} {f : Addr} {fd : FuncData} {ps : List Str} {sp : Sp} (F : FnR P w K mg base CX k f fd ps sp) : FnOk P w K mg base CX k f fd ps sp := ⟨F.len, fun A outer s H args us vs Q E r => F.run A outer s H args us vs Q E (L2H.roomH_of r)⟩
end
/-- somewhere below -/
structure SubH (X : Cx) (n : Nat) (A : Around) : Prop where
  room : L2H.RoomH n A
  fr : A.frames = X.A.frames
theorem SubH.in1 {X : Cx} {n : Nat} {A : Around} (s : SubH X (n + 1) A) : SubH X n A.in1 := ⟨⟨by have := s.room.dp; show A.depth + 3 * n + 5 < _; omega, by have := s.room.un; show A.units + 1 + 16 * n + 200 < _; omega⟩, s.fr⟩
end Dn
set_option Elab.async false
set_option linter.all false
set_option maxRecDepth 100000
set_option maxHeartbeats 1000000
namespace Dn
open PySem PySem.Spec PyProof.Rows L2
end Dn
set_option Elab.async false
set_option linter.all false
set_option maxRecDepth 100000
set_option maxHeartbeats 1000000
namespace Dn
open PySem PySem.Spec PyProof.Rows L2
end Dn
set_option Elab.async false
set_option linter.all false
set_option maxRecDepth 100000
set_option maxHeartbeats 1000000
namespace Dn
open PySem PySem.Spec PyProof.Rows L2
end Dn
set_option Elab.async false
set_option linter.all false
set_option maxRecDepth 100000
set_option maxHeartbeats 2000000
namespace Dn
open PySem PySem.Spec PyProof.Rows L2
end Dn
set_option Elab.async false
set_option linter.all false
set_option maxRecDepth 100000
set_option maxHeartbeats 2000000
namespace Dn
open PySem L2
end Dn
set_option Elab.async false
set_option linter.all false
set_option maxRecDepth 100000
set_option maxHeartbeats 2000000
namespace Dn
open PySem PySem.Spec PyProof.Rows L2
end Dn
set_option Elab.async false
set_option linter.all false
set_option maxRecDepth 100000
set_option maxHeartbeats 2000000
namespace Dn
open PySem PySem.Spec PyProof.Rows L2
end Dn
set_option Elab.async false
set_option linter.all false
set_option maxRecDepth 100000
set_option maxHeartbeats 2000000
namespace Dn
open PySem L2
end Dn
set_option Elab.async false
set_option linter.all false
set_option maxRecDepth 100000
set_option maxHeartbeats 2000000
namespace Dn
open PySem PySem.Spec PyProof.Rows L2
section
variable {prog : Program} {w : World} {A : Around} {E : Value → Shared → Prop} {s : Shared}
theorem put_new {d b : Addr} {k : List Key} {v : Value} {o : Obj} {ep : Nat} {Q : Unit → Shared → Prop} (hu : A.units < cLine) (hkey : (tupleKind (mixKind prog w)).is s.heap k b) (hd : s.heap.get? d = some o) (hc : o.ExactDict) (hdd : o.data = .dict #[] ep)
    (hQ : ∀ h', (∃ o', h'.get? d = some o' ∧ o'.ExactDict ∧ o'.data = .dict #[⟨(tupleKind (mixKind prog w)).hash k, .ref b, v⟩] (ep + 1)) → Heap.SameBut d s.heap h' → Q () { s with heap := h' }) :
    wpAny (model prog w) A (dictPut d ((tupleKind (mixKind prog w)).hash k) (.ref b) v) Q E s := by
  unfold dictPut
  refine wpAny_bind (wpAny_dictFind_heap (xs := []) hu hkey hd hdd rfl (fun _ h => nomatch h) List.nodup_nil (fun _ => ?_) fun j p h => by simp at h)
  exact wpAny_updateDictKeys (hz := by simp) hd hdd (hQ _ ⟨_, Heap.get?_update_self _ hd (Obj.isFreed_of_dict (Obj.data_mapDictKeys hdd _)), hc.mapDictKeys _, Obj.data_mapDictKeys hdd _⟩ (Heap.SameBut.update ..))
end
end Dn
set_option Elab.async false
set_option linter.all false
set_option maxRecDepth 100000
set_option maxHeartbeats 2000000
namespace Dn
open PySem PySem.Spec PyProof.Rows L2
end Dn
set_option Elab.async false
set_option linter.all false
set_option maxRecDepth 100000
set_option maxHeartbeats 2000000
namespace Dn
open PySem PySem.Spec PyProof.Rows L2
variable [CTab]
theorem Rps.dropLast {B : Hp} : ∀ {xs : List U} {vs : List V}, Rps B xs vs → Rps B xs.dropLast vs.dropLast
  | _, _, .nil => .nil
  | _, _, .cons h .nil => .nil
  | _, _, .cons h (.cons h2 t) => .cons h (Rps.dropLast (.cons h2 t))
end Dn
set_option Elab.async false
set_option linter.all false
namespace Dn
open PySem PySem.Spec PyProof.Rows L2
/-- behind the end of a block: what is due there -/
theorem tn {X : L2.St → Hp → Prop} {rt : VK} {bk ct : L2.St → Hp → Prop} {σ : L2.St} {H : Hp} (h : X σ H) : tNext { nx := X, rt := rt, bk := bk, ct := ct } σ H := h
end Dn
set_option Elab.async false
set_option linter.all false
set_option maxRecDepth 100000
set_option maxHeartbeats 2000000
namespace Dn
open PySem PySem.Spec PyProof.Rows L2
variable [CTab]
structure OwnI (K : PySem.W.Frag) (C : Addr) : Prop where
  cls : Cls K C
  ha : PySem.W.findIn K (.ref C) "__class__" = some (some (.builtin "object.__class__"))
  hn : PySem.W.specialIn K (.builtin "object.__class__") "__get__" = some (some (.builtin "getset_descriptor.__get__"))
  htk : PySem.W.takesIn K (.builtin "object.__class__") = some true
  hm : PySem.W.mroIn K C (.type "object") = some true
end Dn
set_option Elab.async false
set_option linter.all false
set_option maxRecDepth 100000
set_option maxHeartbeats 2000000
namespace Dn
open PySem PySem.Spec PyProof.Rows L2
/-- x is not v -/
def NotSame (s : Shared) (x : Addr) (v : Value) : Prop := ∀ (prog : Program) (w : World) (A : Around) (E : Value → Shared → Prop) (R : Bool → Shared → Prop), R false s → wpAny (model prog w) A (isSame (.ref x) v) R E s
section
variable {prog : Program} {w : World} {A : Around} {E : Value → Shared → Prop} {s : Shared} {K : PySem.W.Frag} {x C : Addr} {ox : Obj} {od : Option Obj} {v tv : Value}
theorem od_entry {Q : Fin → Shared → Prop} (h : NotSame s x v) (hq : Q (.done (.ret .notImplemented)) s) : wpAny (model prog w) A (Builtin.«object.__eq__» ⟨[.ref x, v], []⟩) Q E s := by
  unfold Builtin.«object.__eq__»
  repeat (first | exact hq | (refine wpAny_bind (m := isSame (.ref x) v) (h _ _ _ _ _ ?_)) | wp_step)
open PySem.W PySem.Builtin in
theorem od_call {Q : Value → Shared → Prop} (h : NotSame s x v) (X : K.In s.heap) (I : InstAt s.heap x ox C od) (hm : mroIn K C (.type "object") = some true) (hq : Q .notImplemented s) :
    wpAny (model prog w) A (call (.builtin "object.__eq__") [.ref x, v]) Q E s :=
  wpAny_call (codeAny_call_builtin PySem.F.cmp_object.eq.plain PySem.F.cmpEntry_eq (check_slot PySem.F.cmpKind_eq PySem.F.cmpSplit_eq (I.type.andThen (looks_mroIn X hm)) (PySem.F.cmpArgs_eq _ _) (od_entry h hq)))
open PySem.W PySem.Builtin in
theorem od_try (h : NotSame s x v) (X : K.In s.heap) (I : InstAt s.heap x ox C od) (hm : mroIn K C (.type "object") = some true) (hs : findIn K (.ref C) "__eq__" = some (some (.builtin "object.__eq__"))) :
    wpAny (model prog w) A (tryCompare (.ref x) "__eq__" v) (fun r s' => r = none ∧ s' = s) E s := by
  unfold tryCompare
  exact wpAny_bind (HN.ifBound_objEq X I hs (od_call h X I hm (wpAny_pure ⟨rfl, rfl⟩)))
open PySem.W PySem.Builtin in
theorem od_tryN (hu : A.units + 1 < cLine) (h : NotSame s x v) (X : K.In s.heap) (I : InstAt s.heap x ox C od) (hm : mroIn K C (.type "object") = some true) (hs : findIn K (.ref C) "__eq__" = some (some (.builtin "object.__eq__")))
    (hne : findIn K (.ref C) "__ne__" = some (some (.builtin "object.__ne__"))) : wpAny (model prog w) A (tryCompare (.ref x) "__ne__" v) (fun r s' => r = none ∧ s' = s) E s := by
  have inst : Looks (model prog w) s.heap (isInstance (.ref x) (.type "object")) true := I.type.andThen (looks_mroIn X hm)
  have cl : ∀ {R : Value → Shared → Prop}, R .notImplemented s → wpAny (model prog w) A (call (.builtin "object.__ne__") [.ref x, v]) R E s := fun {R} hr => by
    refine wpAny_call (codeAny_call_builtin PySem.F.cmp_object.ne.plain PySem.F.cmpEntry_ne (check_slot PySem.F.cmpKind_ne PySem.F.cmpSplit_ne inst (PySem.F.cmpArgs_ne _ _) ?_))
    unfold Builtin.«object.__ne__»
    repeat (first
      | with_reducible refine wpAny_cRoomFor hu ?_
      | (refine wpAny_bind (m := callSpecialIfBound? (.ref x) (Str.ofString "__eq__") [v]) (HN.ifBound_objEq X I hs (od_call (A := A.in1) h X I hm ?_)))
      | exact hr | exact wpAny_pure hr
      | wp_step)
  unfold tryCompare
  have bnd : wpAny (model prog w) A (callSpecialIfBound? (.ref x) "__ne__" [v]) (fun r s' => r = some .notImplemented ∧ s' = s) E s := by
    simp only [callSpecialIfBound?, bindSpecialIfBound?]
    refine wpAny_holding (wpAny_bind (wpAny_bind (wpAny_bind (I.type.here ((looks_findIn X hne).here ?_)))))
    simp only [PySem.F.cmp_object.ne.bind]
    refine wpAny_bind (wpAny_askSetting (wpAny_ite ?_))
    have fin : wpAny (model prog w) A (call (.builtin "object.__ne__") ([.ref x] ++ [v]) >>= fun v => pure (some v)) (fun r s' => r = some .notImplemented ∧ s' = s) E s :=
      wpAny_bind (cl (wpAny_pure ⟨rfl, rfl⟩))
    split
    · exact wpAny_bind (wpAny_pure (wpAny_pure fin))
    · exact wpAny_tryCatch (wpAny_bind (wpAny_pure (wpAny_pure fin)))
  refine wpAny_bind (wpAny_mono bnd (fun r s' hr => ?_) fun _ _ e => e)
  obtain ⟨rfl, rfl⟩ := hr
  exact wpAny_pure ⟨rfl, rfl⟩
open PySem.W PySem.Builtin in
theorem od_eq {Q : Value → Shared → Prop} (hu : A.units < cLine) (h : NotSame s x v) (X : K.In s.heap) (I : InstAt s.heap x ox C od) (hm : mroIn K C (.type "object") = some true) (hs : findIn K (.ref C) "__eq__" = some (some (.builtin "object.__eq__")))
    (ty : ∀ R : Value → Shared → Prop, R tv s → wpAny (model prog w) A (typeOf v) R E s) (hne : (Value.ref C != tv) = true) (hn : subIn K tv (.ref C) = some false)
    (two : wpAny (model prog w) A (tryCompare v "__eq__" (.ref x)) (fun r s' => (r = none ∧ s' = s) ∨ (r = some (.bool false) ∧ Q (.bool false) s')) E s) (hq : Q (.bool false) s) : wpAny (model prog w) A (richCompare .Eq (.ref x) v) Q E s := by
  simp only [richCompare, cmpInfo_Eq, oneThing_ref]
  refine wpAny_holding (wpAny_bind (wpAny_cRoomFor hu ?_))
  refine wpAny_bind (I.type.here (wpAny_bind (ty _ ?_)))
  rw [if_pos hne]
  refine wpAny_bind ((looks_subIn X hn).here ?_)
  simp only [Bool.false_eq_true, if_false, Bool.not_false, if_true]
  refine wpAny_bind (m := tryCompare (.ref x) _ v) (wpAny_mono (od_try h X I hm hs) (fun r s1 z => ?_) fun _ _ e => e)
  obtain ⟨rfl, rfl⟩ := z
  refine wpAny_bind (m := tryCompare v _ (.ref x)) (wpAny_mono two (fun r s2 z => ?_) fun _ _ e => e)
  rcases z with ⟨rfl, rfl⟩ | ⟨rfl, z⟩
  · exact wpAny_bind (wpAny_rule (wpAny_bind (h _ _ _ _ _ (wpAny_pure hq))))
  · exact wpAny_pure z
open PySem.W PySem.Builtin in
theorem od_ne {Q : Value → Shared → Prop} (hu : A.units + 1 < cLine) (h : NotSame s x v) (X : K.In s.heap) (I : InstAt s.heap x ox C od) (hm : mroIn K C (.type "object") = some true) (hs : findIn K (.ref C) "__eq__" = some (some (.builtin "object.__eq__")))
    (hns : findIn K (.ref C) "__ne__" = some (some (.builtin "object.__ne__")))
    (ty : ∀ R : Value → Shared → Prop, R tv s → wpAny (model prog w) A (typeOf v) R E s) (hne : (Value.ref C != tv) = true) (hn : subIn K tv (.ref C) = some false)
    (two : wpAny (model prog w) A (tryCompare v "__ne__" (.ref x)) (fun r s' => (r = none ∧ s' = s) ∨ (r = some (.bool true) ∧ Q (.bool true) s')) E s) (hq : Q (.bool true) s) : wpAny (model prog w) A (richCompare .NotEq (.ref x) v) Q E s := by
  simp only [richCompare, cmpInfo_NotEq, oneThing_ref]
  refine wpAny_holding (wpAny_bind (wpAny_cRoomFor (Nat.lt_of_succ_lt hu) ?_))
  refine wpAny_bind (I.type.here (wpAny_bind (ty _ ?_)))
  rw [if_pos hne]
  refine wpAny_bind ((looks_subIn X hn).here ?_)
  simp only [Bool.false_eq_true, if_false, Bool.not_false, if_true]
  refine wpAny_bind (m := tryCompare (.ref x) _ v) (wpAny_mono (od_tryN hu h X I hm hs hns) (fun r s1 z => ?_) fun _ _ e => e)
  obtain ⟨rfl, rfl⟩ := z
  refine wpAny_bind (m := tryCompare v _ (.ref x)) (wpAny_mono two (fun r s2 z => ?_) fun _ _ e => e)
  rcases z with ⟨rfl, rfl⟩ | ⟨rfl, z⟩
  · exact wpAny_bind (wpAny_rule (wpAny_bind (h _ _ _ _ _ (wpAny_pure (by exact hq)))))
  · exact wpAny_pure z
end
section
variable {K : PySem.W.Frag} {x C dx : Addr}
open AutoSeq1 (wpAny_loadPart')
open MeetsSeq MeetsSeq2 MeetsSeq3 PySem.SeqAt
open PySem.W (mroIn looks_mroIn instObj)
theorem dec_int_eq (i : Int) (t : Tok) : Meets (Builtin.«int.__eq__» ⟨[.int i t, .ref x], []⟩) (fun _ R s => s.heap.get? x = some (instObj C dx) ∧ R (.ok (.ret .notImplemented)) s) :=
  .of_wp fun prog w A R s h => by obtain ⟨hp, g, d, tk, os⟩ := s; obtain ⟨hl, h⟩ := h; wp_walk using wpAny_loadPart' hl; exact ⟨_, rfl, h⟩
theorem dec_int_ne (i : Int) (t : Tok) : Meets (Builtin.«int.__ne__» ⟨[.int i t, .ref x], []⟩) (fun _ R s => s.heap.get? x = some (instObj C dx) ∧ R (.ok (.ret .notImplemented)) s) :=
  .of_wp fun prog w A R s h => by obtain ⟨hp, g, d, tk, os⟩ := s; obtain ⟨hl, h⟩ := h; wp_walk using wpAny_loadPart' hl; exact ⟨_, rfl, h⟩
theorem dec_str_eq (i : Str) (t : Tok) : Meets (Builtin.«str.__eq__» ⟨[.str i t, .ref x], []⟩) (fun _ R s => s.heap.get? x = some (instObj C dx) ∧ R (.ok (.ret .notImplemented)) s) :=
  .of_wp fun prog w A R s h => by obtain ⟨hp, g, d, tk, os⟩ := s; obtain ⟨hl, h⟩ := h; wp_walk using wpAny_loadPart' hl; exact ⟨_, rfl, h⟩
theorem dec_str_ne (i : Str) (t : Tok) : Meets (Builtin.«str.__ne__» ⟨[.str i t, .ref x], []⟩) (fun _ R s => s.heap.get? x = some (instObj C dx) ∧ R (.ok (.ret .notImplemented)) s) :=
  .of_wp fun prog w A R s h => by obtain ⟨hp, g, d, tk, os⟩ := s; obtain ⟨hl, h⟩ := h; wp_walk using wpAny_loadPart' hl; exact ⟨_, rfl, h⟩
theorem dec_list_eq (l : Addr) (items : Array Value) (n : Nat) (dd : Option Addr) (sl : Array (Option Value)) (hm : mroIn K C (.type "list") = some false) :
    Meets (Builtin.«list.__eq__» ⟨[.ref l, .ref x], []⟩) (fun _ R s => K.In s.heap ∧ s.heap.get? x = some (instObj C dx) ∧ s.heap.get? l = some { cls := .type "list", dict := dd, data := .seq items n, slots := sl } ∧ R (.ok (.ret .notImplemented)) s) :=
  .of_wp fun prog w A R s h => by obtain ⟨hp, g, d, tk, os⟩ := s; obtain ⟨X, hl, hl2, h⟩ := h; wp_walk using wpAny_loadPart' hl, wpAny_loadPart' hl2, (looks_mroIn X hm).here; exact ⟨_, rfl, h⟩
theorem dec_list_ne (l : Addr) (items : Array Value) (n : Nat) (dd : Option Addr) (sl : Array (Option Value)) (hm : mroIn K C (.type "list") = some false) :
    Meets (Builtin.«list.__ne__» ⟨[.ref l, .ref x], []⟩) (fun _ R s => K.In s.heap ∧ s.heap.get? x = some (instObj C dx) ∧ s.heap.get? l = some { cls := .type "list", dict := dd, data := .seq items n, slots := sl } ∧ R (.ok (.ret .notImplemented)) s) :=
  .of_wp fun prog w A R s h => by obtain ⟨hp, g, d, tk, os⟩ := s; obtain ⟨X, hl, hl2, h⟩ := h; wp_walk using wpAny_loadPart' hl, wpAny_loadPart' hl2, (looks_mroIn X hm).here; exact ⟨_, rfl, h⟩
theorem dec_dict_eq (l : Addr) {o : Obj} (hc : o.cls = .type "dict") (hm : mroIn K C (.type "dict") = some false) :
    Meets (Builtin.«dict.__eq__» ⟨[.ref l, .ref x], []⟩) (fun _ R s => K.In s.heap ∧ s.heap.get? x = some (instObj C dx) ∧ s.heap.get? l = some o ∧ R (.ok (.ret .notImplemented)) s) :=
  .of_wp fun prog w A R s h => by obtain ⟨hp, g, d, tk, os⟩ := s; obtain ⟨X, hl, hl2, h⟩ := h; wp_walk using wpAny_loadPart' hl, wpAny_loadPart' hl2, (looks_mroIn X hm).here; exact ⟨_, rfl, h⟩
theorem dec_dict_ne (l : Addr) {o : Obj} (hc : o.cls = .type "dict") (hm : mroIn K C (.type "dict") = some false) :
    Meets (Builtin.«dict.__ne__» ⟨[.ref l, .ref x], []⟩) (fun _ R s => K.In s.heap ∧ s.heap.get? x = some (instObj C dx) ∧ s.heap.get? l = some o ∧ R (.ok (.ret .notImplemented)) s) :=
  .of_wp fun prog w A R s h => by obtain ⟨hp, g, d, tk, os⟩ := s; obtain ⟨X, hl, hl2, h⟩ := h; wp_walk using wpAny_loadPart' hl, wpAny_loadPart' hl2, (looks_mroIn X hm).here; exact ⟨_, rfl, h⟩
end
end Dn
set_option Elab.async false
set_option linter.all false
set_option maxRecDepth 100000
set_option maxHeartbeats 2000000
namespace Dn
open PySem PySem.Spec PyProof.Rows L2
/-- what the heap part tells of a class without an == of its own, beside another class that has one -/
structure OddC (K : PySem.W.Frag) (C CW : Addr) : Prop where
  id : IdC K C
  oi : OwnI K C
  kt : PySem.W.kitOne K (.ref C) (.ref CW) = some false
  ol : PySem.W.mroIn K C (.type "list") = some false
  od : PySem.W.mroIn K C (.type "dict") = some false
  sw : PySem.W.subIn K (.ref CW) (.ref C) = some false
  ne : (C == CW) = false
  wo : PySem.W.mroIn K CW (.type "object") = some true
  wn : PySem.W.findIn K (.ref CW) "__ne__" = some (some (.builtin "object.__ne__"))
def OddV (H : Hp) (y : V) : Prop := y = .non ∨ (∃ i, y = .int i) ∨ (∃ t, y = .str t) ∨ (∃ b xs, y = .ref b ∧ H b = some (.lst xs)) ∨ ∃ b es, y = .ref b ∧ H b = some (.dK es)
def rOdd (C : Addr) (neg : Bool) : R2 := fun x y H Q => ∃ a dx fs, x = .ref a ∧ H a = some (.ins C dx fs) ∧ OddV H y ∧ Q (.bl neg) H
def rOddW (C CW : Addr) (sp : Sp) (E : XK) (neg : Bool) : R2 := fun x y H Q => ∃ a dx fs b dy gs, x = .ref a ∧ y = .ref b ∧ H a = some (.ins C dx fs) ∧ H b = some (.ins CW dy gs) ∧ sp [.ref b, .ref a] H (fun r H' => r = .bl false ∧ Q (.bl neg) H') E
section
variable {prog : Program} {w : World} {A : Around} {E : Value → Shared → Prop} {s : Shared} {K : PySem.W.Frag} {x C : Addr} {v : Value}
theorem two_of {T : String} {name : Str} {id : String} {B : Builtin} {S : PySem.Spec} {W : Option Value → Shared → Prop} (slot : Slot T name id) (hT : s.TypeIs v T) (entry : entryFor table id = some B) (args : argsOk id ⟨[v, .ref x], []⟩)
    (g : Meets (B ⟨[v, .ref x], []⟩) S) (h : S A (wants (fun v s' => v = .notImplemented ∧ s' = s) E) s) : wpAny (model prog w) A (tryCompare v name (.ref x)) (fun r s' => (r = none ∧ s' = s) ∨ W r s') E s :=
  wpAny_mono (wpAny_tryCompare_declines (Q := fun r s' => r = none ∧ s' = s) hT slot (wpAny_mono (call_meets slot hT entry args g h) (fun v s' z => ⟨z.1, rfl, z.2⟩) fun _ _ e => e)) (fun r s' z => .inl z) fun _ _ e => e
theorem notSame_plain (h1 : plainIs (.ref x) v = true) (h2 : (Value.ref x == v) = false) : NotSame s x v := fun prog w A E R hr => wpAny_of_eq (isSame_plain h1) (by rw [h2]; exact hr)
theorem subO_int : PySem.W.subIn K (.type "int") (.ref C) = some false := by
  have e : fastBuiltinMro "int" = some [.type "int", .type "object"] := by decide +kernel
  show (fastBuiltinMro "int").map (·.contains (.ref C)) = some false
  rw [e]
  first
    | rfl
    | simp
theorem subO_str : PySem.W.subIn K (.type "str") (.ref C) = some false := by
  have e : fastBuiltinMro "str" = some [.type "str", .type "object"] := by decide +kernel
  show (fastBuiltinMro "str").map (·.contains (.ref C)) = some false
  rw [e]
  first
    | rfl
    | simp
theorem subO_list : PySem.W.subIn K (.type "list") (.ref C) = some false := by
  have e : fastBuiltinMro "list" = some [.type "list", .type "object"] := by decide +kernel
  show (fastBuiltinMro "list").map (·.contains (.ref C)) = some false
  rw [e]
  first
    | rfl
    | simp
theorem subO_dict : PySem.W.subIn K (.type "dict") (.ref C) = some false := by
  have e : fastBuiltinMro "dict" = some [.type "dict", .type "object"] := by decide +kernel
  show (fastBuiltinMro "dict").map (·.contains (.ref C)) = some false
  rw [e]
  first
    | rfl
    | simp
theorem ty_of {T : String} (h : s.TypeIs v T) : ∀ R : Value → Shared → Prop, R (.type T) s → wpAny (model prog w) A (typeOf v) R E s := fun R hr => wpAny_typeOf h hr
end
section
variable {X : Cx} {K : PySem.W.Frag} {C CW : Addr}
theorem op_oddEq (hK : X.K = K) (o : OddC K C CW) (hu : X.A.units + 64 < cLine) : OpR X (compareOp .Eq) (rOdd C false) := by
  subst hK
  intro pins s σ H x y u v Q I rx ry h
  obtain ⟨a, dx, fs, rfl, ha, hk, q⟩ := h
  cases rx
  obtain ⟨mA, J, _⟩ := ins_get I.hok ha
  have ob := J.obj
  obtain ⟨od, J, _⟩ := J.look
  show wpAny (model X.prog X.w) X.A (richCompare .Eq (.ref a) v) (EP X pins σ Q) X.xe s
  have hu' : X.A.units < cLine := by omega
  rcases hk with rfl | ⟨i, rfl⟩ | ⟨t, rfl⟩ | ⟨b, xs, rfl, hb⟩ | ⟨b, es, rfl, hb⟩
  · cases ry
    exact od_eq hu' (notSame_plain rfl rfl) I.kIn J o.id.hm o.id.eq (tv := .type "NoneType") (ty_of (show s.TypeIs .none "NoneType" from rfl)) (by simp) HN.sub_none
      (wpAny_mono (wpAny_tryCompare_declines (Q := fun r s' => r = none ∧ s' = s) (show s.TypeIs .none "NoneType" from rfl) F.slot_NoneType_eq_refl (call_gives F.slot_NoneType_eq_refl rfl F.entry_NoneType_eq (F.args_NoneType_eq_2 _ _) (SeqAt.NoneType___eq___none_ref_0 a) ⟨rfl, rfl, rfl⟩)) (fun r s' z => .inl z) fun _ _ e => e) ⟨.bl _, H, I, rfl, q⟩
  · obtain ⟨t, rfl⟩ := ry
    exact od_eq hu' (notSame_plain rfl rfl) I.kIn J o.id.hm o.id.eq (tv := .type "int") (ty_of (typeIs_int s i t)) (by simp) subO_int
      (two_of F.slot_int_eq_refl (typeIs_int s i t) F.entry_int_eq (F.args_int_eq_2 _ _) (dec_int_eq i t) ⟨ob, rfl, rfl⟩) ⟨.bl _, H, I, rfl, q⟩
  · obtain ⟨t', rfl⟩ := ry
    exact od_eq hu' (notSame_plain rfl rfl) I.kIn J o.id.hm o.id.eq (tv := .type "str") (ty_of (typeIs_str s t t')) (by simp) subO_str
      (two_of F.slot_str_eq_refl (typeIs_str s t t') F.entry_str_eq (F.args_str_eq_2 _ _) (dec_str_eq t t') ⟨ob, rfl, rfl⟩) ⟨.bl _, H, I, rfl, q⟩
  · cases ry
    obtain ⟨_, its, n, _, e⟩ := (show ObjOk X.prog X.w H s.heap b (.lst xs) from I.hok b _ hb)
    have ne : a ≠ b := fun z => by subst z; rw [ha] at hb; cases hb
    have hT : s.TypeIs (.ref b) "list" := ⟨_, e, rfl⟩
    exact od_eq hu' (fun prog w A E R hr => wpAny_isSame_ref_other ne ob e (by simp [PySem.W.instObj]) hr) I.kIn J o.id.hm o.id.eq (tv := .type "list") (ty_of hT) (by simp) subO_list
      (two_of F.slot_list_eq_refl hT F.entry_list_eq (F.args_list_eq_2 _ _) (dec_list_eq b _ _ _ _ o.ol) ⟨I.kIn, ob, e, rfl, rfl⟩) ⟨.bl _, H, I, rfl, q⟩
  · cases ry
    obtain ⟨_, _, vs, _, ob2, es', ep, e, ⟨hc, _⟩, _⟩ := (show ObjOk X.prog X.w H s.heap b (.dK es) from I.hok b _ hb)
    have ne : a ≠ b := fun z => by subst z; rw [ha] at hb; cases hb
    have hT : s.TypeIs (.ref b) "dict" := ⟨_, e, hc⟩
    exact od_eq hu' (fun prog w A E R hr => wpAny_isSame_ref_other ne ob e (by simp [PySem.W.instObj]) hr) I.kIn J o.id.hm o.id.eq (tv := .type "dict") (ty_of hT) (by simp) subO_dict
      (two_of F.slot_dict_eq_refl hT F.entry_dict_eq (F.args_dict_eq_2 _ _) (dec_dict_eq b hc o.od) ⟨I.kIn, ob, e, rfl, rfl⟩) ⟨.bl _, H, I, rfl, q⟩
theorem op_oddNe (hK : X.K = K) (o : OddC K C CW) (hu : X.A.units + 64 < cLine) : OpR X (compareOp .NotEq) (rOdd C true) := by
  subst hK
  intro pins s σ H x y u v Q I rx ry h
  obtain ⟨a, dx, fs, rfl, ha, hk, q⟩ := h
  cases rx
  obtain ⟨mA, J, _⟩ := ins_get I.hok ha
  have ob := J.obj
  obtain ⟨od, J, _⟩ := J.look
  show wpAny (model X.prog X.w) X.A (richCompare .NotEq (.ref a) v) (EP X pins σ Q) X.xe s
  have hu' : X.A.units + 1 < cLine := by omega
  rcases hk with rfl | ⟨i, rfl⟩ | ⟨t, rfl⟩ | ⟨b, xs, rfl, hb⟩ | ⟨b, es, rfl, hb⟩
  · cases ry
    exact od_ne hu' (notSame_plain rfl rfl) I.kIn J o.id.hm o.id.eq o.id.ne (tv := .type "NoneType") (ty_of (show s.TypeIs .none "NoneType" from rfl)) (by simp) HN.sub_none
      (wpAny_mono (wpAny_tryCompare_declines (Q := fun r s' => r = none ∧ s' = s) (show s.TypeIs .none "NoneType" from rfl) F.slot_NoneType_ne_refl (call_gives F.slot_NoneType_ne_refl rfl F.entry_NoneType_ne (F.args_NoneType_ne_2 _ _) (SeqAt.NoneType___ne___none_ref_0 a) ⟨rfl, rfl, rfl⟩)) (fun r s' z => .inl z) fun _ _ e => e) ⟨.bl _, H, I, rfl, q⟩
  · obtain ⟨t, rfl⟩ := ry
    exact od_ne hu' (notSame_plain rfl rfl) I.kIn J o.id.hm o.id.eq o.id.ne (tv := .type "int") (ty_of (typeIs_int s i t)) (by simp) subO_int
      (two_of F.slot_int_ne_refl (typeIs_int s i t) F.entry_int_ne (F.args_int_ne_2 _ _) (dec_int_ne i t) ⟨ob, rfl, rfl⟩) ⟨.bl _, H, I, rfl, q⟩
  · obtain ⟨t', rfl⟩ := ry
    exact od_ne hu' (notSame_plain rfl rfl) I.kIn J o.id.hm o.id.eq o.id.ne (tv := .type "str") (ty_of (typeIs_str s t t')) (by simp) subO_str
      (two_of F.slot_str_ne_refl (typeIs_str s t t') F.entry_str_ne (F.args_str_ne_2 _ _) (dec_str_ne t t') ⟨ob, rfl, rfl⟩) ⟨.bl _, H, I, rfl, q⟩
  · cases ry
    obtain ⟨_, its, n, _, e⟩ := (show ObjOk X.prog X.w H s.heap b (.lst xs) from I.hok b _ hb)
    have ne : a ≠ b := fun z => by subst z; rw [ha] at hb; cases hb
    have hT : s.TypeIs (.ref b) "list" := ⟨_, e, rfl⟩
    exact od_ne hu' (fun prog w A E R hr => wpAny_isSame_ref_other ne ob e (by simp [PySem.W.instObj]) hr) I.kIn J o.id.hm o.id.eq o.id.ne (tv := .type "list") (ty_of hT) (by simp) subO_list
      (two_of F.slot_list_ne_refl hT F.entry_list_ne (F.args_list_ne_2 _ _) (dec_list_ne b _ _ _ _ o.ol) ⟨I.kIn, ob, e, rfl, rfl⟩) ⟨.bl _, H, I, rfl, q⟩
  · cases ry
    obtain ⟨_, _, vs, _, ob2, es', ep, e, ⟨hc, _⟩, _⟩ := (show ObjOk X.prog X.w H s.heap b (.dK es) from I.hok b _ hb)
    have ne : a ≠ b := fun z => by subst z; rw [ha] at hb; cases hb
    have hT : s.TypeIs (.ref b) "dict" := ⟨_, e, hc⟩
    exact od_ne hu' (fun prog w A E R hr => wpAny_isSame_ref_other ne ob e (by simp [PySem.W.instObj]) hr) I.kIn J o.id.hm o.id.eq o.id.ne (tv := .type "dict") (ty_of hT) (by simp) subO_dict
      (two_of F.slot_dict_ne_refl hT F.entry_dict_ne (F.args_dict_ne_2 _ _) (dec_dict_ne b hc o.od) ⟨I.kIn, ob, e, rfl, rfl⟩) ⟨.bl _, H, I, rfl, q⟩
end
section
variable {X : Cx} {K : PySem.W.Frag} {C CW : Addr} {CX : CXT} {k : Nat} {f : Addr} {fd : FuncData} {ps : List Str} {sp : Sp} {E : XK}
theorem op_oddWEq (hK : X.K = K) (o : OddC K C CW) (F : FnOk X.prog X.w X.K X.mg X.base CX k f fd ps sp) (hr : Room (k + 2) X.A) (hs : PySem.W.findIn K (.ref CW) "__eq__" = some (some (.ref f))) (hf : PySem.W.isFn K (.ref f) = true) (hb : Binds K fd ps []) (hx : Passes CX X E) :
    OpR X (compareOp .Eq) (rOddW C CW sp E false) := by
  subst hK
  intro pins s σ H x y u v Q I rx ry h
  obtain ⟨a, dx, fs, b, dy, gs, rfl, rfl, ha, hb', h⟩ := h
  cases rx
  cases ry
  obtain ⟨mA, J, _⟩ := ins_get I.hok ha
  have ob := J.obj
  obtain ⟨od, J, _⟩ := J.look
  obtain ⟨mB, J2, _⟩ := ins_get I.hok hb'
  have ob2 := J2.obj
  obtain ⟨od2, J2, _⟩ := J2.look
  have hne : C ≠ CW := fun z => by have := o.ne; rw [z] at this; simp at this
  have ne : a ≠ b := fun z => by subst z; rw [ha] at hb'; cases hb'; exact hne rfl
  show wpAny (model X.prog X.w) X.A (richCompare .Eq (.ref a) (.ref b)) (EP X pins σ Q) X.xe s
  have hu := hr.units
  have two : wpAny (model X.prog X.w) X.A (tryCompare (.ref b) "__eq__" (.ref a)) (fun r s' => r = some (.bool false) ∧ EP X pins σ Q (.bool false) s') X.xe s := by
    unfold tryCompare
    refine wpAny_bind (PySem.W.ifBound_K I.kIn J2 hs hf (wpAny_mono (own_call F ((Sub.mono ⟨hr, rfl⟩ (by omega))) I hb hx (.cons (show RelV (V.ref b) (Value.ref b) from rfl) (.cons (show RelV (V.ref a) (Value.ref a) from rfl) .nil)) h) (fun r s' z => ?_) fun _ _ e => e))
    obtain ⟨rv, H', I', rr, rfl, q⟩ := z
    cases rr
    exact wpAny_pure ⟨rfl, .bl false, H', I', rfl, q⟩
  have nos : NotSame s a (.ref b) := fun prog w A E R hr => wpAny_isSame_ref_other ne ob ob2 (by simp [PySem.W.instObj]) hr
  simp only [richCompare, cmpInfo_Eq, oneThing_ref]
  refine wpAny_holding (wpAny_bind (wpAny_cRoomFor (by omega) ?_))
  refine wpAny_bind (J.type.here (wpAny_bind (J2.type.here ?_)))
  rw [if_pos (by simp [hne])]
  refine wpAny_bind ((PySem.W.looks_subIn I.kIn o.sw).here ?_)
  simp only [Bool.false_eq_true, if_false, Bool.not_false, if_true]
  refine wpAny_bind (m := tryCompare (.ref a) _ (.ref b)) (wpAny_mono (od_try nos I.kIn J o.id.hm o.id.eq) (fun r s1 z => ?_) fun _ _ e => e)
  obtain ⟨rfl, rfl⟩ := z
  refine wpAny_bind (m := tryCompare (.ref b) _ (.ref a)) (wpAny_mono two (fun r s2 z => ?_) fun _ _ e => e)
  obtain ⟨rfl, z⟩ := z
  exact wpAny_pure z
theorem op_oddWNe (hK : X.K = K) (o : OddC K C CW) (F : FnOk X.prog X.w X.K X.mg X.base CX k f fd ps sp) (hr : Room (k + 3) X.A) (hs : PySem.W.findIn K (.ref CW) "__eq__" = some (some (.ref f))) (hf : PySem.W.isFn K (.ref f) = true) (hb : Binds K fd ps []) (hx : Passes CX X E) :
    OpR X (compareOp .NotEq) (rOddW C CW sp E true) := by
  subst hK
  intro pins s σ H x y u v Q I rx ry h
  obtain ⟨a, dx, fs, b, dy, gs, rfl, rfl, ha, hb', h⟩ := h
  cases rx
  cases ry
  obtain ⟨mA, J, _⟩ := ins_get I.hok ha
  have ob := J.obj
  obtain ⟨od, J, _⟩ := J.look
  obtain ⟨mB, J2, _⟩ := ins_get I.hok hb'
  have ob2 := J2.obj
  obtain ⟨od2, J2, _⟩ := J2.look
  have hne : C ≠ CW := fun z => by have := o.ne; rw [z] at this; simp at this
  have ne : a ≠ b := fun z => by subst z; rw [ha] at hb'; cases hb'; exact hne rfl
  show wpAny (model X.prog X.w) X.A (richCompare .NotEq (.ref a) (.ref b)) (EP X pins σ Q) X.xe s
  have hu := hr.units
  have inst : PySem.W.Looks (model X.prog X.w) s.heap (isInstance (.ref b) (.type "object")) true := J2.type.andThen (PySem.W.looks_mroIn I.kIn o.wo)
  have cl : wpAny (model X.prog X.w) X.A (call (.builtin "object.__ne__") [.ref b, .ref a]) (EP X pins σ fun r H' => r = .bl true ∧ Q (.bl true) H') X.xe s := by
    refine wpAny_call (codeAny_call_builtin PySem.F.cmp_object.ne.plain PySem.F.cmpEntry_ne (PySem.W.check_slot PySem.F.cmpKind_ne PySem.F.cmpSplit_ne inst (PySem.F.cmpArgs_ne _ _) ?_))
    unfold Builtin.«object.__ne__»
    have hu1 : X.A.in1.units < cLine := by show X.A.units + 1 < cLine; omega
    repeat (first
      | with_reducible refine wpAny_cRoomFor hu1 ?_
      | (refine wpAny_bind (m := callSpecialIfBound? (.ref b) (Str.ofString "__eq__") [.ref a]) (PySem.W.ifBound_K I.kIn J2 hs hf (wpAny_mono (own_call F (Sub.in1 (Sub.mono ⟨hr, rfl⟩ (by omega))) I hb hx (.cons (show RelV (V.ref b) (Value.ref b) from rfl) (.cons (show RelV (V.ref a) (Value.ref a) from rfl) .nil)) h) (fun r s' z => by
          obtain ⟨rv, H', I', rr, e0, q⟩ := z
          subst e0
          cases rr
          repeat (first | exact wpAny_pure ⟨.bl true, H', I', rfl, rfl, q⟩ | exact ⟨.bl true, H', I', rfl, rfl, q⟩ | (refine wpAny_bind (m := truthy (.bool _)) (wpAny_truthy_bool ?_)) | wp_step)) fun _ _ e => e)))
      | wp_step)
  have two : wpAny (model X.prog X.w) X.A (tryCompare (.ref b) "__ne__" (.ref a)) (fun r s' => r = some (.bool true) ∧ EP X pins σ Q (.bool true) s') X.xe s := by
    unfold tryCompare
    have bnd : wpAny (model X.prog X.w) X.A (callSpecialIfBound? (.ref b) "__ne__" [.ref a]) (fun r s' => r = some (.bool true) ∧ EP X pins σ Q (.bool true) s') X.xe s := by
      simp only [callSpecialIfBound?, bindSpecialIfBound?]
      refine wpAny_holding (wpAny_bind (wpAny_bind (wpAny_bind (J2.type.here ((PySem.W.looks_findIn I.kIn o.wn).here ?_)))))
      simp only [PySem.F.cmp_object.ne.bind]
      refine wpAny_bind (wpAny_askSetting (wpAny_ite ?_))
      have fin : wpAny (model X.prog X.w) X.A (call (.builtin "object.__ne__") ([.ref b] ++ [.ref a]) >>= fun v => pure (some v)) (fun r s' => r = some (.bool true) ∧ EP X pins σ Q (.bool true) s') X.xe s :=
        wpAny_bind (wpAny_mono cl (fun r s' z => by
          obtain ⟨rv, H', I', rr, e0, q⟩ := z
          subst e0
          cases rr
          exact wpAny_pure ⟨rfl, .bl true, H', I', rfl, q⟩) fun _ _ e => e)
      split
      · exact wpAny_bind (wpAny_pure (wpAny_pure fin))
      · exact wpAny_tryCatch (wpAny_bind (wpAny_pure (wpAny_pure fin)))
    refine wpAny_bind (wpAny_mono bnd (fun r s' z => ?_) fun _ _ e => e)
    obtain ⟨rfl, z⟩ := z
    exact wpAny_pure ⟨rfl, z⟩
  have nos : NotSame s a (.ref b) := fun prog w A E R hr => wpAny_isSame_ref_other ne ob ob2 (by simp [PySem.W.instObj]) hr
  simp only [richCompare, cmpInfo_NotEq, oneThing_ref]
  refine wpAny_holding (wpAny_bind (wpAny_cRoomFor (by omega) ?_))
  refine wpAny_bind (J.type.here (wpAny_bind (J2.type.here ?_)))
  rw [if_pos (by simp [hne])]
  refine wpAny_bind ((PySem.W.looks_subIn I.kIn o.sw).here ?_)
  simp only [Bool.false_eq_true, if_false, Bool.not_false, if_true]
  refine wpAny_bind (m := tryCompare (.ref a) _ (.ref b)) (wpAny_mono (od_tryN (by omega) nos I.kIn J o.id.hm o.id.eq o.id.ne) (fun r s1 z => ?_) fun _ _ e => e)
  obtain ⟨rfl, rfl⟩ := z
  refine wpAny_bind (m := tryCompare (.ref b) _ (.ref a)) (wpAny_mono two (fun r s2 z => ?_) fun _ _ e => e)
  obtain ⟨rfl, z⟩ := z
  exact wpAny_pure z
end
end Dn
set_option Elab.async false
set_option linter.all false
set_option maxRecDepth 100000
set_option maxHeartbeats 2000000
namespace Dn
open PySem PySem.Spec PyProof.Rows L2
end Dn
set_option Elab.async false
set_option linter.all false
set_option maxRecDepth 100000
set_option maxHeartbeats 2000000
namespace Dn
open PySem PySem.Spec PyProof.Rows L2
end Dn
set_option Elab.async false
set_option linter.all false
set_option maxRecDepth 100000
set_option maxHeartbeats 2000000
namespace Dn
open PySem PySem.Spec PyProof.Rows L2
end Dn
set_option Elab.async false
set_option linter.all false
set_option maxRecDepth 100000
set_option maxHeartbeats 2000000
namespace Dn
open PySem PySem.Spec PyProof.Rows L2
end Dn
set_option Elab.async false
set_option linter.all false
set_option maxRecDepth 100000
set_option maxHeartbeats 2000000
namespace Dn
open PySem PySem.Spec PyProof.Rows L2
end Dn
set_option Elab.async false
set_option linter.all false
set_option maxRecDepth 100000
set_option maxHeartbeats 2000000
namespace Dn
open PySem PySem.Spec PyProof.Rows L2
variable [CTab]
def noX (F : SM U) : SM U := bindXS F (fun _ _ => pureS none) fun x => pureS (some x)
theorem es_nox {M : Addr → Prop} {ps : List Addr} {σ : L2.St} {B : Hp} {tx : XK → TE} {F : SM U} (h : EvXS M ps σ B tx F) : EvS M ps σ B (tx fun _ _ _ => False) (noX F) := fun us w us' e B1 H1 g ww Q q => by
  have e : bindS F (fun x => onR x (fun _ _ => pureS none) fun x => pureS (some x)) us = some (w, us') := e
  obtain ⟨x, us1, ex, e⟩ := bindS_some e
  refine h _ _ _ ex B1 H1 g ww Q _ (fun v B2 H2 g2 r2 w2 => ?_) fun C fs ec d B2 H2 g2 w2 rs => ?_
  · rw [onR_val r2] at e
    obtain ⟨ee, rfl⟩ := pureS_some e
    cases ee
    exact q v B2 H2 g2 r2 w2
  · subst ec
    obtain ⟨ee, _⟩ := pureS_some (show pureS none us1 = some (w, us') from e)
    cases ee
theorem passF {X : Cx} : Passes (L2.CX X.prog X.w) X fun _ _ _ => False := fun _ _ _ _ _ _ _ ⟨_, _, _, _, _, _, _, _, _, _, _, _, hE⟩ => hE.elim
end Dn
set_option Elab.async false
set_option linter.all false
set_option maxRecDepth 100000
set_option maxHeartbeats 2000000
namespace Dn
open PySem PySem.Spec PyProof.Rows L2
variable [CTab]
def spMkX (c : Nat) (m : U → Option U) : Sp := fun vs H Q E => ∃ B x dx w u z, Ok B H ∧ vs = [.ref x, w] ∧ MkO c B H x dx [] [] ∧ Rp B u w ∧ m u = some z ∧
  (∀ fs, z = .obj c fs → ∀ B2 H2 es, Gs (fun a => a = x) B H B2 H2 → MkO c B2 H2 x dx fs es → Q .non H2) ∧ OutE E z B H
/-- what a making gives: an instance of the class, or an exception -/
def mkZ (c : Nat) : U → Option U
  | .obj d fs => if d = c then some (.obj d fs) else none
  | .rsd C fs => some (.rsd C fs)
  | _ => none
def mkX (c : Nat) (m : U → Option U) : List U → Option U
  | [u] => (m u).bind (mkZ c)
  | _ => none
theorem mkZ_some {c : Nat} {y z : U} (e : mkZ c y = some z) : y = z ∧ ((∃ fs, z = .obj c fs) ∨ ∃ C fs, z = .rsd C fs) := by
  unfold mkZ at e
  split at e
  · split at e
    · rename_i hd
      subst hd
      cases e
      exact ⟨rfl, .inl ⟨_, rfl⟩⟩
    · cases e
  · cases e
    exact ⟨rfl, .inr ⟨_, _, rfl⟩⟩
  · cases e
theorem mkX_one {c : Nat} {m : U → Option U} : ∀ xs z, mkX c m xs = some z → ∃ x, xs = [x] ∧ m x = some z ∧ ((∃ fs, z = .obj c fs) ∨ ∃ C fs, z = .rsd C fs)
  | [x], z, e => by
    obtain ⟨y, ey, e⟩ := bind_some (show (m x).bind (mkZ c) = some z from e)
    obtain ⟨e1, e2⟩ := mkZ_some e
    subst e1
    exact ⟨x, rfl, ey, e2⟩
  | [], _, e => by cases e
  | _ :: _ :: _, _, e => by cases e
section
variable {σ : L2.St} {B H : Hp} {tl : TA} {ol : Option (List U)} {c : Nat} {m : U → Option U}
theorem make_goX {B2 H2 : Hp} {u z : U} {w : V} {Q : VK} {E : XK} (s2 : Ok B2 H2) (r : Rp B2 u w) (em : m u = some z) (ez : (∃ fs, z = .obj c fs) ∨ ∃ C fs, z = .rsd C fs) (q : ∀ v B3 H3, Go B2 H2 B3 H3 → Rp B3 z v → Q v H3) (oe : OutE E z B2 H2) (x dx : Addr) (hx : H2 x = none) (hd : H2 dx = none) (hne : dx ≠ x) :
    spMkX c m [.ref x, w] (upd (upd H2 dx (.own x)) x (.ins (CTab.ct c) dx [])) (fun v H3 => v = .non ∧ Q (.ref x) H3) E := by
  have bx : B2 x = none := s2.free hx
  have bd : B2 dx = none := s2.free hd
  have hx1 : upd H2 dx (.own x) x = none := by rw [upd_ne hne.symm]; exact hx
  have okN : Ok B2 (upd (upd H2 dx (.own x)) x (.ins (CTab.ct c) dx [])) := (s2.own (o := .own x) hd).own hx1
  have gN : Go B2 H2 B2 (upd (upd H2 dx (.own x)) x (.ins (CTab.ct c) dx [])) := (Go.own (o := .own x) s2 hd).trans (Go.own (s2.own (o := .own x) hd) hx1)
  refine ⟨B2, x, dx, w, u, z, okN, rfl, ⟨upd_same, .nil, by rw [upd_ne hne, upd_same], hne.symm, bx, bd⟩, r, em, fun fs hz B3 H3 es g3 M => ⟨rfl, ?_⟩, fun C fs hz d B3 H3 g3 rs => oe C fs hz d B3 H3 (gN.trans g3) rs⟩
  have g4 : Go B2 H2 (upd (upd B3 dx (.own x)) x (.ins (CTab.ct c) dx es)) H3 := by
    refine ⟨fun a o e n => ?_, fun a e => ?_, fun a o e => ?_, ?_, fun a o e => ?_⟩
    · exact g3.h a o (by rw [upd_ne (ne_of_none e hx), upd_ne (ne_of_none e hd)]; exact e) (ne_of_none e hx) n
    · exact (upd_none (upd_none (g3.n a e)).1).1
    · rw [upd_ne (ne_of_none e bx), upd_ne (ne_of_none e bd)]; exact g3.b a o e
    · exact (g3.bh.keep (o := .own x) M.bd M.hd).keep (by rw [upd_ne hne.symm]; exact M.bx) M.hx
    · by_cases h1 : a = x
      · subst h1; exact .inr hx
      · rw [upd_ne h1] at e
        by_cases h2 : a = dx
        · subst h2; exact .inr hd
        · rw [upd_ne h2] at e
          rcases g3.fr a o e with z | z | z
          · exact .inl z
          · rw [upd_ne h1, upd_ne h2] at z; exact .inr z
          · exact absurd z h1
  refine q _ _ _ g4 (hz.symm ▸ .obj upd_same (by rw [upd_ne hne, upd_same]) (M.rf.kp (Kp.of fun a o e => ?_)))
  rw [upd_ne (ne_of_none e M.bx), upd_ne (ne_of_none e M.bd)]; exact e
theorem ex_makeX (h : EvA tl σ B H ol) : EvX (fun E => tMake (CTab.ct c) (spMkX c m) [] E tl) σ B H (callO (mkX c m) ol) := fun z e B1 H1 g Q E q oe => by
  obtain ⟨xs, ex, e⟩ := bind_some e
  obtain ⟨u, rfl, em, ez⟩ := mkX_one _ _ e
  refine h _ ex B1 H1 g _ fun vs B2 H2 g2 r => ?_
  cases r with
  | cons r t =>
    cases t
    intro x dx hx hd hne
    exact make_goX g2.bh r em ez (fun v B3 H3 g3 r3 => q v B3 H3 (g2.trans g3) r3) (oe.go g2) x dx hx hd hne
end
end Dn
set_option Elab.async false
set_option linter.all false
set_option maxRecDepth 100000
set_option maxHeartbeats 2000000
namespace Dn
open PySem PySem.Spec PyProof.Rows L2
end Dn
set_option Elab.async false
set_option linter.all false
set_option maxRecDepth 100000
set_option maxHeartbeats 2000000
namespace Dn
open PySem PySem.Spec PyProof.Rows L2 PySem.Calls PySem.W
end Dn
set_option Elab.async false
set_option linter.all false
set_option maxRecDepth 100000
set_option maxHeartbeats 2000000
namespace Dn
open PySem PySem.Spec PyProof.Rows L2 PySem.Calls PySem.W PySem.SeqAt
end Dn
set_option Elab.async false
set_option linter.all false
set_option maxRecDepth 100000
set_option maxHeartbeats 2000000
namespace Dn
open PySem PySem.Spec PyProof.Rows L2
end Dn
set_option Elab.async false
set_option linter.all false
set_option maxRecDepth 100000
set_option maxHeartbeats 2000000
namespace Dn
open PySem PySem.Spec PyProof.Rows L2
end Dn
set_option Elab.async false
set_option linter.all false
set_option maxRecDepth 100000
set_option maxHeartbeats 2000000
namespace Dn
open PySem PySem.Spec PyProof.Rows L2
variable [CTab]
def rOddA (C CW : Addr) (sp : Sp) (E : XK) (neg : Bool) : R2 := fun x y H Q => rOdd C neg x y H Q ∨ rOddW C CW sp E neg x y H Q
/-- an own == asked of an instance of another class -/
def spOdd (C : Addr) : Sp := fun vs H Q _ => ∃ b a dx fs, vs = [.ref b, .ref a] ∧ H a = some (.ins C dx fs) ∧ Q (.bl false) H
/-- the loop over such things: nothing is found -/
def oddS (C CW : Nat) (j : Nat) (F : SM U) : SM U := bindS F fun x us => match x, us[j]? with
  | .obj D _, some u => if D = CW ∧ u.isC C = true then some (.non, us) else none
  | _, _ => none
def oddL (i : Nat) (tp : TE) : TE := tLst (tCons (tC .non) (tCons (tC (.int 0)) (tCons (tC (.str "a")) (tCons tp (tCons (tLst (tCons (tVar i) tNil)) (tCons tDNewK tNil))))))
section
variable {X : Cx} {K : PySem.W.Frag} {C CW : Addr} {CX : CXT} {k : Nat} {f : Addr} {fd : FuncData} {ps : List Str} {sp : Sp} {E : XK}
theorem pi_listK {tg l : Expr} {tl : TE} (hK : X.K = K) (hl : PE X l tl) : PI X tg l (iList K tl) := hK ▸ pi_list hl
theorem op_oddAEq (hK : X.K = K) (o : OddC K C CW) (F : FnOk X.prog X.w X.K X.mg X.base CX k f fd ps sp) (hr : Room (k + 3) X.A) (hs : PySem.W.findIn K (.ref CW) "__eq__" = some (some (.ref f))) (hf : PySem.W.isFn K (.ref f) = true) (hb : Binds K fd ps []) (hx : Passes CX X E) :
    OpR X (compareOp .Eq) (rOddA C CW sp E false) := (op_oddEq hK o hr.units).or (op_oddWEq hK o F (hr.mono (by omega)) hs hf hb hx)
theorem op_oddANe (hK : X.K = K) (o : OddC K C CW) (F : FnOk X.prog X.w X.K X.mg X.base CX k f fd ps sp) (hr : Room (k + 3) X.A) (hs : PySem.W.findIn K (.ref CW) "__eq__" = some (some (.ref f))) (hf : PySem.W.isFn K (.ref f) = true) (hb : Binds K fd ps []) (hx : Passes CX X E) :
    OpR X (compareOp .NotEq) (rOddA C CW sp E true) := (op_oddNe hK o hr.units).or (op_oddWNe hK o F hr hs hf hb hx)
end
section
variable {K : PySem.W.Frag} {C CW : Addr}
theorem odd_body {te : TE} {D : Ends} {n0 : List (Option V)} {H : Hp} {b : V} {a dx : Addr} {fs : List (Str × V)} {tz : TS} (o : OddC K C CW) (ha : H a = some (.ins C dx fs)) (q : D.rt (.bl false) H) :
    tSeq (tRet (tAndV (tCB (rIsi K) (tCons (tVar 1) (tCons (tC (.ref CW)) tNil))) te)) tz D (some b :: some (.ref a) :: n0) H := by
  have ty : TyR K H C (.ref a) (.ref C) := .own (.base (.ins ha o.oi.cls o.oi.ha o.oi.hn o.oi.htk o.oi.hm))
  exact ⟨_, rfl, _, _, .ref C, .ref CW, false, rfl, .own _, ty.tyx, o.kt, _, rfl, q⟩
end
section
variable {β : Bs} {B H : Hp} {ps : List Addr} {us : List U} {σ : L2.St} {K : PySem.W.Frag} {tp : TE} {F : SM U} {α : Type} {R : α × List U} {i o j C CW : Nat} {p : Addr} {tz t1 : TS} {D : Ends} {E : XK}
theorem q_odds {f : SM α} (W : Wh β B H ps us) (hp : ps[j]? = some p) (hv : σ[i]? = some (some (.ref p))) (hio : i ≠ o) (ho : o < σ.length) (h : EvS β.M ps σ B tp F) (e : bindS (oddS C CW j F) (fun _ => f) us = some R)
    (k : ∀ ov B1 H1 us1, Wh β B1 H1 ps us1 → Same B B1 → f us1 = some R → tz D (σ.set o ov) H1) :
    tSeq (tFor (iList K (oddL i tp)) (gName o) (tSeq (tIfS (tOr (tTest (tOp (rOddA (CTab.ct C) (CTab.ct CW) (spOdd (CTab.ct C)) E false) (tVar i) (tVar o))) (tNot (tTest (tOp (rOddA (CTab.ct C) (CTab.ct CW) (spOdd (CTab.ct C)) E true) (tVar i) (tVar o))))) t1 tNext) tNext)) tz D σ H := by
  obtain ⟨z0, us1, ez, e0⟩ := bindS_some e
  clear e
  obtain ⟨x, us2, ex, e1⟩ := bindS_some ez
  split at e1
  · rename_i D' fs u eu
    split at e1
    · rename_i hc
      obtain ⟨rfl, hc⟩ := hc
      cases e1
      refine h _ _ _ ex B H W.at W.w _ fun v B2 H2 g2 r2 w2 => ?_
      cases r2 with
      | @obj a dx D2 fs2 es h1 h2 r =>
        refine ⟨_, hv, (by decide : 1 ≤ sizeLine), fun p1 hp1 p2 hp2 => ⟨(by decide : 6 ≤ sizeLine), fun p3 hp3 => ⟨p3, rfl, ⟨_, SqL.of upd_same⟩, ?_⟩⟩⟩
        have gn1 := Go.new (o := .lst [.ref p]) g2.bh hp1
        have gn2 := Go.new (o := .dK []) gn1.bh hp2
        have gn3 := Go.new (o := .lst [.non, .int 0, .str "a", .ref a, .ref p1, .ref p2]) gn2.bh hp3
        have W5 := (((W.step g2 w2).go gn1).go gn2).go gn3
        obtain ⟨hb, fs', dx', es', rfl, ea, _⟩ := W5.w.isC hp eu hc
        have ew := ((gn1.trans gn2).trans gn3).bh _ _ (((gn1.trans gn2).trans gn3).b _ _ h1)
        have el : (upd (upd (upd H2 p1 (.lst [.ref p])) p2 (.dK [])) p3 (.lst [.non, .int 0, .str "a", .ref a, .ref p1, .ref p2])) p1 = some (.lst [.ref p]) := by
          rw [upd_ne (ne_of_none (by rw [upd_ne (ne_of_none upd_same hp2)]; exact upd_same) hp3), upd_ne (ne_of_none upd_same hp2)]; exact upd_same
        have ed : (upd (upd (upd H2 p1 (.lst [.ref p])) p2 (.dK [])) p3 (.lst [.non, .int 0, .str "a", .ref a, .ref p1, .ref p2])) p2 = some (.dK []) := by
          rw [upd_ne (ne_of_none upd_same hp3)]; exact upd_same
        refine for_list (xs := [.non, .int 0, .str "a", .ref a, .ref p1, .ref p2]) (fun _ σ' H' => (∃ ov, σ' = σ.set o ov) ∧ H' = upd (upd (upd H2 p1 (.lst [.ref p])) p2 (.dK [])) p3 (.lst [.non, .int 0, .str "a", .ref a, .ref p1, .ref p2])) ⟨⟨σ[o], by simp⟩, rfl⟩ ?_ ?_ ?_
        · rintro n σ' H' _ ⟨_, rfl⟩
          exact SqL.of upd_same
        · rintro n y σ' H' hy ⟨⟨ov, rfl⟩, rfl⟩
          show tSeq _ _ _ ((σ.set o ov).set o (some y)) _
          rw [List.set_set]
          have hi' : (σ.set o (some y))[i]? = some (some (.ref p)) := by rw [List.getElem?_set_ne (Ne.symm hio)]; exact hv
          have ho' : (σ.set o (some y))[o]? = some (some y) := by rw [List.getElem?_set_self ho]
          have key : ∀ neg (Q : VK), Q (.bl neg) (upd (upd (upd H2 p1 (.lst [.ref p])) p2 (.dK [])) p3 (.lst [.non, .int 0, .str "a", .ref a, .ref p1, .ref p2])) → rOddA (CTab.ct C) (CTab.ct D') (spOdd (CTab.ct C)) E neg (.ref p) y (upd (upd (upd H2 p1 (.lst [.ref p])) p2 (.dK [])) p3 (.lst [.non, .int 0, .str "a", .ref a, .ref p1, .ref p2])) Q := by
            intro neg Q q
            have hm := List.mem_of_getElem? hy
            simp only [List.mem_cons, List.not_mem_nil, or_false] at hm
            rcases hm with rfl | rfl | rfl | rfl | rfl | rfl
            · exact .inl ⟨p, _, _, rfl, ea, .inl rfl, q⟩
            · exact .inl ⟨p, _, _, rfl, ea, .inr (.inl ⟨_, rfl⟩), q⟩
            · exact .inl ⟨p, _, _, rfl, ea, .inr (.inr (.inl ⟨_, rfl⟩)), q⟩
            · exact .inr ⟨p, _, _, a, _, _, rfl, rfl, ea, ew, a, p, _, _, rfl, ea, rfl, q⟩
            · exact .inl ⟨p, _, _, rfl, ea, .inr (.inr (.inr (.inl ⟨_, _, rfl, el⟩))), q⟩
            · exact .inl ⟨p, _, _, rfl, ea, .inr (.inr (.inr (.inr ⟨_, _, rfl, ed⟩))), q⟩
          refine ⟨_, hi', _, ho', key false _ ⟨false, rfl, ?_⟩⟩
          show (if false = true then (_ : Prop) else _)
          rw [if_neg (by decide)]
          refine ⟨_, hi', _, ho', key true _ ⟨true, rfl, ?_⟩⟩
          exact ⟨⟨_, rfl⟩, rfl⟩
        · rintro σ' H' ⟨⟨ov, rfl⟩, rfl⟩
          exact k ov _ _ us1 W5 (((g2.b.trans gn1.b).trans gn2.b).trans gn3.b) e0
    · cases e1
  · cases e1
end
theorem init_raise {B H : Hp} {t2 : TT} {tr rest : TS} {σ : L2.St} {D : Ends} (s : Ok B H) (h2 : EvT t2 σ B H (some true)) (k : ∀ B2 H2 tz, Go B H B2 H2 → tr { D with nx := tz } σ H2) : tSeq (tIfS t2 tr tNext) rest D σ H :=
  h2 true rfl B H (At.refl s) _ fun B2 H2 g2 => k B2 H2 _ g2
theorem lk_callI {j k C : Nat} {m : U → List U → Option (U × U)} {xs : List U} (h : k ≠ j) : LkA j (callI k C m xs) := fun us y us' e xs ex => by
  obtain ⟨u, _, e⟩ := bind_some e
  split at e
  · obtain ⟨z, _, e⟩ := map_some e
    cases e; exact lk_set h ex
  · cases e
theorem lk_methI {j k C : Nat} {nm : Str} {m : U → List U → Option (U × U)} {F : SM (List U)} (h : k ≠ j) (hF : LkA j F) : LkA j (methI k C nm m F) := fun us y us' e xs ex => by
  obtain ⟨u, _, e⟩ := bind_some e
  split at e
  · exact lk_bind hF (fun _ => lk_callI h) us y us' e xs ex
  · cases e
end Dn
set_option Elab.async false
set_option linter.all false
set_option maxRecDepth 100000
set_option maxHeartbeats 2000000
namespace Dn
open PySem PySem.Spec PyProof.Rows L2 PySem.Calls PySem.W
end Dn
set_option Elab.async false
set_option linter.all false
set_option maxRecDepth 100000
set_option maxHeartbeats 2000000
namespace Dn
open PySem PySem.Spec PyProof.Rows L2
end Dn
set_option Elab.async false
set_option linter.all false
set_option maxRecDepth 100000
set_option maxHeartbeats 2000000
namespace Dn
open PySem PySem.Spec PyProof.Rows L2
end Dn
set_option Elab.async false
set_option linter.all false
set_option maxRecDepth 100000
set_option maxHeartbeats 2000000
namespace Dn
open PySem PySem.Spec PyProof.Rows L2
end Dn
set_option Elab.async false
set_option linter.all false
set_option maxRecDepth 100000
set_option maxHeartbeats 2000000
namespace Dn
open PySem PySem.Spec PyProof.Rows L2
end Dn
set_option Elab.async false
set_option linter.all false
set_option maxRecDepth 100000
set_option maxHeartbeats 2000000
namespace Dn
open PySem L2
end Dn
set_option Elab.async false
set_option linter.all false
set_option maxRecDepth 100000
set_option maxHeartbeats 2000000
namespace Dn
open PySem PySem.Spec PyProof.Rows L2
variable [CTab]
/-- a function that is known since B0 -/
structure FnV (B0 B : Hp) : Prop where
  s : Same B0 B
theorem FnV.sm {B0 B B2 : Hp} (r : FnV B0 B) (s : Same B B2) : FnV B0 B2 := ⟨r.s.trans s⟩
theorem FnV.up {B0 B H B2 H2 : Hp} (r : FnV B0 B) (g : Go B H B2 H2) : FnV B0 B2 := ⟨r.s.trans g.b⟩
theorem FnV.upA {B0 B B2 H2 : Hp} (r : FnV B0 B) (g : At B B2 H2) : FnV B0 B2 := ⟨r.s.trans g.b⟩
end Dn
set_option Elab.async false
set_option linter.all false
set_option maxRecDepth 100000
set_option maxHeartbeats 2000000
namespace Dn
open PySem PySem.Spec PyProof.Rows L2 PySem.Calls PySem.W
end Dn
set_option Elab.async false
set_option linter.all false
set_option maxRecDepth 100000
set_option maxHeartbeats 2000000
namespace Dn
open PySem PySem.Spec PyProof.Rows L2 PySem.Calls PySem.W
variable [CTab]
def dropU (kvs : List (Key × U)) (k : Key) : List (Key × U) := kvs.filter fun kv => decide (kv.1 ≠ k)
theorem Rpk.drop {B : Hp} (k : Key) : ∀ {kvs : List (Key × U)} {es : List (Key × V)}, Rpk B kvs es → Rpk B (dropU kvs k) (dropK es k)
  | _, _, .nil => .nil
  | _, _, @Rpk.cons _ _ k' x v xs vs r t => by
    unfold dropU dropK
    rw [List.filter_cons, List.filter_cons]
    by_cases h : k' ≠ k
    · rw [if_pos (by simpa using h), if_pos (by simpa using h)]
      exact .cons r (Rpk.drop k t)
    · rw [if_neg (by simpa using h), if_neg (by simpa using h)]
      exact Rpk.drop k t
end Dn
set_option Elab.async false
set_option linter.all false
set_option maxRecDepth 100000
set_option maxHeartbeats 2000000
namespace Dn
open PySem PySem.Spec PyProof.Rows L2 PySem.Calls PySem.W
end Dn
set_option Elab.async false
set_option linter.all false
set_option maxRecDepth 100000
set_option maxHeartbeats 2000000
namespace Dn
open PySem PySem.Spec PyProof.Rows L2 PySem.Calls PySem.W
end Dn
set_option Elab.async false
set_option linter.all false
set_option maxRecDepth 100000
set_option maxHeartbeats 2000000
namespace Dn
open PySem L2
end Dn
set_option Elab.async false
set_option linter.all false
set_option maxRecDepth 100000
set_option maxHeartbeats 2000000
namespace Dn
open PySem PySem.Spec PyProof.Rows L2
variable [CTab]
theorem pe_extK {X : Cx} {K : PySem.W.Frag} {o e : Expr} {es : List Expr} {apos cpos : Pos} {to : TE} {t : TA} (hK : X.K = K) (ho : PE X o to) (ha : PA X (e :: es) t) (hbase : attributeBase o "extend" X.env (eval o X.env) = eval o X.env := by rfl)
    (hfew : ((backTo cpos (starEach (e :: es) X.env)).all (fun x => !x.1) && (backToKw cpos (keywordEach [] X.env)).all (fun x => x.1.isSome)
      && decide ((e :: es).length + ([] : List Keyword).length + (if ([] : List Keyword).isEmpty then 0 else 1) < 30)) = true := by rfl)
    (hline : (apos.endLine == cpos.line) = true := by rfl) (hs : starEach (e :: es) X.env = (false, eval e X.env) :: starEach es X.env := by rfl) (hplain : (backTo cpos (starEach es X.env)).any (·.1) = false := by rfl) :
    PE X (.Call (.Attribute o "extend" apos) (e :: es) [] cpos) (tBM K "list" rExtend to t) := hK ▸ pe_bm PySem.F.plainAttrs_list PySem.F.slot_list_extend PySem.F.type_list_extend mt_extend ho ha hbase hfew hline hs hplain
def extS (j : Nat) (y : U) : SM U := fun us => match us[j]?, y with
  | some (.frl xs), .lst ys => if xs.length + ys.length ≤ lim then some (.non, us.set j (.frl (xs ++ ys))) else none
  | _, _ => none
section
variable {M : Addr → Prop} {ps : List Addr} {σ : L2.St} {B : Hp} {te : TE} {F : SM U} {K : PySem.W.Frag} {j : Nat} {p : Addr}
theorem es_ext {i : Nat} (hp : ps[j]? = some p) (hv : σ[i]? = some (some (.ref p))) (h : EvS M ps σ B te F) (hl : ∀ us y us', F us = some (y, us') → ∀ xs, us'[j]? = some (.frl xs) → ∃ ys, us[j]? = some (.frl ys)) :
    EvS M ps σ B (tBM K "list" rExtend (tVar i) (tCons te tNil)) (bindS F fun y => extS j y) := fun us z us' e B1 H1 g w Q q => by
  obtain ⟨y, us1, ey, e⟩ := bindS_some e
  unfold extS at e
  split at e
  · rename_i xs ys eu
    split at e
    · rename_i hlim
      cases e
      obtain ⟨zs, ezs⟩ := hl _ _ _ ey xs eu
      obtain ⟨_, vs0, e0, _⟩ := (w.at_ j p _ hp ezs).own rfl
      refine ⟨_, hv, .inl ⟨rfl, vs0, SqL.of e0⟩, h _ _ _ ey B1 H1 g w _ fun v B2 H2 g2 r2 w2 => ?_⟩
      have wp := w2.at_ j p _ hp eu
      obtain ⟨hb, vs, e1, r⟩ := wp.own rfl
      cases r2 with
      | @lst a _ vs2 h2 r2 =>
        exact ⟨p, a, vs, vs2, rfl, rfl, e1, g2.bh _ _ h2, Nat.le_of_lt (lim_lt (by rw [r.length, r2.length]; exact hlim)), q _ B2 _ (g2.trans (gs_upd hp g2.bh hb e1)) .non (own_upd hp w2 g2.bh wp.m hb ⟨_, upd_same, r.append r2⟩)⟩
    · cases e
  · cases e
end
end Dn
set_option Elab.async false
set_option linter.all false
set_option maxRecDepth 100000
set_option maxHeartbeats 2000000
namespace Dn
open PySem PySem.Spec PyProof.Rows L2
end Dn
set_option Elab.async false
set_option linter.all false
set_option maxRecDepth 100000
set_option maxHeartbeats 2000000
namespace Dn
open PySem L2
end Dn
set_option Elab.async false
set_option linter.all false
set_option maxRecDepth 100000
set_option maxHeartbeats 4000000
namespace Dn
open PySem PySem.Spec PyProof.Rows L2
open AutoSeq1 (wpAny_loadPart')
def hasT (ts : List Str) (i : Nat) (z : Str) : Bool := (ts.take i).any (· == z)
def dnT (ts : List Str) : Nat → Nat
  | 0 => 0
  | i + 1 => if hasT ts i (ts.getD i Str.empty) = true then dnT ts i else dnT ts i + 1
theorem dnT_le (ts : List Str) : ∀ i, dnT ts i ≤ i
  | 0 => Nat.le_refl _
  | i + 1 => by
    have := dnT_le ts i
    unfold dnT
    split <;> omega
theorem hasT_succ {ts : List Str} {i : Nat} (h : i < ts.length) (z : Str) : (hasT ts i z || decide (z = ts.getD i Str.empty)) = hasT ts (i + 1) z := by
  have e : ts.take (i + 1) = ts.take i ++ [ts.getD i Str.empty] := by
    rw [List.take_add_one]
    congr 1
    rw [List.getElem?_eq_getElem h]
    simp [List.getD, h]
  show (hasT ts i z || _) = (ts.take (i + 1)).any (· == z)
  rw [e, List.any_append]
  show _ = (hasT ts i z || [ts.getD i Str.empty].any (· == z))
  congr 1
  rw [Bool.eq_iff_iff]
  simp only [decide_eq_true_eq, List.any_cons, List.any_nil, Bool.or_false, beq_iff_eq]
  exact ⟨Eq.symm, Eq.symm⟩
section
variable {pg : Program} {wd : World} {Ar : Around} {RR : Result → Shared → Prop} {it : Addr} {f1 f2 : List Addr} {Gn : Array GenState → Array GenState → Prop} {m : Nat} {PP : Nat → Value → Prop} {SS' : Nat → Shared → Prop}
theorem setOf_moved {a : Addr} {S : Str → Bool} {n : Nat} {s s' : Shared} {L : List Addr} (h : s.heap.SetOf (PySem.strKind pg wd) a S n) (hm : Moved L Gn s s') (ha : a ∉ L) : s'.heap.SetOf (PySem.strKind pg wd) a S n := by
  obtain ⟨ob, es, ep, tb, h1, h2⟩ := h
  exact ⟨ob, es, ep, tb, hm.heap a _ ha h1, h2⟩
theorem set_turns (W : WalksS pg wd Ar.in1 it f1 f2 Gn m PP SS') (a : Addr) (haf : a ∉ f1) (ts : List Str) (hm : ts.length = m) (hb : m < 4000) (hv : ∀ i v, PP i v → ∃ t, v = .str (ts.getD i Str.empty) t) :
    ∀ (k i : Nat) (s : Shared), m = i + k → SS' i s → s.heap.SetOf (PySem.strKind pg wd) a (hasT ts i) (dnT ts i) →
      (∀ s', Moved (a :: f2) Gn s s' → s'.heap.SetOf (PySem.strKind pg wd) a (hasT ts m) (dnT ts m) → RR (.ok (.ret .none)) s') →
      codeAny (model pg wd) Ar (.builtin "set.update.loop" ⟨[.ref a, .ref it], []⟩) RR s := by
  have ha2 : a ∉ f2 := fun z => haf (W.sub _ z)
  have sub : ∀ b ∈ f2, b ∈ a :: f2 := fun b z => List.mem_cons_of_mem _ z
  intro k
  induction k with
  | zero =>
    intro i s e st hS hR
    have e : m = i := e
    subst e
    refine codeAny_builtin PyProof.Rows.F.entry_set_update_loop ?_
    rw [Around.under_plainId PyProof.Rows.F.plain_set_update_loop _]
    change wpAny _ Ar.in1 (pyNext (.ref it) >>= _) _ _ s
    refine wpAny_bind (W.done s _ _ st fun s' mv => ?_)
    change wpAny _ Ar.in1 (ret Value.none) _ _ s'
    exact wpAny_pure (hR s' (mv.mono sub) (setOf_moved hS mv ha2))
  | succ k ih =>
    intro i s e st hS hR
    have hi : i < m := by omega
    refine codeAny_builtin PyProof.Rows.F.entry_set_update_loop ?_
    rw [Around.under_plainId PyProof.Rows.F.plain_set_update_loop _]
    change wpAny _ Ar.in1 (pyNext (.ref it) >>= _) _ _ s
    refine wpAny_bind (W.item i s _ _ hi st fun v s1 hp st1 mv => ?_)
    obtain ⟨tk, rfl⟩ := hv i v hp
    have hS1 := setOf_moved hS mv ha2
    change wpAny _ Ar.in1 (holding [Value.str (ts.getD i Str.empty) tk] (setAdd a (.str (ts.getD i Str.empty) tk)) >>= _) _ _ s1
    refine wpAny_bind (wpAny_holding ?_)
    unfold setAdd
    refine wpAny_holding (wpAny_bind ((PySem.strKind pg wd).pyHash (k := ts.getD i Str.empty) (strKind_is _ _ _ _) ?_))
    have hd := dnT_le ts i
    refine wpAny_setAddHashed_of (knd := PySem.strKind pg wd) (s := { s1 with toks := s1.toks + 1 }) (strKind_is _ _ _ _) rfl hS1 (show dnT ts i + 1 < 4096 by omega) fun h2 sb hS2 => ?_
    have hS3 : h2.SetOf (PySem.strKind pg wd) a (hasT ts (i + 1)) (dnT ts (i + 1)) := SetOf_congr hS2 (fun z => hasT_succ (by omega) z) rfl
    refine wpAny_pure ⟨plainId_quiet PyProof.Rows.F.plain_set_update_loop _, ih (i + 1) _ (by omega) (W.frame _ s1 _ _ st1 (Nat.le_succ _) fun b hb o e => ?_) hS3 fun s3 mv3 hS4 => ?_⟩
    · rw [sb.2 b (fun z : b = a => haf (z ▸ hb))]; exact e
    · refine hR s3 (Moved.trans W.gtrans ((mv.mono sub).then_heap (Nat.le_succ _) fun b o hb e => ?_) mv3) hS4
      rw [sb.2 b (fun z : b = a => hb (z ▸ List.mem_cons_self))]; exact e
end
abbrev sob (b : Bool) : Obj := { cls := .type "set", dict := none, data := .set #[] 0 (.fresh 0 0 b) }
section
variable {pg : Program} {wd : World} {Ar : Around} {EE : Value → Shared → Prop} {s0 : Shared}
theorem set_of_list {p : Addr} {its : Array Value} {ts : List Str} {QQ : Value → Shared → Prop} (nh : Ar.handled = none) (pl : s0.heap.IsList p its) (sa : StrsAre its.toList ts) (hb : ts.length < 4000)
    (go : ∀ (h2 : Heap) (n2 : Nat), h2.SetOf (PySem.strKind pg wd) s0.heap.objs.size (hasT ts ts.length) (dnT ts ts.length) → (∀ b o, b < s0.heap.objs.size → s0.heap.get? b = some o → h2.get? b = some o) → QQ (.ref s0.heap.objs.size) { s0 with heap := h2, toks := n2 }) :
    wpAny (model pg wd) Ar (call (.type "set") [.ref p]) QQ EE s0 := by
  obtain ⟨cc, tt, mro⟩ := PySem.F.called_set.mro
  have f1 := PySem.F.called_set.made
  have f2 := PySem.F.called_set.sub
  have f3 := PySem.F.called_set.notType
  have f4 := PySem.F.called_set.canCreate
  have f5 := PySem.F.typeCall_set_1 (.ref p)
  refine wpAny_call (codeAny_of_tree ?_)
  change wpAny _ _ (callAny (.type "set") _) _ _ _
  refine wpAny_pure ⟨Code.quiet_builtin _ (by decide +kernel), codeAny_builtin PySem.F.entry_type_call ?_⟩
  rw [Around.under_plain (weight_type_call_type "set" [.ref p] []) rfl]
  repeat (any_goals (first | assumption | wp_step))
  refine codeAny_mono (code_set_new_1 (.ref p) (E := EE) (Q₁ := fun x y => ∃ b : Bool, x = .ref s0.heap.objs.size ∧ y = { s0 with heap := s0.heap.push (sob b) }) fun b => ⟨b, rfl, rfl⟩) fun r1 s1 h1 => ?_
  cases r1 with
  | error _ => exact h1
  | ok w1 =>
    cases w1 with
    | ret _ =>
      obtain ⟨bb, rfl, rfl⟩ := h1
      have g1 : (s0.heap.push (sob bb)).get? s0.heap.objs.size = some (sob bb) := Heap.get?_push_size _ rfl
      have g2 : Shared.TypeIs { s0 with heap := s0.heap.push (sob bb) } (.ref s0.heap.objs.size) "set" := ⟨_, g1, rfl⟩
      have g3 := PySem.F.called_set.init.lookup
      have g4 := PySem.F.called_set.init.bind (.ref s0.heap.objs.size)
      repeat (any_goals (first | assumption | wp_step))
      refine codeAny_mono (codeAny_call_builtin (R := wants (fun r2 s2 => r2 = .none ∧ ∃ h2 n2, s2 = { s0 with heap := h2, toks := n2 } ∧ h2.SetOf (PySem.strKind pg wd) s0.heap.objs.size (hasT ts ts.length) (dnT ts ts.length) ∧ (∀ b o, b < s0.heap.objs.size → s0.heap.get? b = some o → h2.get? b = some o)) EE)
        PySem.F.called_set.init.plain PySem.F.entry_set_init (check_set_init_1 g2 ?_)) fun r2 s2 h2 => ?_
      · have pl1 : (s0.heap.push (sob bb)).IsList p its := pl.push _
        obtain ⟨ob, hob, hcl, nn, hdt⟩ := pl
        obtain ⟨o1, o2, o3, o4⟩ := ob
        simp only at hcl hdt
        subst hcl; subst hdt
        have q0 : (s0.heap.push (sob bb)).get? p = some { cls := .type "list", dict := o2, data := .seq its nn, slots := o4 } := Heap.get?_push_of_some _ hob
        have q1 := PySem.F.sub_list_set
        have q2 := PySem.F.sub_list_frozenset
        have q3 : (Value.type "list" == Value.type "dict") = false := by decide
        unfold Builtin.«set.__init__» noKeywords Builtin.Frozenset.updateFrom
        generalize hgen : pyIter = gen
        wp_walk
        subst hgen
        refine wpAny_pyIter_list pl1 (wpAny_bind (wpAny_runValue ?_))
        have pS : p < s0.heap.objs.size := Heap.lt_size hob
        have sz : (s0.heap.push (sob bb)).objs.size = s0.heap.objs.size + 1 := Heap.size_push ..
        have nh3 : Ar.in1.in1.in1.handled = none := by simp [nh]
        have pI : p ≠ (s0.heap.push (sob bb)).objs.size := by rw [sz]; exact Nat.ne_of_lt (Nat.lt_succ_of_lt pS)
        have nf : s0.heap.objs.size ∉ [(s0.heap.push (sob bb)).objs.size, p] := by
          rw [sz]; simp only [List.mem_cons, List.not_mem_nil, or_false, not_or]; exact ⟨Nat.ne_of_lt (Nat.lt_succ_self _), Nat.ne_of_gt pS⟩
        have len : ts.length = its.size := by rw [← StrsAre.len_eq sa, Array.length_toList]
        refine set_turns ((Walks.list nh3 _ p pI its).toS) s0.heap.objs.size nf ts len (by omega) (fun i v hv => SS.strs_at sa i v (by rw [Array.getElem?_toList]; exact hv)) its.size 0 _ (by omega) ⟨⟨_, Heap.get?_push_size _ rfl, rfl, rfl⟩, pl1.push _⟩ ?_ ?_
        · exact SetOf_congr ((setObjOf_fresh (knd := PySem.strKind pg wd) bb).setOf (Heap.get?_push_of_some _ g1) (by decide)) (fun _ => rfl) rfl
        · intro s3 mv hS3
          obtain ⟨x1, x2, x3, x4, x5⟩ := s3
          obtain rfl : x2 = s0.gens := mv.gens
          obtain rfl : x3 = s0.drawn := mv.drawn
          obtain rfl : x5 = s0.os := mv.os
          rw [← len] at hS3
          refine wpAny_pure ?_
          change wpAny _ _ (ret Value.none) _ _ _
          refine wpAny_pure ⟨rfl, x1, x4, rfl, hS3, fun b o hlt e => ?_⟩
          refine mv.heap b o ?_ (Heap.get?_push_of_some _ (Heap.get?_push_of_some _ e))
          rw [sz]; simp only [List.mem_cons, List.not_mem_nil, or_false, not_or]; exact ⟨Nat.ne_of_lt hlt, Nat.ne_of_lt (Nat.lt_succ_of_lt hlt)⟩
      · cases r2 with
        | error _ => exact h2
        | ok w2 =>
          cases w2 with
          | ret _ =>
            obtain ⟨rfl, h3, n3, rfl, hS3, keep⟩ := h2
            repeat (any_goals (first | assumption | wp_step))
            exact go _ _ hS3 keep
          | _ => exact h2.elim
    | _ => exact h1.elim
theorem set_of_tuple {p : Addr} {its : Array Value} {ts : List Str} {QQ : Value → Shared → Prop} (nh : Ar.handled = none) (pl : s0.heap.IsTuple p its) (sa : StrsAre its.toList ts) (hb : ts.length < 4000)
    (go : ∀ (h2 : Heap) (n2 : Nat), h2.SetOf (PySem.strKind pg wd) s0.heap.objs.size (hasT ts ts.length) (dnT ts ts.length) → (∀ b o, b < s0.heap.objs.size → s0.heap.get? b = some o → h2.get? b = some o) → QQ (.ref s0.heap.objs.size) { s0 with heap := h2, toks := n2 }) :
    wpAny (model pg wd) Ar (call (.type "set") [.ref p]) QQ EE s0 := by
  obtain ⟨cc, tt, mro⟩ := PySem.F.called_set.mro
  have f1 := PySem.F.called_set.made
  have f2 := PySem.F.called_set.sub
  have f3 := PySem.F.called_set.notType
  have f4 := PySem.F.called_set.canCreate
  have f5 := PySem.F.typeCall_set_1 (.ref p)
  refine wpAny_call (codeAny_of_tree ?_)
  change wpAny _ _ (callAny (.type "set") _) _ _ _
  refine wpAny_pure ⟨Code.quiet_builtin _ (by decide +kernel), codeAny_builtin PySem.F.entry_type_call ?_⟩
  rw [Around.under_plain (weight_type_call_type "set" [.ref p] []) rfl]
  repeat (any_goals (first | assumption | wp_step))
  refine codeAny_mono (code_set_new_1 (.ref p) (E := EE) (Q₁ := fun x y => ∃ b : Bool, x = .ref s0.heap.objs.size ∧ y = { s0 with heap := s0.heap.push (sob b) }) fun b => ⟨b, rfl, rfl⟩) fun r1 s1 h1 => ?_
  cases r1 with
  | error _ => exact h1
  | ok w1 =>
    cases w1 with
    | ret _ =>
      obtain ⟨bb, rfl, rfl⟩ := h1
      have g1 : (s0.heap.push (sob bb)).get? s0.heap.objs.size = some (sob bb) := Heap.get?_push_size _ rfl
      have g2 : Shared.TypeIs { s0 with heap := s0.heap.push (sob bb) } (.ref s0.heap.objs.size) "set" := ⟨_, g1, rfl⟩
      have g3 := PySem.F.called_set.init.lookup
      have g4 := PySem.F.called_set.init.bind (.ref s0.heap.objs.size)
      repeat (any_goals (first | assumption | wp_step))
      refine codeAny_mono (codeAny_call_builtin (R := wants (fun r2 s2 => r2 = .none ∧ ∃ h2 n2, s2 = { s0 with heap := h2, toks := n2 } ∧ h2.SetOf (PySem.strKind pg wd) s0.heap.objs.size (hasT ts ts.length) (dnT ts ts.length) ∧ (∀ b o, b < s0.heap.objs.size → s0.heap.get? b = some o → h2.get? b = some o)) EE)
        PySem.F.called_set.init.plain PySem.F.entry_set_init (check_set_init_1 g2 ?_)) fun r2 s2 h2 => ?_
      · have pl1 : (s0.heap.push (sob bb)).IsTuple p its := pl.push _
        obtain ⟨ob, hob, hcl, nn, hdt⟩ := pl
        obtain ⟨o1, o2, o3, o4⟩ := ob
        simp only at hcl hdt
        subst hcl; subst hdt
        have q0 : (s0.heap.push (sob bb)).get? p = some { cls := .type "tuple", dict := o2, data := .seq its nn, slots := o4 } := Heap.get?_push_of_some _ hob
        have q1 := PySem.F.sub_tuple_set
        have q2 := PySem.F.sub_tuple_frozenset
        have q3 : (Value.type "tuple" == Value.type "dict") = false := by decide
        unfold Builtin.«set.__init__» noKeywords Builtin.Frozenset.updateFrom
        generalize hgen : pyIter = gen
        wp_walk
        subst hgen
        refine wpAny_pyIter_tuple pl1 (wpAny_bind (wpAny_runValue ?_))
        have pS : p < s0.heap.objs.size := Heap.lt_size hob
        have sz : (s0.heap.push (sob bb)).objs.size = s0.heap.objs.size + 1 := Heap.size_push ..
        have nh3 : Ar.in1.in1.in1.handled = none := by simp [nh]
        have pI : p ≠ (s0.heap.push (sob bb)).objs.size := by rw [sz]; exact Nat.ne_of_lt (Nat.lt_succ_of_lt pS)
        have nf : s0.heap.objs.size ∉ [(s0.heap.push (sob bb)).objs.size, p] := by
          rw [sz]; simp only [List.mem_cons, List.not_mem_nil, or_false, not_or]; exact ⟨Nat.ne_of_lt (Nat.lt_succ_self _), Nat.ne_of_gt pS⟩
        have len : ts.length = its.size := by rw [← StrsAre.len_eq sa, Array.length_toList]
        refine set_turns ((Walks.tuple nh3 _ p pI its).toS) s0.heap.objs.size nf ts len (by omega) (fun i v hv => SS.strs_at sa i v (by rw [Array.getElem?_toList]; exact hv)) its.size 0 _ (by omega) ⟨⟨_, Heap.get?_push_size _ rfl, rfl, rfl⟩, pl1.push _⟩ ?_ ?_
        · exact SetOf_congr ((setObjOf_fresh (knd := PySem.strKind pg wd) bb).setOf (Heap.get?_push_of_some _ g1) (by decide)) (fun _ => rfl) rfl
        · intro s3 mv hS3
          obtain ⟨x1, x2, x3, x4, x5⟩ := s3
          obtain rfl : x2 = s0.gens := mv.gens
          obtain rfl : x3 = s0.drawn := mv.drawn
          obtain rfl : x5 = s0.os := mv.os
          rw [← len] at hS3
          refine wpAny_pure ?_
          change wpAny _ _ (ret Value.none) _ _ _
          refine wpAny_pure ⟨rfl, x1, x4, rfl, hS3, fun b o hlt e => ?_⟩
          refine mv.heap b o ?_ (Heap.get?_push_of_some _ (Heap.get?_push_of_some _ e))
          rw [sz]; simp only [List.mem_cons, List.not_mem_nil, or_false, not_or]; exact ⟨Nat.ne_of_lt hlt, Nat.ne_of_lt (Nat.lt_succ_of_lt hlt)⟩
      · cases r2 with
        | error _ => exact h2
        | ok w2 =>
          cases w2 with
          | ret _ =>
            obtain ⟨rfl, h3, n3, rfl, hS3, keep⟩ := h2
            repeat (any_goals (first | assumption | wp_step))
            exact go _ _ hS3 keep
          | _ => exact h2.elim
    | _ => exact h1.elim
end
end Dn
set_option Elab.async false
set_option linter.all false
set_option maxRecDepth 100000
set_option maxHeartbeats 2000000
namespace Dn
open PySem PySem.Spec PyProof.Rows L2
variable [CTab]
def tLenS (K : PySem.W.Frag) (ta : TE) : TE := fun σ H Q => ta σ H fun x H1 => ∃ (l : Addr) (ts : List Str), x = .ref l ∧ (SqL K H1 l (ts.map V.str) ∨ SqT K H1 l (ts.map V.str)) ∧ ts.length < 4000 ∧ Q (.int (dnT ts ts.length : Nat)) H1
theorem pe_lenS {X : Cx} {K : PySem.W.Frag} {a : Expr} {ta : TE} {p1 p2 p3 p4 : Pos} (hK : X.K = K) (calm : X.calm = true) (g1 : Gl X "len") (m1 : X.mg "len" = none) (g2 : Gl X "set") (m2 : X.mg "set" = none) (ha : PE X a ta)
    (na : starEach [a] X.env = (false, eval a X.env) :: starEach [] X.env := by rfl) : PE X (.Call (.Name "len" p1) [.Call (.Name "set" p2) [a] [] p3] [] p4) (tLenS K ta) := by
  subst hK
  refine ⟨fun pins s σ H Q I h => Call_ (ld_blt I g1 m1 boot_len (PyProof.Rows.callWith_builtin1 (PyProof.Rows.args_cons ?_ rfl) rfl rfl))⟩
  refine Call_ (ld_blt I g2 m2 boot_set (PyProof.Rows.callWith_type1 (PyProof.Rows.args_cons (thn (ha.run pins s σ H _ I h) fun v s1 ⟨x, H1, I1, r1, q1⟩ => PyProof.Rows.args_nil ?_) na) na rfl))
  obtain ⟨l, ts, rfl, hq, hb, q1⟩ := q1
  cases r1
  have last : ∀ (h2 : Heap) (n2 : Nat), h2.SetOf (PySem.strKind X.prog X.w) s1.heap.objs.size (hasT ts ts.length) (dnT ts ts.length) → (∀ b o, b < s1.heap.objs.size → s1.heap.get? b = some o → h2.get? b = some o) →
      wpAny (model X.prog X.w) X.A (spliced (backTo p4 (starEach [] X.env))) (fun vs s₂ => wpAny (model X.prog X.w) X.A (call (.builtin "len") (Value.ref s1.heap.objs.size :: vs)) (EP X pins σ Q) X.xe s₂) X.xe { s1 with heap := h2, toks := n2 } := fun h2 n2 hS hk => by
    refine PyProof.Rows.args_nil ?_
    obtain ⟨o, es, ep, t, ho, hex, hd, _, _, _, hf, hn⟩ := hS
    have I2 : Inv X pins σ H1 { s1 with heap := h2, toks := n2 } := I1.kept fun b o e => hk b o (Heap.lt_size e) e
    have := dnT_le ts ts.length
    exact call_len_set ho hex hd hf (by rw [hn]; omega) ⟨.int (dnT ts ts.length : Nat), H1, I2.tok _, ⟨_, by rw [hn]⟩, q1⟩
  rcases hq with hq | hq
  · obtain ⟨its, r, pl, hz⟩ := I1.list hq
    exact set_of_list (I1.ok.hd calm) pl.isList (by simpa using strsAre_of r) hb last
  · obtain ⟨its, r, pl, hz⟩ := I1.tuple hq
    exact set_of_tuple (I1.ok.hd calm) pl (by simpa using strsAre_of r) hb last
def lenSetV : U → Option U
  | .lst xs => (strsU xs).bind fun ts => if ts.length < 4000 then some (.int (dnT ts ts.length : Nat)) else none
  | .frl xs => (strsU xs).bind fun ts => if ts.length < 4000 then some (.int (dnT ts ts.length : Nat)) else none
  | .tup xs => (strsU xs).bind fun ts => if ts.length < 4000 then some (.int (dnT ts ts.length : Nat)) else none
  | _ => none
theorem eo_lenS {K : PySem.W.Frag} {σ : L2.St} {B H : Hp} {ta : TE} {oa : Option U} (ha : EvO ta σ B H oa) : EvO (tLenS K ta) σ B H (op1 lenSetV oa) := fun z e B1 H1 g Q q => by
  obtain ⟨x, ex, e⟩ := bind_some e
  refine ha x ex B1 H1 g _ fun v B2 H2 g2 r2 => ?_
  have fin : ∀ (xs : List U) (vs : List V) (a : Addr), ((strsU xs).bind fun ts => if ts.length < 4000 then some (U.int (dnT ts ts.length : Nat)) else none) = some z → Rps B2 xs vs → (SqL K H2 a vs ∨ SqT K H2 a vs) → ∃ (l : Addr) (ts : List Str), V.ref a = .ref l ∧ (SqL K H2 l (ts.map V.str) ∨ SqT K H2 l (ts.map V.str)) ∧ ts.length < 4000 ∧ Q (.int (dnT ts ts.length : Nat)) H2 := fun xs vs a e r hs => by
    obtain ⟨ts, es, e⟩ := bind_some e
    split at e
    · rename_i hl
      cases e
      have := r.strs es; subst this
      exact ⟨a, ts, rfl, hs, hl, q _ B2 H2 g2 (.int _)⟩
    · cases e
  cases r2 with
  | @lst a xs vs h r => exact fin xs vs a e r (.inl (SqL.of (g2.bh _ _ h)))
  | @frl a xs vs o h r => exact fin xs vs a e r (.inl (.inl (.inr ⟨o, g2.bh _ _ h⟩)))
  | @tup a xs vs h r => exact fin xs vs a e r (.inr (SqT.of (g2.bh _ _ h)))
  | _ => cases e
end Dn
set_option Elab.async false
set_option linter.all false
set_option maxRecDepth 100000
set_option maxHeartbeats 4000000
namespace K42
open PySem L2 Dn
variable [CTab]
def m_is_name (p0 : U) : Option U := (andV (isO isStrB (some p0)) (andV (chainO leV leV (some (U.int 1)) (callO lenV (consO (some p0) (some []))) (some (U.int 8))) (callO (c1 allV) (consO (compO (fun u4 => (some true)) (fun u4 => (op2 inV2 (some u4) (some (U.str "abcdefghijklmnopqrstuvwxyz")))) (iterO U.signs (some p0))) (some [])))))
def m_are_beside (p0 : U) (p1 : U) : Option U := (andV (op2 neV2 (some p0) (some p1)) (orV (op2 eqV2 (op2 getV (some p0) (some (U.int 0))) (op2 getV (some p1) (some (U.int 0)))) (op2 eqV2 (op2 getV (some p0) (some (U.int 1))) (op2 getV (some p1) (some (U.int 1))))))
def m_walk_from_w1 (p0 : U) (kL20 : U → SM U) : Nat → U → SM U
  | 0, _ => pureS none
  | k55 + 1, x40 => (ifS (pureS (testO (op2 isNotV (some x40) (some U.non)))) (bindS (lockO 0 fun u56 => (compO (fun u62 => (andO (testO (callO (a2 m_are_beside) (consO (some u62) (consO (some x40) (some []))))) (testO (op2 notInV2 (some u62) (some u56))))) (fun u62 => (some u62)) (iterO U.iter (some p0)))) fun x65 => (bindS (pureS (ifO (testO (op2 neV2 (some x65) (lstO (some [])))) (op2 getV (some x65) (some (U.int 0))) (some U.non))) fun x74 => (bindS (bindS (pureS (slO (some x65) (some none) (ptO (some (U.int 1))))) fun y => extS 0 y) fun _ => (m_walk_from_w1 p0 kL20 k55 (x74))))) (kL20 x40))
def m_walk_fromS (p0 : U) (p1 : U) : SM U := (bindS (nlstS (pureS (consO (some p1) (some [])))) fun x => bindS (pureS (some p1)) fun y17 => addS x (withK (fun x40 => (bindS (takeS 0) fun x91 => (pureS (some x91)))) fun kL20 => (m_walk_from_w1 p0 kL20 300 (y17))))
def m_walk_from (p0 : U) (p1 : U) : Option U := runS (m_walk_fromS p0 p1)
def m_is_closed (p0 : U) : Option U := (andV (op2 gtV (callO lenV (consO (some p0) (some []))) (some (U.int 2))) (callO (a2 m_are_beside) (consO (op2 getV (some p0) (some (U.int 0))) (consO (op2 getV (some p0) (op1 negV (some (U.int 1)))) (some [])))))
def m_row_of (p0 : U) (p1 : U) : Option U := ((callO (a2 m_walk_from) (consO (some p0) (consO (some p1) (some [])))).bind fun x1 => (ifO (testO (callO (a1 m_is_closed) (consO (some x1) (some [])))) (callO (c1 tupleV) (consO (some x1) (some []))) ((callO (a2 m_walk_from) (consO (some p0) (consO (op2 getV (some x1) (op1 negV (some (U.int 1)))) (some [])))).bind fun x18 => (callO (c1 tupleV) (consO (ifO (testO (op2 leV (op2 tidxV (some p0) (op2 getV (some x18) (some (U.int 0)))) (op2 tidxV (some p0) (op2 getV (some x18) (op1 negV (some (U.int 1))))))) (some x18) (op2 stepV (some x18) (op1 negV (some (U.int 1))))) (some []))))))
def m_rows_in_l2 (p0 : U) (kL82 : SM U) : List U → SM U
  | [] => kL82
  | u100 :: l101 => (bindS (pureS (some (U.bl true))) fun y121 => bindS (pureS (some u100)) fun k122 => bindS (putS 1 k122 y121) fun _ => (m_rows_in_l2 p0 kL82 l101))
def m_rows_in_l1 (p0 : U) (kL18 : SM U) : List U → SM U
  | [] => kL18
  | u36 :: l37 => (ifS (lockT 1 fun u51 => (testO (op2 notInV2 (some u36) (some u51)))) (bindS (pureS (callO (a2 m_row_of) (consO (some p0) (consO (some u36) (some []))))) fun x66 => (bindS (bindS (pureS (some x66)) fun y => appS 0 y) fun _ => (withK (m_rows_in_l1 p0 kL18 l37) fun kL82 => (bindS (pureS (iterO U.iter (some x66))) fun xs85 => m_rows_in_l2 p0 kL82 xs85)))) (m_rows_in_l1 p0 kL18 l37))
def m_rows_inS (p0 : U) : SM U := (bindS (nlstS (pureS (some []))) fun x => bindS (pureS (some (U.dit []))) fun y => addS x (addS y (withK (bindS (takeS 0) fun x142 => (pureS (callO (c1 tupleV) (consO (some x142) (some []))))) fun kL18 => (bindS (pureS (iterO U.iter (some p0))) fun xs21 => m_rows_in_l1 p0 kL18 xs21))))
def m_rows_in (p0 : U) : Option U := runS (m_rows_inS p0)
def m_are_sources (p0 : U) (p1 : U) : Option U := (ifO (orO (notO (testO (chainO leV leV (some (U.int 1)) (callO lenV (consO (some p0) (some []))) (some (U.int 2))))) (notO (testO (callO (c1 allV) (consO (compO (fun u4 => (some true)) (fun u4 => (andV (isO isStrB (some u4)) (op2 inV2 (some u4) (some p1)))) (iterO U.iter (some p0))) (some [])))))) (some (U.bl false)) (op2 eqV2 (op1 lenSetV (some p0)) (callO lenV (consO (some p0) (some [])))))
def m_web_in_l1 (kL20 : SM U) : List U → SM U
  | [] => kL20
  | u42 :: l43 => (bindS (pureS (op2 splitV (some u42) (some (U.str " ")))) fun x57 => (ifS (orS (pureS (notO (testO (callO (a1 m_is_name) (consO (op2 getV (some x57) (some (U.int 0))) (some [])))))) (lockT 0 fun u66 => (testO (op2 inV2 (op2 getV (some x57) (some (U.int 0))) (some u66))))) (pureS (some U.non)) (ifS (orS (andS (lockT 0 fun u81 => (testO (op1 (empV false) (some u81)))) (pureS (testO (op2 gtV (callO lenV (consO (some x57) (some []))) (some (U.int 1)))))) (andS (lockT 0 fun u84 => (testO (op1 (empV true) (some u84)))) (notS (lockT 0 fun u87 => (testO (callO (a2 m_are_sources) (consO (slO (some x57) (ptO (some (U.int 1))) (some none)) (consO (some u87) (some []))))))))) (pureS (some U.non)) (bindS (pureS (callO (c1 tupleV) (consO (slO (some x57) (ptO (some (U.int 1))) (some none)) (some [])))) fun y108 => bindS (pureS (op2 getV (some x57) (some (U.int 0)))) fun k109 => bindS (putS 0 k109 y108) fun _ => (m_web_in_l1 kL20 l43)))))
def m_web_inS (p0 : U) : SM U := (ifS (pureS (notO (testO (isO isStrB (some p0))))) (pureS (some U.non)) (bindS (pureS (some (U.dic []))) fun u => addS u (withK (bindS (lockO 0 fun u119 => (compOO (fun u125 => (some true)) (fun u125 => (iterO U.iter (some u125))) (fun u125 u128 => (some true)) (fun u125 u128 => (some u128)) (iterO U.vals (some u119)))) fun x131 => (ifS (orS (testS (opS gtV (lockO 0 fun u140 => (callO lenV (consO (some u140) (some [])))) (pureS (some (U.int 40))))) (testS (callS (c1 anyV) (consS (lockO 0 fun u143 => (compO (fun u149 => (some true)) (fun u149 => (op2 gtV (op2 countV (some x131) (some u149)) (some (U.int 2)))) (iterO U.iter (some u143)))) (pureS (some [])))))) (pureS (some U.non)) (lockO 0 fun u164 => (op1 itemsV (some u164))))) fun kL20 => (bindS (pureS (iterO U.iter (op2 splitV (some p0) (some (U.str "; "))))) fun xs23 => m_web_in_l1 kL20 xs23))))
def m_web_in (p0 : U) : Option U := runS (m_web_inS p0)
def m_Web_init (p0 : U) : Option (List (Str × U)) := ((callO (a1 m_web_in) (consO (some p0) (some [])))).bind fun found => ((testO (op2 isV (some found) (some U.non)))).bind fun no => if no = true then none else ((callO (c1 tupleV) (consO (compO2 (fun u4 u7 => (some true)) (fun u4 u7 => (some u4)) (iterO U.iter (some found))) (some [])))).bind fun heads => ((callO (c1 tpdV) (consO (compOO (fun uu => (unp2 uu).bind fun ab => (fun u13 u16 => (some true)) ab.1 ab.2) (fun uu => (unp2 uu).bind fun ab => (fun u13 u16 => (iterO U.iter (some u16))) ab.1 ab.2) (fun uu u19 => (unp2 uu).bind fun ab => (fun u13 u16 => (some true)) ab.1 ab.2) (fun uu u19 => (unp2 uu).bind fun ab => (fun u13 u16 => (tupO (consO (some u19) (consO (some u13) (some []))))) ab.1 ab.2) (iterO U.iter (some found))) (some [])))).bind fun prs => match prs with
  | .tpd ps => ((a1 m_rows_in) [.tpd ps]).map fun rows => webF p0 found heads (.tpd ps) rows
  | _ => none
def m_web_text (p0 : U) : Option U := (op2 joinV (some (U.str "; ")) (compO2 (fun u4 u7 => (some true)) (fun u4 u7 => (op2 joinV (some (U.str " ")) (lstO (consO (some u4) (starO (some u7) (some [])))))) (iterO U.iter (some p0))))
def m_check_copy (p0 : U) (p1 : U) : Option U := (ifO (orO (notO (testO (isO isStrB (some p1)))) (testO (op2 notInV2 (some p1) (op1 (fldV 0 "heads") (some p0))))) none (some U.non))
def x_check_copy (p0 : U) (p1 : U) : Option U := (ifO (orO (notO (testO (isO isStrB (some p1)))) (testO (op2 notInV2 (some p1) (op1 (fldV 0 "heads") (some p0))))) (callO (rs1 7 "given") (consO (some p1) (some []))) (some U.non))
def m_Web_text (p0 : U) : Option U := (op1 (fldV 0 "written") (some p0))
def m_Web_names (p0 : U) : Option U := (op1 (fldV 0 "heads") (some p0))
def m_Web_ends (p0 : U) : Option U := (callO (c1 tupleV) (consO (compO (fun u4 => (testO (op2 notInV2 (some u4) (compO2 (fun u10 u13 => (some true)) (fun u10 u13 => (some u10)) (iterO U.iter (op1 (fldV 0 "pairs") (some p0))))))) (fun u4 => (some u4)) (iterO U.iter (op1 (fldV 0 "heads") (some p0)))) (some [])))
def m_Web_copies (p0 : U) (p1 : U) : Option U := ((callO (a2 m_check_copy) (consO (some p0) (consO (some p1) (some [])))).bind fun _ => (callO (c1 tupleV) (consO (compO2 (fun u11 u14 => (testO (op2 eqV2 (some u11) (some p1)))) (fun u11 u14 => (some u14)) (iterO U.iter (op1 (fldV 0 "pairs") (some p0)))) (some []))))
def x_Web_with_copy_l1 (p0 : U) (p1 : U) (p2 : U) (kL31 : Option U) : List U → Option U
  | [] => kL31
  | u44 :: l45 => (ifO (testO (op2 eqV2 (callO lenV (consO (methO 0 "copies" (a2 m_Web_copies) (some p0) (consO (some u44) (some []))) (some []))) (some (U.int 2)))) (callO (rs1 17 "given") (consO (some u44) (some []))) (x_Web_with_copy_l1 p0 p1 p2 kL31 l45))
def x_Web_with_copy (p0 : U) (p1 : U) (p2 : U) : Option U := (ifO (orO (notO (testO (callO (a1 m_is_name) (consO (some p1) (some []))))) (testO (op2 inV2 (some p1) (op1 (fldV 0 "heads") (some p0))))) (callO (rs1 3 "given") (consO (some p1) (some []))) (ifO (orO (notO (testO (isO isTupB (some p2)))) (notO (testO (callO (a2 m_are_sources) (consO (some p2) (consO (op1 (fldV 0 "heads") (some p0)) (some []))))))) (callO (rs1 10 "given") (consO (some p2) (some []))) (ifO (testO (op2 eqV2 (callO lenV (consO (op1 (fldV 0 "heads") (some p0)) (some []))) (some (U.int 40)))) (callO (rs1 16 "number") (consO (some (U.int 40)) (some []))) (withK (callO (mkF 0 m_Web_init) (consO (callO (a1 m_web_text) (consO (lstO (starO (op1 (fldV 0 "rows") (some p0)) (consO (tupO (consO (some p1) (consO (some p2) (some [])))) (some [])))) (some []))) (some []))) fun kL31 => ((iterO U.iter (some p2)).bind fun xs34 => x_Web_with_copy_l1 p0 p1 p2 kL31 xs34)))))
def x_Web_without (p0 : U) (p1 : U) : Option U := (bindR (callO (a2 x_check_copy) (consO (some p0) (consO (some p1) (some [])))) fun _ => (ifO (orO (testO (op2 notInV2 (some p1) (op1 (propV 0 (a1 m_Web_ends)) (some p0)))) (testO (op2 eqV2 (some p1) (op2 getV (op1 (fldV 0 "heads") (some p0)) (some (U.int 0)))))) (callO (rs1 3 "given") (consO (some p1) (some []))) (callO (mkF 0 m_Web_init) (consO (callO (a1 m_web_text) (consO (compO (fun u21 => (testO (op2 neV2 (op2 getV (some u21) (some (U.int 0))) (some p1)))) (fun u21 => (some u21)) (iterO U.iter (op1 (fldV 0 "rows") (some p0)))) (some []))) (some [])))))
def m_Web___str__ (p0 : U) : Option U := (callO (c1 strBV) (consO (op1 (fldV 0 "written") (some p0)) (some [])))
def m_Shelf___init__ (p1 : U) : SM U := (ifS (pureS (notO (testO (callO (a1 m_is_name) (consO (some p1) (some [])))))) (pureS none) (bindS (pureS (callO (mkF 0 m_Web_init) (consO (some p1) (some [])))) fun y19 => bindS (putI 0 23 "now_kept" y19) fun _ => (bindS (pureS (tupO (some []))) fun y26 => bindS (putI 0 23 "past" y26) fun _ => (pureS (some U.non)))))
def x_Shelf_init (p0 : U) : Option U := ((notO (testO (callO (a1 m_is_name) (consO (some p0) (some [])))))).bind fun no => if no = true then (callO (rs1 3 "given") (consO (some p0) (some []))) else none
def m_Shelf_web : SM U := (fldIS 0 23 "now_kept")
def m_Shelf_changes : SM U := (callS lenV (consS (fldIS 0 23 "past") (pureS (some []))))
def m_Shelf_become (p1 : U) : SM U := (bindS (tupS (starS (fldIS 0 23 "past") (consS (fldIS 0 23 "now_kept") (pureS (some []))))) fun y7 => bindS (putI 0 23 "past" y7) fun _ => (bindS (pureS (some p1)) fun y14 => bindS (putI 0 23 "now_kept" y14) fun _ => (pureS (some U.non))))
def x_Shelf_put (p1 : U) (p2 : U) : SM U := (bindXS (methIX 0 23 "become" (bI1 m_Shelf_become) (methXS 0 "with_copy" (a3 x_Web_with_copy) (fldIS 0 23 "now_kept") (pureS (consO (some p1) (consO (some p2) (some [])))))) outXS fun x1 => (pureS (some U.non)))
def x_Shelf_take (p1 : U) : SM U := (bindXS (methIX 0 23 "become" (bI1 m_Shelf_become) (methXS 0 "without" (a2 x_Web_without) (fldIS 0 23 "now_kept") (pureS (consO (some p1) (some []))))) outXS fun x1 => (pureS (some U.non)))
def m_Shelf_undo : SM U := (ifS (testS (opS eqV2 (fldIS 0 23 "past") (pureS (tupO (some []))))) (pureS none) (bindS (opS getV (fldIS 0 23 "past") (pureS (op1 negV (some (U.int 1))))) fun y19 => bindS (putI 0 23 "now_kept" y19) fun _ => (bindS (slS (fldIS 0 23 "past") (pureS (some none)) (pureS (ptO (op1 negV (some (U.int 1)))))) fun y26 => bindS (putI 0 23 "past" y26) fun _ => (pureS (some U.non)))))
def m_law_purse_l1 (x1 : U) (kL19 : U → SM U) : List U → U → SM U
  | [], x69 => kL19 x69
  | u39 :: l40, x51 => (bindS (pureS (op2 modV (callO (c1 intV) (consO (op2 addV (op2 addV (op2 mulV (some x51) (some (U.int 40692))) (op2 modV (callO (c1 intV) (consO (some u39) (some []))) (some (U.int 2147483647)))) (some (U.int 101))) (some []))) (some (U.int 2147483647)))) fun x57 => (m_law_purse_l1 x1 kL19 l40 (x57)))
def m_law_purseS (p0 : U) (p1 : U) : SM U := (bindS (pureS (ifO (testO (op2 ltV (some p1) (callO lenV (consO (some p0) (some []))))) (op2 getV (some p0) (some p1)) (op2 mulV (some (U.int 6373)) (op2 addV (some p1) (some (U.int 5)))))) fun x1 => (bindS (pureS (op2 addV (some (U.int 941)) (some p1))) fun x10 => (withK (fun x69 => (nlstS (pureS (consO (ifO (testO (op2 geV (callO (c1 absU) (consO (some x1) (some []))) (op2 powV (some (U.int 10)) (some (U.int 18))))) (callO (c1 absU) (consO (some x1) (some []))) (some (U.int 0))) (consO (some x69) (some [])))))) fun kL19 => (bindS (pureS (iterO U.iter (op2 addV (slO (some p0) (some none) (ptO (some (U.int 5)))) (lstO (consO (some x1) (some [])))))) fun xs22 => m_law_purse_l1 x1 kL19 xs22 (x10)))))
def m_law_purse (p0 : U) (p1 : U) : Option U := runS (m_law_purseS p0 p1)
def m_law_draw (p1 : U) : SM U := (ifS (testS (opS gtV (lockO 0 fun u1 => (op2 getV (some u1) (some (U.int 0)))) (pureS (some (U.int 0))))) (bindS (callS divmodU (consS (lockO 0 fun u16 => (op2 getV (some u16) (some (U.int 0)))) (consS (pureS (some p1)) (pureS (some []))))) fun u => unpS u fun x28 y19 => bindS (pureS (some (U.int 0))) fun k29 => bindS (setLS 0 k29 x28) fun _ => (pureS (some y19))) (bindS (opS modV (callS (c1 intV) (consS (opS addV (opS mulV (lockO 0 fun u30 => (op2 getV (some u30) (some (U.int 1)))) (pureS (some (U.int 45991)))) (pureS (some (U.int 40503)))) (pureS (some [])))) (pureS (some (U.int 2147483647)))) fun y39 => bindS (pureS (some (U.int 1))) fun k40 => bindS (setLS 0 k40 y39) fun _ => (opS modV (callS (c1 intV) (consS (opS fdivV (lockO 0 fun u41 => (op2 getV (some u41) (some (U.int 1)))) (pureS (some (U.int 1024)))) (pureS (some [])))) (pureS (some p1)))))
def m_law_sort (p0 : U) : Option U := ((lstO (consO (some (U.str "InvalidText")) (consO (some (U.str "InvalidNumber")) (consO (some (U.str "InvalidName")) (consO (some (U.str "InvalidIndex")) (consO (some (U.str "InvalidClaim")) (consO (some (U.str "InvalidChoice")) (some [])))))))).bind fun x1 => ((op2 addV (some x1) (lstO (consO (some (U.str "UnknownName")) (consO (some (U.str "NotAWeb")) (consO (some (U.str "NotAShelf")) (consO (some (U.str "InvalidSources")) (some []))))))).bind fun x8 => ((op2 addV (some x8) (lstO (consO (some (U.str "InvalidTold")) (consO (some (U.str "InvalidWeights")) (consO (some (U.str "InvalidOffers")) (consO (some (U.str "InvalidFreed")) (some []))))))).bind fun x15 => ((op2 addV (some x15) (lstO (consO (some (U.str "NoChoice")) (consO (some (U.str "TooMany")) (consO (some (U.str "FullSource")) (consO (some (U.str "Broken")) (consO (some (U.str "InUse")) (consO (some (U.str "NothingToUndo")) (some []))))))))).bind fun x22 => ((lstO (consO (op1 (isaX okX tabX_InvalidText) (some p0)) (consO (op1 (isaX okX tabX_InvalidNumber) (some p0)) (consO (op1 (isaX okX tabX_InvalidName) (some p0)) (some []))))).bind fun x29 => ((op2 addV (some x29) (lstO (consO (op1 (isaX okX tabX_InvalidIndex) (some p0)) (consO (op1 (isaX okX tabX_InvalidClaim) (some p0)) (consO (op1 (isaX okX tabX_InvalidChoice) (some p0)) (some [])))))).bind fun x36 => ((op2 addV (some x36) (lstO (consO (op1 (isaX okX tabX_UnknownName) (some p0)) (consO (op1 (isaX okX tabX_NotAWeb) (some p0)) (consO (op1 (isaX okX tabX_NotAShelf) (some p0)) (some [])))))).bind fun x43 => ((op2 addV (some x43) (lstO (consO (op1 (isaX okX tabX_InvalidSources) (some p0)) (consO (op1 (isaX okX tabX_InvalidTold) (some p0)) (consO (op1 (isaX okX tabX_InvalidWeights) (some p0)) (some [])))))).bind fun x50 => ((op2 addV (some x50) (lstO (consO (op1 (isaX okX tabX_InvalidOffers) (some p0)) (consO (op1 (isaX okX tabX_InvalidFreed) (some p0)) (consO (op1 (isaX okX tabX_NoChoice) (some p0)) (some [])))))).bind fun x57 => ((op2 addV (some x57) (lstO (consO (op1 (isaX okX tabX_TooMany) (some p0)) (consO (op1 (isaX okX tabX_FullSource) (some p0)) (consO (op1 (isaX okX tabX_Broken) (some p0)) (some [])))))).bind fun x64 => ((op2 addV (some x64) (lstO (consO (op1 (isaX okX tabX_InUse) (some p0)) (consO (op1 (isaX okX tabX_NothingToUndo) (some p0)) (some []))))).bind fun x71 => ((lstO (consO (op1 (isaX okX tabX_WrongValue) (some p0)) (consO (op1 (isaX okX tabX_NoAnswer) (some p0)) (some [])))).bind fun x78 => (ifO (orO (testO (op2 neV2 (op2 countB (some x71) (some (U.bl true))) (some (U.int 1)))) (testO (op2 neV2 (op2 countB (some x78) (some (U.bl true))) (some (U.int 1))))) (some (U.str "other")) ((op2 lidxV (some x71) (some (U.bl true))).bind fun x95 => (ifO (testO (op2 eqV2 (op2 lidxV (some x78) (some (U.bl true))) (ifO (testO (op2 ltV (some x95) (some (U.int 14)))) (some (U.int 0)) (some (U.int 1))))) (op2 getV (some x22) (some x95)) (some (U.str "other")))))))))))))))))
def m_law_attribute (p0 : U) (p1 : U) : Option U := (ifO (testO (op2 inV2 (some p1) (lstO (consO (some (U.str "other")) (consO (some (U.str "NothingToUndo")) (consO (some (U.str "NoChoice")) (some []))))))) (some (U.str "")) (ifO (testO (op2 eqV2 (some p1) (some (U.str "Broken")))) (callO (c1 reprV) (consO (tupO (consO (op1 (excF okX "index") (some p0)) (consO (op1 (excF okX "told") (some p0)) (some [])))) (some []))) (ifO (testO (op2 eqV2 (some p1) (some (U.str "TooMany")))) (callO (c1 reprV) (consO (op1 (excF okX "number") (some p0)) (some []))) ((lstO (consO (some (U.str "InvalidTold")) (consO (some (U.str "InvalidWeights")) (consO (some (U.str "InvalidOffers")) (consO (some (U.str "InvalidFreed")) (consO (some (U.str "InUse")) (some []))))))).bind fun x31 => (ifO (testO (op2 inV2 (some p1) (some x31))) (callO (c1 reprV) (consO (op1 (excF okX "index") (some p0)) (some []))) (callO (c1 reprD) (consO (op1 (excF okX "given") (some p0)) (some []))))))))
def m_law_shot : SM U := (callS (c1 reprV) (consS (lstS (consS (callS (c1 (ownTxV 0 (a1 m_Web___str__))) (consS (callI 0 23 (bI0 m_Shelf_web) []) (pureS (some [])))) (consS (callI 0 23 (bI0 m_Shelf_changes) []) (pureS (some []))))) (pureS (some []))))
def m_law_right_l3 (x145 : U) (x146 : U) (kL157 : SM U) : List U → SM U
  | [] => kL157
  | u184 :: l185 => (bindS (opS getV (pureS (lstO (consO (some U.non) (consO (some (U.int 0)) (consO (some (U.str "")) (consO (some (U.str "A")) (consO (some (U.str "a1")) (consO (some (U.str "abcdefghi")) (consO (tupO (consO (some (U.str "a")) (some []))) (consO (lstO (some [])) (consO (some (U.dic [])) (consO (some (U.bl true)) (consO (some (U.str "a b")) (consO (some (U.str "a; b a")) (some []))))))))))))))) (bindS (pureS (consO (some (U.int 12)) (some []))) fun xs => callM 0 (b1 m_law_draw) xs)) fun x199 => (bindS (opS getV (pureS (lstO (consO (some U.non) (consO (some (U.int 0)) (consO (some (U.str "")) (consO (some (U.str "A")) (consO (some (U.str "a")) (consO (some (U.str "e")) (consO (some (U.str "abcdefghi")) (consO (tupO (consO (some (U.str "a")) (some []))) (consO (lstO (some [])) (consO (some (U.dic [])) (consO (some (U.bl true)) (consO (some (U.str "new ")) (some []))))))))))))))) (bindS (pureS (consO (some (U.int 12)) (some []))) fun xs => callM 0 (b1 m_law_draw) xs)) fun x208 => (bindS (pureS (lstO (consO (some U.non) (consO (some (U.str "a")) (consO (tupO (some [])) (consO (tupO (consO (some (U.str "q")) (some []))) (consO (tupO (consO (some (U.str "d")) (consO (some (U.str "d")) (some [])))) (consO (lstO (consO (some (U.str "d")) (some []))) (consO (tupO (consO (some (U.str "d")) (consO (some (U.str "q")) (some [])))) (consO (tupO (consO (some (U.str "d")) (consO (some (U.str "e")) (consO (some (U.str "b")) (some []))))) (consO (tupO (consO (some U.non) (some []))) (consO (some (U.dic [])) (consO (some (U.int 0)) (some [])))))))))))))) fun x217 => (bindS (opS getV (pureS (some x217)) (bindS (pureS (consO (some (U.int 11)) (some []))) fun xs => callM 0 (b1 m_law_draw) xs)) fun x226 => (bindS (opS getV (pureS (lstO (consO (some U.non) (consO (some (U.int 0)) (consO (some (U.str "")) (consO (some (U.str "q")) (consO (tupO (consO (some (U.str "e")) (some []))) (consO (lstO (consO (some (U.str "e")) (some []))) (consO (some (U.dic [])) (consO (some (U.bl true)) (consO (some (U.str "E")) (consO (some (U.str "e ")) (some []))))))))))))) (bindS (pureS (consO (some (U.int 10)) (some []))) fun xs => callM 0 (b1 m_law_draw) xs)) fun x235 => (bindS (opS getV (pureS (lstO (consO (some (U.str "a")) (consO (some (U.str "b")) (consO (some (U.str "c")) (some [])))))) (bindS (pureS (consO (some (U.int 3)) (some []))) fun xs => callM 0 (b1 m_law_draw) xs)) fun x244 => (bindS (nlstS (pureS (consO ((callO (mkX 23 x_Shelf_init) (consO (some x199) (some []))).bind (toldV okX (a1 m_law_sort) (a2 m_law_attribute) "returned")) (some [])))) fun u => addS u (bindS (bindS (toldS okX (a1 m_law_sort) (a2 m_law_attribute) "returned" (methI 1 23 "put" (bI2 x_Shelf_put) (pureS (consO (some x208) (consO (some x226) (some [])))))) fun y => appS 3 y) fun _ => (bindS (bindS (toldS okX (a1 m_law_sort) (a2 m_law_attribute) "returned" (methI 1 23 "put" (bI2 x_Shelf_put) (pureS (consO (some (U.str "new")) (consO (some x226) (some [])))))) fun y => appS 3 y) fun _ => (bindS (bindS (toldS okX (a1 m_law_sort) (a2 m_law_attribute) "returned" (methI 1 23 "put" (bI2 x_Shelf_put) (pureS (consO (some (U.str "new")) (consO (tupO (consO (some (U.str "d")) (consO (some (U.str "c")) (some [])))) (some [])))))) fun y => appS 3 y) fun _ => (bindS (bindS (toldS okX (a1 m_law_sort) (a2 m_law_attribute) "returned" (methI 1 23 "put" (bI2 x_Shelf_put) (pureS (consO (some (U.str "new")) (consO (tupO (consO (some (U.str "a")) (consO (some (U.str "c")) (some [])))) (some [])))))) fun y => appS 3 y) fun _ => (bindS (bindS (toldS okX (a1 m_law_sort) (a2 m_law_attribute) "returned" (methI 1 23 "take" (bI1 x_Shelf_take) (pureS (consO (some x235) (some []))))) fun y => appS 3 y) fun _ => (bindS (bindS (toldS okX (a1 m_law_sort) (a2 m_law_attribute) "returned" (methI 1 23 "take" (bI1 x_Shelf_take) (pureS (consO (some x244) (some []))))) fun y => appS 3 y) fun _ => (bindS (bindS (toldS okX (a1 m_law_sort) (a2 m_law_attribute) "returned" (methI 2 23 "put" (bI2 x_Shelf_put) (pureS (consO (some (U.str "new")) (consO (tupO (consO (some (U.str "a")) (some []))) (some [])))))) fun y => appS 3 y) fun _ => (bindS (bindS (toldS okX (a1 m_law_sort) (a2 m_law_attribute) "returned" (methI 2 23 "put" (bI2 x_Shelf_put) (pureS (consO (some (U.str "new")) (consO (tupO (consO (some (U.str "q")) (some []))) (some [])))))) fun y => appS 3 y) fun _ => (bindS (takeS 3) fun x316 => (bindS (pureS (lstO (consO (tupO (consO (some (U.str "InvalidName")) (consO (callO (c1 reprD) (consO (some x199) (some []))) (some [])))) (consO (tupO (consO (some (U.str "InvalidName")) (consO (callO (c1 reprD) (consO (some x208) (some []))) (some [])))) (consO (tupO (consO (some (U.str "InvalidSources")) (consO (callO (c1 reprD) (consO (some x226) (some []))) (some [])))) (some [])))))) fun x323 => (bindS (pureS (op2 addV (some x323) (lstO (consO (tupO (consO (some (U.str "FullSource")) (consO (callO (c1 reprV) (consO (some (U.str "c")) (some []))) (some [])))) (some []))))) fun x332 => (bindS (pureS (op2 addV (some x332) (lstO (consO (tupO (consO (some (U.str "FullSource")) (consO (callO (c1 reprV) (consO (some (U.str "a")) (some []))) (some [])))) (consO (tupO (consO (some (U.str "UnknownName")) (consO (callO (c1 reprD) (consO (some x235) (some []))) (some [])))) (consO (tupO (consO (some (U.str "InvalidName")) (consO (callO (c1 reprD) (consO (some x244) (some []))) (some [])))) (consO (tupO (consO (some (U.str "TooMany")) (consO (some (U.str "40")) (some [])))) (some [])))))))) fun x341 => (ifS (pureS (testO (op2 neV2 (some x316) (op2 addV (some x341) (lstO (consO (tupO (consO (some (U.str "InvalidSources")) (consO (callO (c1 reprV) (consO (tupO (consO (some (U.str "q")) (some []))) (some []))) (some [])))) (some []))))))) (pureS (some (U.bl false))) (ifS (orS (testS (opS neV2 (bindS (pureS (some [])) fun xs => callI 1 23 (bI0 m_law_shot) xs) (pureS (some x145)))) (testS (opS neV2 (bindS (pureS (some [])) fun xs => callI 2 23 (bI0 m_law_shot) xs) (pureS (some x146))))) (pureS (some (U.bl false))) (cutS' 3 (m_law_right_l3 x145 x146 kL157 l185)))))))))))))))))))))))
def m_law_right_l2 (kL85 : SM U) : List U → SM U
  | [] => kL85
  | u114 :: l115 => (bindS (noX (methI 2 23 "put" (bI2 x_Shelf_put) (consS (pureS (op2 addV (op2 addV (some (U.str "n")) (op2 getV (some (U.str "abcdefghij")) (op2 fdivV (some u114) (some (U.int 10))))) (op2 getV (some (U.str "abcdefghij")) (op2 modV (some u114) (some (U.int 10)))))) (consS (tupS (consS (opS getV (op1S (propV 0 (a1 m_Web_names)) (callI 2 23 (bI0 m_Shelf_web) [])) (pureS (op1 negV (some (U.int 1))))) (pureS (some [])))) (pureS (some [])))))) fun _ => (m_law_right_l2 kL85 l115))
def m_law_right_l1 (kL18 : SM U) : List U → SM U
  | [] => kL18
  | u47 :: l48 => (unpS u47 fun u62 u63 => (bindS (noX (methI 1 23 "put" (bI2 x_Shelf_put) (pureS (consO (some u62) (consO (some u63) (some [])))))) fun _ => (m_law_right_l1 kL18 l48)))
def m_law_right : SM U := (bindS (callS (mkI 23 (bI1 m_Shelf___init__)) (pureS (consO (some (U.str "a")) (some [])))) fun x => bindS (callS (mkI 23 (bI1 m_Shelf___init__)) (pureS (consO (some (U.str "a")) (some [])))) fun y => addS x (addS y (withK (withK (bindS (consS (bindS (pureS (some [])) fun xs => callI 1 23 (bI0 m_law_shot) xs) (consS (bindS (pureS (some [])) fun xs => callI 2 23 (bI0 m_law_shot) xs) (pureS (some [])))) fun xs => parS xs fun x145 x146 => (withK (bindS (oddS 23 0 1 (callI 1 23 (bI0 m_Shelf_web) [])) fun _ => (ifS (orS (testS (opS isNotV (noX (methI 1 23 "put" (bI2 x_Shelf_put) (pureS (consO (some (U.str "new")) (consO (tupO (consO (some (U.str "d")) (consO (some (U.str "e")) (some [])))) (some [])))))) (pureS (some U.non)))) (orS (testS (opS isNotV (noX (methI 1 23 "take" (bI1 x_Shelf_take) (pureS (consO (some (U.str "new")) (some []))))) (pureS (some U.non)))) (testS (opS isNotV (noX (methI 1 23 "take" (bI1 x_Shelf_take) (pureS (consO (some (U.str "e")) (some []))))) (pureS (some U.non)))))) (pureS (some (U.bl false))) (andVS (opS eqV2 (keepN (lcS (fun u405 => (pureS (some true))) (fun u405 => (methI 1 23 "undo" (bI0 m_Shelf_undo) (pureS (some [])))) (pureS (rngO rng1 (consO (some (U.int 3)) (some [])))))) (pureS (op2 mulV (lstO (consO (some U.non) (some []))) (some (U.int 3))))) (opS eqV2 (bindS (pureS (some [])) fun xs => callI 1 23 (bI0 m_law_shot) xs) (pureS (some x145)))))) fun kL157 => (bindS (pureS (rngO rng1 (consO (some (U.int 6)) (some [])))) fun xs160 => m_law_right_l3 x145 x146 kL157 xs160))) fun kL85 => (bindS (pureS (rngO rng1 (consO (some (U.int 39)) (some [])))) fun xs88 => m_law_right_l2 kL85 xs88)) fun kL18 => (bindS (pureS (iterO U.iter (lstO (consO (tupO (consO (some (U.str "b")) (consO (tupO (consO (some (U.str "a")) (some []))) (some [])))) (consO (tupO (consO (some (U.str "c")) (consO (tupO (consO (some (U.str "a")) (some []))) (some [])))) (consO (tupO (consO (some (U.str "d")) (consO (tupO (consO (some (U.str "b")) (consO (some (U.str "c")) (some [])))) (some [])))) (consO (tupO (consO (some (U.str "e")) (consO (tupO (consO (some (U.str "c")) (some []))) (some [])))) (some [])))))))) fun xs21 => m_law_right_l1 kL18 xs21))))
def m_lawS (p0 : U) : SM U := (callS (c1 allV) (consS (keepN (lcS (fun u4 => (pureS (some true))) (fun u4 => (callF (b0 m_law_right) (callS (a2 m_law_purse) (pureS (consO (some p0) (consO (some u4) (some []))))) (pureS (some [])))) (pureS (rngO rng1 (consO (callO maxA (consO (some (U.int 2)) (consO (callO minU (consO (callO lenV (consO (some p0) (some []))) (consO (some (U.int 4)) (some [])))) (some [])))) (some [])))))) (pureS (some []))))
def m_law (p0 : U) : Option U := runS (m_lawS p0)
end K42
set_option Elab.async false
set_option linter.all false
set_option maxRecDepth 100000
set_option maxHeartbeats 4000000
namespace K42
open PySem L2 Dn
variable [CTab]
structure Tx (w : World) (K : PySem.W.Frag) (mg : Str → Option Value) (base : Heap) (a : Nat → Addr) (d : Nat → FuncData) : Prop where
  b_isinstance : mg "isinstance" = none
  b_str : mg "str" = none
  b_len : mg "len" = none
  b_all : mg "all" = none
  b_tuple : mg "tuple" = none
  b_set : mg "set" = none
  b_any : mg "any" = none
  b_int : mg "int" = none
  b_abs : mg "abs" = none
  b_divmod : mg "divmod" = none
  b_repr : mg "repr" = none
  b_range : mg "range" = none
  b_min : mg "min" = none
  b_max : mg "max" = none
  c_LETTERS : ∃ t : Tok, mg "LETTERS" = some (.str "abcdefghijklmnopqrstuvwxyz" t)
  c_MOST_COPIES : ∃ t : Tok, mg "MOST_COPIES" = some (.int 40 t)
  f_is_name : Fun K "is_name" "is_name" (top 26) (a 26) (d 26)
  g_is_name : mg "is_name" = some (.ref (a 26))
  bd_is_name : Binds K (d 26) ["value"] []
  f_are_beside : Fun K "are_beside" "are_beside" (top 29) (a 29) (d 29)
  g_are_beside : mg "are_beside" = some (.ref (a 29))
  bd_are_beside : Binds K (d 29) ["one", "other"] []
  f_walk_from : Fun K "walk_from" "walk_from" (top 30) (a 30) (d 30)
  g_walk_from : mg "walk_from" = some (.ref (a 30))
  bd_walk_from : Binds K (d 30) ["lines", "start"] []
  f_is_closed : Fun K "is_closed" "is_closed" (top 31) (a 31) (d 31)
  g_is_closed : mg "is_closed" = some (.ref (a 31))
  bd_is_closed : Binds K (d 31) ["row"] []
  f_row_of : Fun K "row_of" "row_of" (top 32) (a 32) (d 32)
  g_row_of : mg "row_of" = some (.ref (a 32))
  bd_row_of : Binds K (d 32) ["lines", "first"] []
  f_rows_in : Fun K "rows_in" "rows_in" (top 33) (a 33) (d 33)
  g_rows_in : mg "rows_in" = some (.ref (a 33))
  bd_rows_in : Binds K (d 33) ["lines"] []
  f_are_sources : Fun K "are_sources" "are_sources" (top 35) (a 35) (d 35)
  g_are_sources : mg "are_sources" = some (.ref (a 35))
  bd_are_sources : Binds K (d 35) ["values", "names"] []
  f_web_in : Fun K "web_in" "web_in" (top 36) (a 36) (d 36)
  g_web_in : mg "web_in" = some (.ref (a 36))
  bd_web_in : Binds K (d 36) ["text"] []
  f_Web___init__ : Fun K "__init__" "Web.__init__" (inClass (top 38) 0) (a 1000) (d 1000)
  bd_Web___init__ : Binds K (d 1000) ["self", "text"] []
  f_web_text : Fun K "web_text" "web_text" (top 37) (a 37) (d 37)
  g_web_text : mg "web_text" = some (.ref (a 37))
  bd_web_text : Binds K (d 37) ["rows"] []
  f_check_copy : Fun K "check_copy" "check_copy" (top 39) (a 39) (d 39)
  g_check_copy : mg "check_copy" = some (.ref (a 39))
  bd_check_copy : Binds K (d 39) ["web", "copy"] []
  f_UnknownName___init__ : Fun K "__init__" "UnknownName.__init__" (inClass (top 10) 0) (a 1700) (d 1700)
  bd_UnknownName___init__ : Binds K (d 1700) ["self", "given"] []
  f_Web_text : Fun K "text" "Web.text" (inClass (top 38) 1) (a 1001) (d 1001)
  pr_Web_text : ∃ p, PropOf K (CTab.ct 0) "text" p (a 1001)
  bd_Web_text : Binds K (d 1001) ["self"] []
  f_Web_names : Fun K "names" "Web.names" (inClass (top 38) 2) (a 1002) (d 1002)
  pr_Web_names : ∃ p, PropOf K (CTab.ct 0) "names" p (a 1002)
  bd_Web_names : Binds K (d 1002) ["self"] []
  f_Web_lines : Fun K "lines" "Web.lines" (inClass (top 38) 3) (a 1003) (d 1003)
  pr_Web_lines : ∃ p, PropOf K (CTab.ct 0) "lines" p (a 1003)
  bd_Web_lines : Binds K (d 1003) ["self"] []
  f_Web_ends : Fun K "ends" "Web.ends" (inClass (top 38) 4) (a 1004) (d 1004)
  pr_Web_ends : ∃ p, PropOf K (CTab.ct 0) "ends" p (a 1004)
  bd_Web_ends : Binds K (d 1004) ["self"] []
  f_Web_sources : Fun K "sources" "Web.sources" (inClass (top 38) 5) (a 1005) (d 1005)
  mt_Web_sources : Meth K (CTab.ct 0) "sources" (a 1005)
  bd_Web_sources : Binds K (d 1005) ["self", "copy"] []
  f_Web_copies : Fun K "copies" "Web.copies" (inClass (top 38) 6) (a 1006) (d 1006)
  mt_Web_copies : Meth K (CTab.ct 0) "copies" (a 1006)
  bd_Web_copies : Binds K (d 1006) ["self", "source"] []
  f_InvalidName___init__ : Fun K "__init__" "InvalidName.__init__" (inClass (top 6) 0) (a 1300) (d 1300)
  bd_InvalidName___init__ : Binds K (d 1300) ["self", "given"] []
  f_InvalidSources___init__ : Fun K "__init__" "InvalidSources.__init__" (inClass (top 13) 0) (a 2000) (d 2000)
  bd_InvalidSources___init__ : Binds K (d 2000) ["self", "given"] []
  f_TooMany___init__ : Fun K "__init__" "TooMany.__init__" (inClass (top 19) 0) (a 2600) (d 2600)
  bd_TooMany___init__ : Binds K (d 2600) ["self", "number"] []
  f_FullSource___init__ : Fun K "__init__" "FullSource.__init__" (inClass (top 20) 0) (a 2700) (d 2700)
  bd_FullSource___init__ : Binds K (d 2700) ["self", "given"] []
  f_Web_with_copy : Fun K "with_copy" "Web.with_copy" (inClass (top 38) 7) (a 1007) (d 1007)
  mt_Web_with_copy : Meth K (CTab.ct 0) "with_copy" (a 1007)
  bd_Web_with_copy : Binds K (d 1007) ["self", "name", "sources"] []
  f_Web_without : Fun K "without" "Web.without" (inClass (top 38) 8) (a 1008) (d 1008)
  mt_Web_without : Meth K (CTab.ct 0) "without" (a 1008)
  bd_Web_without : Binds K (d 1008) ["self", "copy"] []
  f_Web___str__ : Fun K "__str__" "Web.__str__" (inClass (top 38) 9) (a 1009) (d 1009)
  mt_Web___str__ : Meth K (CTab.ct 0) "__str__" (a 1009)
  bd_Web___str__ : Binds K (d 1009) ["self"] []
  f_Web___repr__ : Fun K "__repr__" "Web.__repr__" (inClass (top 38) 10) (a 1010) (d 1010)
  mt_Web___repr__ : Meth K (CTab.ct 0) "__repr__" (a 1010)
  bd_Web___repr__ : Binds K (d 1010) ["self"] []
  f_Web___eq__ : Fun K "__eq__" "Web.__eq__" (inClass (top 38) 11) (a 1011) (d 1011)
  mt_Web___eq__ : Meth K (CTab.ct 0) "__eq__" (a 1011)
  bd_Web___eq__ : Binds K (d 1011) ["self", "other"] []
  f_Shelf___init__ : Fun K "__init__" "Shelf.__init__" (inClass (top 41) 0) (a 3300) (d 3300)
  bd_Shelf___init__ : Binds K (d 3300) ["self", "name"] []
  f_Shelf_web : Fun K "web" "Shelf.web" (inClass (top 41) 1) (a 3301) (d 3301)
  pr_Shelf_web : ∃ p, PropOf K (CTab.ct 23) "web" p (a 3301)
  bd_Shelf_web : Binds K (d 3301) ["self"] []
  f_Shelf_changes : Fun K "changes" "Shelf.changes" (inClass (top 41) 2) (a 3302) (d 3302)
  pr_Shelf_changes : ∃ p, PropOf K (CTab.ct 23) "changes" p (a 3302)
  bd_Shelf_changes : Binds K (d 3302) ["self"] []
  f_Shelf___bool__ : Fun K "__bool__" "Shelf.__bool__" (inClass (top 41) 3) (a 3303) (d 3303)
  mt_Shelf___bool__ : Meth K (CTab.ct 23) "__bool__" (a 3303)
  bd_Shelf___bool__ : Binds K (d 3303) ["self"] []
  f_Shelf_become : Fun K "become" "Shelf.become" (inClass (top 41) 4) (a 3304) (d 3304)
  mt_Shelf_become : Meth K (CTab.ct 23) "become" (a 3304)
  bd_Shelf_become : Binds K (d 3304) ["self", "web"] []
  f_Shelf_put : Fun K "put" "Shelf.put" (inClass (top 41) 5) (a 3305) (d 3305)
  mt_Shelf_put : Meth K (CTab.ct 23) "put" (a 3305)
  bd_Shelf_put : Binds K (d 3305) ["self", "name", "sources"] []
  f_Shelf_take : Fun K "take" "Shelf.take" (inClass (top 41) 6) (a 3306) (d 3306)
  mt_Shelf_take : Meth K (CTab.ct 23) "take" (a 3306)
  bd_Shelf_take : Binds K (d 3306) ["self", "copy"] []
  f_Shelf_undo : Fun K "undo" "Shelf.undo" (inClass (top 41) 7) (a 3307) (d 3307)
  mt_Shelf_undo : Meth K (CTab.ct 23) "undo" (a 3307)
  bd_Shelf_undo : Binds K (d 3307) ["self"] []
  f_law_purse : Fun K "_law_purse" "_law_purse" (top 43) (a 43) (d 43)
  g_law_purse : mg "_law_purse" = some (.ref (a 43))
  bd_law_purse : Binds K (d 43) ["_law_script", "_law_spot"] []
  f_law_draw : Fun K "_law_draw" "_law_draw" (top 44) (a 44) (d 44)
  g_law_draw : mg "_law_draw" = some (.ref (a 44))
  bd_law_draw : Binds K (d 44) ["_law_purse_here", "_law_many"] []
  f_law_sort : Fun K "_law_sort" "_law_sort" (top 46) (a 46) (d 46)
  g_law_sort : mg "_law_sort" = some (.ref (a 46))
  bd_law_sort : Binds K (d 46) ["_law_e"] []
  f_law_attribute : Fun K "_law_attribute" "_law_attribute" (top 47) (a 47) (d 47)
  g_law_attribute : mg "_law_attribute" = some (.ref (a 47))
  bd_law_attribute : Binds K (d 47) ["_law_e", "_law_word_here"] []
  f_law_shot : Fun K "_law_shot" "_law_shot" (top 48) (a 48) (d 48)
  g_law_shot : mg "_law_shot" = some (.ref (a 48))
  bd_law_shot : Binds K (d 48) ["_law_bench"] []
  f_law_told : Fun K "_law_told" "_law_told" (top 45) (a 45) (d 45)
  g_law_told : mg "_law_told" = some (.ref (a 45))
  bd_law_told : Binds K (d 45) ["_law_job"] []
  f_law_right : Fun K "_law_right" "_law_right" (top 49) (a 49) (d 49)
  g_law_right : mg "_law_right" = some (.ref (a 49))
  bd_law_right : Binds K (d 49) ["_law_purse_here"] []
  f_law : Fun K "law" "law" (top 50) (a 50) (d 50)
  g_law : mg "law" = some (.ref (a 50))
  bd_law : Binds K (d 50) ["_law_script"] []
  cl_Shelf : Cls K (CTab.ct 23)
  n_Shelf_now_kept : NoAttr K (CTab.ct 23) "now_kept"
  n_Shelf_past : NoAttr K (CTab.ct 23) "past"
  mk_Shelf : Mk K (CTab.ct 23) (a 3300)
  g_Shelf : mg "Shelf" = some (.ref (CTab.ct 23))
  cl_Web : Cls K (CTab.ct 0)
  oc_Web : OwnC K (CTab.ct 0)
  n_Web_written : NoAttr K (CTab.ct 0) "written"
  n_Web_rows : NoAttr K (CTab.ct 0) "rows"
  n_Web_heads : NoAttr K (CTab.ct 0) "heads"
  n_Web_pairs : NoAttr K (CTab.ct 0) "pairs"
  n_Web_zigzag_rows : NoAttr K (CTab.ct 0) "zigzag_rows"
  mk_Web : Mk K (CTab.ct 0) (a 1000)
  g_Web : mg "Web" = some (.ref (CTab.ct 0))
  sm : SmB base
  g_InvalidText : mg "InvalidText" = some (.ref (CTab.ct 1))
  g_InvalidNumber : mg "InvalidNumber" = some (.ref (CTab.ct 2))
  g_InvalidName : mg "InvalidName" = some (.ref (CTab.ct 3))
  g_InvalidIndex : mg "InvalidIndex" = some (.ref (CTab.ct 4))
  g_InvalidClaim : mg "InvalidClaim" = some (.ref (CTab.ct 5))
  g_InvalidChoice : mg "InvalidChoice" = some (.ref (CTab.ct 6))
  g_UnknownName : mg "UnknownName" = some (.ref (CTab.ct 7))
  g_NotAWeb : mg "NotAWeb" = some (.ref (CTab.ct 8))
  g_NotAShelf : mg "NotAShelf" = some (.ref (CTab.ct 9))
  g_InvalidSources : mg "InvalidSources" = some (.ref (CTab.ct 10))
  g_InvalidTold : mg "InvalidTold" = some (.ref (CTab.ct 11))
  g_InvalidWeights : mg "InvalidWeights" = some (.ref (CTab.ct 12))
  g_InvalidOffers : mg "InvalidOffers" = some (.ref (CTab.ct 13))
  g_InvalidFreed : mg "InvalidFreed" = some (.ref (CTab.ct 14))
  g_NoChoice : mg "NoChoice" = some (.ref (CTab.ct 15))
  g_TooMany : mg "TooMany" = some (.ref (CTab.ct 16))
  g_FullSource : mg "FullSource" = some (.ref (CTab.ct 17))
  g_Broken : mg "Broken" = some (.ref (CTab.ct 18))
  g_InUse : mg "InUse" = some (.ref (CTab.ct 19))
  g_NothingToUndo : mg "NothingToUndo" = some (.ref (CTab.ct 20))
  g_WrongValue : mg "WrongValue" = some (.ref (CTab.ct 21))
  g_NoAnswer : mg "NoAnswer" = some (.ref (CTab.ct 22))
  xo_InvalidName : OexG K (CTab.ct 3)
  xi_InvalidName : PySem.W.findIn K (.ref (CTab.ct 3)) "__init__" = some (some (.ref (a 1300)))
  xt_InvalidName : PySem.W.typeIn K (.ref (a 1300)) = some (.type "function")
  xn_InvalidName_given : PySem.W.findIn K (.ref (CTab.ct 3)) "given" = some none
  xo_UnknownName : OexG K (CTab.ct 7)
  xi_UnknownName : PySem.W.findIn K (.ref (CTab.ct 7)) "__init__" = some (some (.ref (a 1700)))
  xt_UnknownName : PySem.W.typeIn K (.ref (a 1700)) = some (.type "function")
  xn_UnknownName_given : PySem.W.findIn K (.ref (CTab.ct 7)) "given" = some none
  xo_InvalidSources : OexG K (CTab.ct 10)
  xi_InvalidSources : PySem.W.findIn K (.ref (CTab.ct 10)) "__init__" = some (some (.ref (a 2000)))
  xt_InvalidSources : PySem.W.typeIn K (.ref (a 2000)) = some (.type "function")
  xn_InvalidSources_given : PySem.W.findIn K (.ref (CTab.ct 10)) "given" = some none
  x0_NoChoice : Ex0K K (CTab.ct 15)
  xk_NoChoice : PySem.W.keepIn K (.ref (CTab.ct 15)) = true
  xo_TooMany : OexG K (CTab.ct 16)
  xi_TooMany : PySem.W.findIn K (.ref (CTab.ct 16)) "__init__" = some (some (.ref (a 2600)))
  xt_TooMany : PySem.W.typeIn K (.ref (a 2600)) = some (.type "function")
  xn_TooMany_number : PySem.W.findIn K (.ref (CTab.ct 16)) "number" = some none
  xo_FullSource : OexG K (CTab.ct 17)
  xi_FullSource : PySem.W.findIn K (.ref (CTab.ct 17)) "__init__" = some (some (.ref (a 2700)))
  xt_FullSource : PySem.W.typeIn K (.ref (a 2700)) = some (.type "function")
  xn_FullSource_given : PySem.W.findIn K (.ref (CTab.ct 17)) "given" = some none
  x0_NothingToUndo : Ex0K K (CTab.ct 20)
  xk_NothingToUndo : PySem.W.keepIn K (.ref (CTab.ct 20)) = true
  nf_given : ∀ C, okX C = true → XfC K (CTab.ct C) ∧ PySem.W.findIn K (.ref (CTab.ct C)) "given" = some none
  nf_index : ∀ C, okX C = true → XfC K (CTab.ct C) ∧ PySem.W.findIn K (.ref (CTab.ct C)) "index" = some none
  nf_number : ∀ C, okX C = true → XfC K (CTab.ct C) ∧ PySem.W.findIn K (.ref (CTab.ct C)) "number" = some none
  nf_told : ∀ C, okX C = true → XfC K (CTab.ct C) ∧ PySem.W.findIn K (.ref (CTab.ct C)) "told" = some none
  kt_Broken : ∀ C, okX C = true → ExcC K (CTab.ct C) ∧ PySem.W.kitOne K (.ref (CTab.ct C)) (.ref (CTab.ct 18)) = some (tabX_Broken C)
  kt_FullSource : ∀ C, okX C = true → ExcC K (CTab.ct C) ∧ PySem.W.kitOne K (.ref (CTab.ct C)) (.ref (CTab.ct 17)) = some (tabX_FullSource C)
  kt_InUse : ∀ C, okX C = true → ExcC K (CTab.ct C) ∧ PySem.W.kitOne K (.ref (CTab.ct C)) (.ref (CTab.ct 19)) = some (tabX_InUse C)
  kt_InvalidChoice : ∀ C, okX C = true → ExcC K (CTab.ct C) ∧ PySem.W.kitOne K (.ref (CTab.ct C)) (.ref (CTab.ct 6)) = some (tabX_InvalidChoice C)
  kt_InvalidClaim : ∀ C, okX C = true → ExcC K (CTab.ct C) ∧ PySem.W.kitOne K (.ref (CTab.ct C)) (.ref (CTab.ct 5)) = some (tabX_InvalidClaim C)
  kt_InvalidFreed : ∀ C, okX C = true → ExcC K (CTab.ct C) ∧ PySem.W.kitOne K (.ref (CTab.ct C)) (.ref (CTab.ct 14)) = some (tabX_InvalidFreed C)
  kt_InvalidIndex : ∀ C, okX C = true → ExcC K (CTab.ct C) ∧ PySem.W.kitOne K (.ref (CTab.ct C)) (.ref (CTab.ct 4)) = some (tabX_InvalidIndex C)
  kt_InvalidName : ∀ C, okX C = true → ExcC K (CTab.ct C) ∧ PySem.W.kitOne K (.ref (CTab.ct C)) (.ref (CTab.ct 3)) = some (tabX_InvalidName C)
  kt_InvalidNumber : ∀ C, okX C = true → ExcC K (CTab.ct C) ∧ PySem.W.kitOne K (.ref (CTab.ct C)) (.ref (CTab.ct 2)) = some (tabX_InvalidNumber C)
  kt_InvalidOffers : ∀ C, okX C = true → ExcC K (CTab.ct C) ∧ PySem.W.kitOne K (.ref (CTab.ct C)) (.ref (CTab.ct 13)) = some (tabX_InvalidOffers C)
  kt_InvalidSources : ∀ C, okX C = true → ExcC K (CTab.ct C) ∧ PySem.W.kitOne K (.ref (CTab.ct C)) (.ref (CTab.ct 10)) = some (tabX_InvalidSources C)
  kt_InvalidText : ∀ C, okX C = true → ExcC K (CTab.ct C) ∧ PySem.W.kitOne K (.ref (CTab.ct C)) (.ref (CTab.ct 1)) = some (tabX_InvalidText C)
  kt_InvalidTold : ∀ C, okX C = true → ExcC K (CTab.ct C) ∧ PySem.W.kitOne K (.ref (CTab.ct C)) (.ref (CTab.ct 11)) = some (tabX_InvalidTold C)
  kt_InvalidWeights : ∀ C, okX C = true → ExcC K (CTab.ct C) ∧ PySem.W.kitOne K (.ref (CTab.ct C)) (.ref (CTab.ct 12)) = some (tabX_InvalidWeights C)
  kt_NoAnswer : ∀ C, okX C = true → ExcC K (CTab.ct C) ∧ PySem.W.kitOne K (.ref (CTab.ct C)) (.ref (CTab.ct 22)) = some (tabX_NoAnswer C)
  kt_NoChoice : ∀ C, okX C = true → ExcC K (CTab.ct C) ∧ PySem.W.kitOne K (.ref (CTab.ct C)) (.ref (CTab.ct 15)) = some (tabX_NoChoice C)
  kt_NotAShelf : ∀ C, okX C = true → ExcC K (CTab.ct C) ∧ PySem.W.kitOne K (.ref (CTab.ct C)) (.ref (CTab.ct 9)) = some (tabX_NotAShelf C)
  kt_NotAWeb : ∀ C, okX C = true → ExcC K (CTab.ct C) ∧ PySem.W.kitOne K (.ref (CTab.ct C)) (.ref (CTab.ct 8)) = some (tabX_NotAWeb C)
  kt_NothingToUndo : ∀ C, okX C = true → ExcC K (CTab.ct C) ∧ PySem.W.kitOne K (.ref (CTab.ct C)) (.ref (CTab.ct 20)) = some (tabX_NothingToUndo C)
  kt_TooMany : ∀ C, okX C = true → ExcC K (CTab.ct C) ∧ PySem.W.kitOne K (.ref (CTab.ct C)) (.ref (CTab.ct 16)) = some (tabX_TooMany C)
  kt_UnknownName : ∀ C, okX C = true → ExcC K (CTab.ct C) ∧ PySem.W.kitOne K (.ref (CTab.ct C)) (.ref (CTab.ct 7)) = some (tabX_UnknownName C)
  kt_WrongValue : ∀ C, okX C = true → ExcC K (CTab.ct C) ∧ PySem.W.kitOne K (.ref (CTab.ct C)) (.ref (CTab.ct 21)) = some (tabX_WrongValue C)
  xb_FullSource : PySem.W.subIn K (.ref (CTab.ct 17)) (.type "BaseException") = some true
  xy_FullSource : PySem.W.typeIn K (.ref (CTab.ct 17)) = some (.type "type")
  xb_InvalidName : PySem.W.subIn K (.ref (CTab.ct 3)) (.type "BaseException") = some true
  xy_InvalidName : PySem.W.typeIn K (.ref (CTab.ct 3)) = some (.type "type")
  xb_InvalidSources : PySem.W.subIn K (.ref (CTab.ct 10)) (.type "BaseException") = some true
  xy_InvalidSources : PySem.W.typeIn K (.ref (CTab.ct 10)) = some (.type "type")
  xb_NothingToUndo : PySem.W.subIn K (.ref (CTab.ct 20)) (.type "BaseException") = some true
  xy_NothingToUndo : PySem.W.typeIn K (.ref (CTab.ct 20)) = some (.type "type")
  xb_TooMany : PySem.W.subIn K (.ref (CTab.ct 16)) (.type "BaseException") = some true
  xy_TooMany : PySem.W.typeIn K (.ref (CTab.ct 16)) = some (.type "type")
  xb_UnknownName : PySem.W.subIn K (.ref (CTab.ct 7)) (.type "BaseException") = some true
  xy_UnknownName : PySem.W.typeIn K (.ref (CTab.ct 7)) = some (.type "type")
  hx : ∀ C, okX C = true → PySem.W.exmAny K (.ref (CTab.ct C)) [.ref (CTab.ct 21), .ref (CTab.ct 22)] = some true
  ca_law_right : CodeAt base mg ("_law_right" ++ ".<locals>." ++ "<lambda>") (d 49) (a 50049) (a 60049)
  od_Shelf : OddC K (CTab.ct 23) (CTab.ct 0)
theorem bb_isinstance : bootBuiltins "isinstance" = some (.builtin "isinstance") := by decide +kernel
theorem bb_str : bootBuiltins "str" = some (.type "str") := by decide +kernel
theorem bb_len : bootBuiltins "len" = some (.builtin "len") := by decide +kernel
theorem bb_all : bootBuiltins "all" = some (.builtin "all") := by decide +kernel
theorem bb_tuple : bootBuiltins "tuple" = some (.type "tuple") := by decide +kernel
theorem bb_any : bootBuiltins "any" = some (.builtin "any") := by decide +kernel
theorem bb_int : bootBuiltins "int" = some (.type "int") := by decide +kernel
theorem bb_abs : bootBuiltins "abs" = some (.builtin "abs") := by decide +kernel
theorem bb_divmod : bootBuiltins "divmod" = some (.builtin "divmod") := by decide +kernel
theorem bb_repr : bootBuiltins "repr" = some (.builtin "repr") := by decide +kernel
theorem bb_min : bootBuiltins "min" = some (.builtin "min") := by decide +kernel
theorem bb_max : bootBuiltins "max" = some (.builtin "max") := by decide +kernel
theorem told_s : ToldS (defScope s_law_told) := ⟨⟨rfl, rfl, rfl, by decide +kernel, rfl, by decide +kernel, by decide +kernel⟩, rfl, rfl, rfl, rfl, rfl, rfl, rfl, rfl⟩
theorem told_is : IsTold s_law_told := ⟨_, _, _, _, _, _, _, _, _, _, _, _, _, _, _, _, _, _, _, _, _, _, _, _, _, _, _, _, _, rfl⟩
section
variable {P : Program} {w : World} {K : PySem.W.Frag} {mg : Str → Option Value} {base : Heap} {a : Nat → Addr} {d : Nat → FuncData}
theorem sc_InvalidName___init__ : FnScope ["self", "given"] ["self", "given"] (defScope s_InvalidName___init__) := ⟨rfl, rfl, rfl, by decide +kernel, rfl, by decide +kernel, by decide +kernel⟩
theorem ok_InvalidName___init__ (T : Tx w K mg base a d) : FnOk P w K mg base CX0 1 (a 1300) (d 1300) ["self", "given"] (spI1 (CTab.ct 3) "given") :=
  ok_init1 T.f_InvalidName___init__ sc_InvalidName___init__ T.xo_InvalidName T.xn_InvalidName_given rfl (by decide) (by decide) (Or.inl rfl) (Or.inl rfl) (fun _ => rfl)
theorem sc_UnknownName___init__ : FnScope ["self", "given"] ["self", "given"] (defScope s_UnknownName___init__) := ⟨rfl, rfl, rfl, by decide +kernel, rfl, by decide +kernel, by decide +kernel⟩
theorem ok_UnknownName___init__ (T : Tx w K mg base a d) : FnOk P w K mg base CX0 1 (a 1700) (d 1700) ["self", "given"] (spI1 (CTab.ct 7) "given") :=
  ok_init1 T.f_UnknownName___init__ sc_UnknownName___init__ T.xo_UnknownName T.xn_UnknownName_given rfl (by decide) (by decide) (Or.inl rfl) (Or.inl rfl) (fun _ => rfl)
theorem sc_InvalidSources___init__ : FnScope ["self", "given"] ["self", "given"] (defScope s_InvalidSources___init__) := ⟨rfl, rfl, rfl, by decide +kernel, rfl, by decide +kernel, by decide +kernel⟩
theorem ok_InvalidSources___init__ (T : Tx w K mg base a d) : FnOk P w K mg base CX0 1 (a 2000) (d 2000) ["self", "given"] (spI1 (CTab.ct 10) "given") :=
  ok_init1 T.f_InvalidSources___init__ sc_InvalidSources___init__ T.xo_InvalidSources T.xn_InvalidSources_given rfl (by decide) (by decide) (Or.inl rfl) (Or.inl rfl) (fun _ => rfl)
theorem sc_TooMany___init__ : FnScope ["self", "number"] ["self", "number"] (defScope s_TooMany___init__) := ⟨rfl, rfl, rfl, by decide +kernel, rfl, by decide +kernel, by decide +kernel⟩
theorem ok_TooMany___init__ (T : Tx w K mg base a d) : FnOk P w K mg base CX0 1 (a 2600) (d 2600) ["self", "number"] (spI1 (CTab.ct 16) "number") :=
  ok_init1 T.f_TooMany___init__ sc_TooMany___init__ T.xo_TooMany T.xn_TooMany_number rfl (by decide) (by decide) (Or.inl rfl) (Or.inl rfl) (fun _ => rfl)
theorem sc_FullSource___init__ : FnScope ["self", "given"] ["self", "given"] (defScope s_FullSource___init__) := ⟨rfl, rfl, rfl, by decide +kernel, rfl, by decide +kernel, by decide +kernel⟩
theorem ok_FullSource___init__ (T : Tx w K mg base a d) : FnOk P w K mg base CX0 1 (a 2700) (d 2700) ["self", "given"] (spI1 (CTab.ct 17) "given") :=
  ok_init1 T.f_FullSource___init__ sc_FullSource___init__ T.xo_FullSource T.xn_FullSource_given rfl (by decide) (by decide) (Or.inl rfl) (Or.inl rfl) (fun _ => rfl)
abbrev N_is_name : List Str := ["value", "sign"]
theorem sc_is_name : FnScope N_is_name ["value"] (defScope s_is_name) := ⟨rfl, rfl, rfl, by decide +kernel, rfl, by decide +kernel, by decide +kernel⟩
theorem ok_is_name (T : Tx w K mg base a d) : FnOk P w K mg base CX0 1 (a 26) (d 26) ["value"] (spU (a1 m_is_name)) := by
  refine T.f_is_name.ok sc_is_name (fun vs H Q E h => ?_) (fun cdv A outer s H vs Q E hr h => ?_)
  · obtain ⟨B, p0, vp0, r, rfl, _⟩ := sp1 h
    rfl
  · obtain ⟨B, p0, vp0, r, rfl, sB, rp0, hM, k⟩ := sp1 h
    have nd := sc_is_name.nd
    refine ⟨_, (pss_cons (ps_ret (pe_and (pe_callB (call_isiKK (K := K) rfl) (by rfl) T.b_isinstance bb_isinstance (pa_cons (pv 0) (pa_cons (pe_bltn (v := .ty "str") (by rfl) T.b_str bb_str rfl) pa_nil))) (pe_and (pe_chain op_le op_le pe_int (pe_callB (call_lenK (K := K) rfl) (by rfl) T.b_len bb_len (pa_cons (pv 0) pa_nil)) pe_int) (pe_one (pe_callB (cr_allK (K := K) rfl rfl) (by rfl) T.b_all bb_all (pa_cons (pe_lc (own := [("sign", 1)]) (g := gName 1) (tt := tYes) (by rfl) nd (pi_str (pv 0)) (blkOk_by (own := [("sign", 1)]) (N := N_is_name) (sc := defScope s_is_name) (by decide +kernel)) (fun _ _ _ _ _ => pg_name (i := 1) nd rfl (Or.inl rfl)) (fun _ _ _ _ _ => pts_nil) (fun _ _ _ _ _ => (pe_cmpR (op_inA hr.units) (pv 1) (pe_glob (v := .str "abcdefghijklmnopqrstuvwxyz") (by rfl) T.c_LETTERS.choose_spec ⟨_, rfl⟩) (by rfl)))) pa_nil)))))) pss_nil), ?_⟩
    exact (q_ret (eo_and (eo_isStr (eo_var rfl rp0)) (eo_and (eo_chain rv_le rv_le eo_int (eo_cb' rc_len (ea_cons (eo_var rfl rp0) ea_nil)) eo_int) (eo_cb' rc_all (ea_cons (eo_lc (ei_str (eo_var rfl rp0)) (fun _ => rfl) (fun u4 v5 B2 H3 g1 r6 => et_yes) (fun u4 v5 B2 H3 g1 r6 => (eo_op2 rv_in (eo_var rfl r6) eo_str))) ea_nil)))) hM (Go.refl sB) k)
abbrev N_are_beside : List Str := ["one", "other"]
theorem sc_are_beside : FnScope N_are_beside ["one", "other"] (defScope s_are_beside) := ⟨rfl, rfl, rfl, by decide +kernel, rfl, by decide +kernel, by decide +kernel⟩
theorem ok_are_beside (T : Tx w K mg base a d) : FnOk P w K mg base CX0 1 (a 29) (d 29) ["one", "other"] (spU (a2 m_are_beside)) := by
  refine T.f_are_beside.ok sc_are_beside (fun vs H Q E h => ?_) (fun cdv A outer s H vs Q E hr h => ?_)
  · obtain ⟨B, p0, p1, vp0, vp1, r, rfl, _⟩ := sp2 h
    rfl
  · obtain ⟨B, p0, p1, vp0, vp1, r, rfl, sB, rp0, rp1, hM, k⟩ := sp2 h
    have nd := sc_are_beside.nd
    refine ⟨_, (pss_cons (ps_ret (pe_and (pe_cmpR (op_neU hr.units) (pv 0) (pv 1) (nomark _)) (pe_one (pe_or (pe_cmpR (op_eqU hr.units) (pe_ix (ix_anyK (K := K) rfl hr.units) (pv 0) pe_int (fun _ _ => rfl)) (pe_ix (ix_anyK (K := K) rfl hr.units) (pv 1) pe_int (fun _ _ => rfl)) (nomark _)) (pe_one (pe_cmpR (op_eqU hr.units) (pe_ix (ix_anyK (K := K) rfl hr.units) (pv 0) pe_int (fun _ _ => rfl)) (pe_ix (ix_anyK (K := K) rfl hr.units) (pv 1) pe_int (fun _ _ => rfl)) (nomark _))))))) pss_nil), ?_⟩
    exact (q_ret (eo_and (eo_op2 rv_ne (eo_var rfl rp0) (eo_var rfl rp1)) (eo_or (eo_op2 rv_eq (eo_op2 rv_get (eo_var rfl rp0) eo_int) (eo_op2 rv_get (eo_var rfl rp1) eo_int)) (eo_op2 rv_eq (eo_op2 rv_get (eo_var rfl rp0) eo_int) (eo_op2 rv_get (eo_var rfl rp1) eo_int)))) hM (Go.refl sB) k)
abbrev N_walk_from : List Str := ["lines", "start", "found", "now", "later", "line"]
theorem sc_walk_from : FnScope N_walk_from ["lines", "start"] (defScope s_walk_from) := ⟨rfl, rfl, rfl, by decide +kernel, rfl, by decide +kernel, by decide +kernel⟩
theorem ok_walk_from (T : Tx w K mg base a d) : FnOk P w K mg base CX0 2 (a 30) (d 30) ["lines", "start"] (spU (a2 m_walk_from)) := by
  refine T.f_walk_from.ok sc_walk_from (fun vs H Q E h => ?_) (fun cdv A outer s H vs Q E hr h => ?_)
  · obtain ⟨B, p0, p1, vp0, vp1, r, rfl, _⟩ := sp2 h
    rfl
  · obtain ⟨B, p0, p1, vp0, vp1, r, rfl, sB, rp0, rp1, hM, k⟩ := sp2 h
    have nd := sc_walk_from.nd
    obtain ⟨R, hM2, rfl⟩ := runS_some hM
    clear hM
    have k := fun v B2 H2 ps2 (W : Wh (bsU B H) B2 H2 ps2 R.2) r => k v B2 H2 W.pure r
    refine ⟨_, (pss_cons (ps_asg (pe_tup (pa_cons (pe_lst (pa_cons (pv 1) pa_nil)) (pa_cons (pv 1) pa_nil))) (pg_tupK (K := K) rfl (by rfl) (pgs_cons (pg_name (i := 2) nd rfl (Or.inr rfl)) (pgs_cons (pg_name (i := 3) nd rfl (Or.inr rfl)) pgs_nil)))) (pss_cons (ps_while PassesOwn.never (pt_cmpR op_isNotU (pv 3) pe_non (nomark _)) (pss_cons (ps_lockA (ps_setLc (i := 4) (own := [("line", 5)]) (g := gName 5) (by rfl) nd rfl rfl (sw_true rfl rfl rfl (by decide +kernel)) (pi_anyK (K := K) rfl (pv 0)) (blkOk_by (own := [("line", 5)]) (N := N_walk_from) (sc := defScope s_walk_from) (by decide +kernel)) (fun _ _ _ _ _ => pg_name (i := 5) nd rfl (Or.inl rfl)) (fun _ _ _ _ _ => (pts_one (PW.pt (pw_and (pt_val (pe_call (ok_are_beside T) (hr.mono (by decide)) (by rfl) T.g_are_beside T.f_are_beside.kp T.bd_are_beside .nil pass0 (pa_cons (pv 5) (pa_cons (pv 3) pa_nil)))) (pw_and1 (pt_cmpR (op_notInA hr.units) (pv 5) (pv 2) (by rfl))))))) (fun _ _ _ _ _ => (pv 5)))) (pss_cons (ps_set (i := 3) nd rfl (Or.inr rfl) (pe_ifExp (pt_cmpR (op_neU hr.units) (pv 4) (pe_lst pa_nil) (nomark _)) (pe_ix (ix_anyK (K := K) rfl hr.units) (pv 4) pe_int (fun _ _ => rfl)) pe_non)) (pss_cons (ps_expr (pe_extK (K := K) rfl (pv 2) (pa_cons (pe_slice (sl_anyK (K := K) rfl) (pv 4) po_none (po_some pe_int)) pa_nil))) pss_nil)))) (pss_cons (ps_ret (pv 2)) pss_nil))), ?_⟩
    exact (q_tupNV (wh_pure sB) (en_lst (eas_of (H := H) (ea_cons (eo_var rfl rp1) ea_nil))) (es_of (H := H) (eo_var rfl rp1)) hM2 fun ad16 y17 v18 B10 H11 us12 r19 W13 s14 h15 => (q_withS h15 fun kL20 ekL21 h22 => q_whileS (RR := R) (n := 300) (fun n23 sg24 H26 => ∃ (B25 : Hp) (o27 : Option V) (x28 : U) (v29 : V) (o30 : Option V) (o31 : Option V) (us32 : List U), sg24 = [some vp0, o27, some (.ref ad16), some v29, o30, o31] ∧ Same _ B25 ∧ Rp B25 x28 v29 ∧ Wh (bsU B H) B25 H26 [ad16] us32 ∧ m_walk_from_w1 p0 kL20 n23 x28 us32 = some R) ⟨_, _, y17, _, _, _, _, rfl, Same.refl _, r19, W13, h22⟩ fun m sg0 H0 hR => (by obtain ⟨B39, _, x40, v41, _, _, us37, rfl, s35, r42, W38, h36⟩ := hR; cases m with | zero => exact nomatch h36 | succ k55 => exact ⟨k55, _, _, _, _, _, _, rfl, W38, (ets_of (H := H) (et_test (eo_op2 rv_isNot (eo_var rfl r42) eo_non))), h36, (fun B43 H44 us45 W46 s47 h48 => (q_asgS W46 (es_lockO (j := 0) rfl fun u56 _ _ s57 r58 => (eo_lc (ei_any (eo_var rfl ((((rp0.sm s14).sm s35).sm s47).sm s57))) (fun _ => rfl) (fun u62 v63 B60 H61 g59 r64 => (et_and (et_B (eo_call (ea_cons (eo_var rfl r64) (ea_cons (eo_var rfl (((r42.sm s47).sm s57).upA g59)) ea_nil)))) (et_test (eo_op2 rv_notIn (eo_var rfl r64) (eo_var rfl (r58.upA g59)))))) (fun u62 v63 B60 H61 g59 r64 => (eo_var rfl r64)))) h48 fun x65 v66 B67 H68 us71 W72 s73 r70 h69 => (q_asgS W72 (es_of (H := H) (eo_if (et_test (eo_op2 rv_ne (eo_var rfl r70) (eo_lst ea_nil))) (eo_op2 rv_get (eo_var rfl r70) eo_int) eo_non)) h69 fun x74 v75 B76 H77 us80 W81 s82 r79 h78 => (q_exprS W81 (es_ext (j := 0) rfl rfl (es_of (H := H) (eo_slice (eo_var rfl (r70.sm s82)) ep_no (ep_of eo_int))) lk_of) h78 fun x83 B84 H85 us86 W87 s88 h89 => ⟨_, _, x74, _, _, _, _, rfl, ((((s35.trans s47).trans s73).trans s82).trans s88), (r79.sm s88), W87, h89⟩)))), (fun B49 H50 us51 W52 s53 h54 => (by subst ekL21; exact (q_keepS (j := 0) W52 rfl h54 fun x91 B92 us93 W94 s95 r96 h97 => (q_retS W94 (es_of (H := H) (eo_var rfl r96)) h97 k))))⟩)))
abbrev N_is_closed : List Str := ["row"]
theorem sc_is_closed : FnScope N_is_closed ["row"] (defScope s_is_closed) := ⟨rfl, rfl, rfl, by decide +kernel, rfl, by decide +kernel, by decide +kernel⟩
theorem ok_is_closed (T : Tx w K mg base a d) : FnOk P w K mg base CX0 2 (a 31) (d 31) ["row"] (spU (a1 m_is_closed)) := by
  refine T.f_is_closed.ok sc_is_closed (fun vs H Q E h => ?_) (fun cdv A outer s H vs Q E hr h => ?_)
  · obtain ⟨B, p0, vp0, r, rfl, _⟩ := sp1 h
    rfl
  · obtain ⟨B, p0, vp0, r, rfl, sB, rp0, hM, k⟩ := sp1 h
    have nd := sc_is_closed.nd
    refine ⟨_, (pss_cons (ps_ret (pe_and (pe_cmpR op_gt (pe_callB (call_lenK (K := K) rfl) (by rfl) T.b_len bb_len (pa_cons (pv 0) pa_nil)) pe_int (nomark _)) (pe_one (pe_call (ok_are_beside T) (hr.mono (by decide)) (by rfl) T.g_are_beside T.f_are_beside.kp T.bd_are_beside .nil pass0 (pa_cons (pe_ix (ix_anyK (K := K) rfl hr.units) (pv 0) pe_int (fun _ _ => rfl)) (pa_cons (pe_ix (ix_anyK (K := K) rfl hr.units) (pv 0) (pe_un un_neg pe_int) (fun _ _ => rfl)) pa_nil)))))) pss_nil), ?_⟩
    exact (q_ret (eo_and (eo_op2 rv_gt (eo_cb' rc_len (ea_cons (eo_var rfl rp0) ea_nil)) eo_int) (eo_call (ea_cons (eo_op2 rv_get (eo_var rfl rp0) eo_int) (ea_cons (eo_op2 rv_get (eo_var rfl rp0) (eo_op1 ru_neg eo_int)) ea_nil)))) hM (Go.refl sB) k)
abbrev N_row_of : List Str := ["lines", "first", "row"]
theorem sc_row_of : FnScope N_row_of ["lines", "first"] (defScope s_row_of) := ⟨rfl, rfl, rfl, by decide +kernel, rfl, by decide +kernel, by decide +kernel⟩
theorem ok_row_of (T : Tx w K mg base a d) : FnOk P w K mg base CX0 3 (a 32) (d 32) ["lines", "first"] (spU (a2 m_row_of)) := by
  refine T.f_row_of.ok sc_row_of (fun vs H Q E h => ?_) (fun cdv A outer s H vs Q E hr h => ?_)
  · obtain ⟨B, p0, p1, vp0, vp1, r, rfl, _⟩ := sp2 h
    rfl
  · obtain ⟨B, p0, p1, vp0, vp1, r, rfl, sB, rp0, rp1, hM, k⟩ := sp2 h
    have nd := sc_row_of.nd
    refine ⟨_, (pss_cons (ps_set (i := 2) nd rfl (Or.inl rfl) (pe_call (ok_walk_from T) (hr.mono (by decide)) (by rfl) T.g_walk_from T.f_walk_from.kp T.bd_walk_from .nil pass0 (pa_cons (pv 0) (pa_cons (pv 1) pa_nil)))) (pss_cons (ps_if (pt_val (pe_call (ok_is_closed T) (hr.mono (by decide)) (by rfl) T.g_is_closed T.f_is_closed.kp T.bd_is_closed .nil pass0 (pa_cons (pv 2) pa_nil))) (pss_cons (ps_ret (pe_callTy (call_tupleK (K := K) rfl) (by rfl) T.b_tuple bb_tuple (pa_cons (pv 2) pa_nil))) pss_nil) pss_nil) (pss_cons (ps_set (i := 2) nd rfl (Or.inl rfl) (pe_call (ok_walk_from T) (hr.mono (by decide)) (by rfl) T.g_walk_from T.f_walk_from.kp T.bd_walk_from .nil pass0 (pa_cons (pv 0) (pa_cons (pe_ix (ix_anyK (K := K) rfl hr.units) (pv 2) (pe_un un_neg pe_int) (fun _ _ => rfl)) pa_nil)))) (pss_cons (ps_ret (pe_callTy (call_tupleK (K := K) rfl) (by rfl) T.b_tuple bb_tuple (pa_cons (pe_ifExp (pt_cmpR op_le (pe_tidx hr.units (pv 0) (pa_cons (pe_ix (ix_anyK (K := K) rfl hr.units) (pv 2) pe_int (fun _ _ => rfl)) pa_nil)) (pe_tidx hr.units (pv 0) (pa_cons (pe_ix (ix_anyK (K := K) rfl hr.units) (pv 2) (pe_un un_neg pe_int) (fun _ _ => rfl)) pa_nil)) (nomark _)) (pv 2) (pe_stepK (K := K) rfl (pv 2) (pe_un un_neg pe_int))) pa_nil))) pss_nil)))), ?_⟩
    exact (q_asg sB (eo_call (ea_cons (eo_var rfl rp0) (ea_cons (eo_var rfl rp1) ea_nil))) hM fun x1 v2 B3 H4 g7 r6 h5 => (q_if g7.bh (et_B (eo_call (ea_cons (eo_var rfl r6) ea_nil))) h5 (fun e14 h10 B8 H9 g16 => (q_ret (eo_cb' rc_tuple (ea_cons (eo_var rfl (r6.up g16)) ea_nil)) h10 (((Go.refl sB).trans g7).trans g16) k)) (fun e15 h13 B11 H12 g17 => (tn (q_asg g17.bh (eo_call (ea_cons (eo_var rfl ((rp0.up g7).up g17)) (ea_cons (eo_op2 rv_get (eo_var rfl (r6.up g17)) (eo_op1 ru_neg eo_int)) ea_nil))) h13 fun x18 v19 B20 H21 g24 r23 h22 => (q_ret (eo_cb' rc_tuple (ea_cons (eo_if (et_test (eo_op2 rv_le (eo_tidx (eo_var rfl (((rp0.up g7).up g17).up g24)) (eo_op2 rv_get (eo_var rfl r23) eo_int)) (eo_tidx (eo_var rfl (((rp0.up g7).up g17).up g24)) (eo_op2 rv_get (eo_var rfl r23) (eo_op1 ru_neg eo_int))))) (eo_var rfl r23) (eo_step (eo_var rfl r23) (eo_op1 ru_neg eo_int))) ea_nil)) h22 ((((Go.refl sB).trans g7).trans g17).trans g24) k))))))
abbrev N_rows_in : List Str := ["lines", "found", "met", "line", "row", "other"]
theorem sc_rows_in : FnScope N_rows_in ["lines"] (defScope s_rows_in) := ⟨rfl, rfl, rfl, by decide +kernel, rfl, by decide +kernel, by decide +kernel⟩
theorem ok_rows_in (T : Tx w K mg base a d) : FnOk P w K mg base CX0 4 (a 33) (d 33) ["lines"] (spU (a1 m_rows_in)) := by
  refine T.f_rows_in.ok sc_rows_in (fun vs H Q E h => ?_) (fun cdv A outer s H vs Q E hr h => ?_)
  · obtain ⟨B, p0, vp0, r, rfl, _⟩ := sp1 h
    rfl
  · obtain ⟨B, p0, vp0, r, rfl, sB, rp0, hM, k⟩ := sp1 h
    have nd := sc_rows_in.nd
    obtain ⟨R, hM2, rfl⟩ := runS_some hM
    clear hM
    have k := fun v B2 H2 ps2 (W : Wh (bsU B H) B2 H2 ps2 R.2) r => k v B2 H2 W.pure r
    refine ⟨_, (pss_cons (ps_par (i := 1) (j := 2) (by rfl) nd rfl rfl (by decide) rfl rfl (pa_cons (pe_lst pa_nil) (pa_cons pe_dnewT pa_nil)) (by rfl)) (pss_cons (ps_for PassesOwn.never rfl (pi_anyK (K := K) rfl (pv 0)) (pg_name (i := 3) nd rfl (Or.inl rfl)) (pss_cons (ps_if (pt_lock (pt_cmpR (op_notInA hr.units) (pv 3) (pv 2) (by rfl))) (pss_cons (ps_set (i := 4) nd rfl (Or.inl rfl) (pe_call (ok_row_of T) (hr.mono (by decide)) (by rfl) T.g_row_of T.f_row_of.kp T.bd_row_of .nil pass0 (pa_cons (pv 0) (pa_cons (pv 3) pa_nil)))) (pss_cons (ps_expr (pe_appK (K := K) rfl (pv 1) (pa_cons (pv 4) pa_nil))) (pss_cons (ps_for PassesOwn.never rfl (pi_anyK (K := K) rfl (pv 4)) (pg_name (i := 5) nd rfl (Or.inl rfl)) (pss_cons (ps_dput (by exact Nat.lt_of_le_of_lt (Nat.add_le_add_left (show 1 ≤ 64 by decide) _) hr.units) (pv 2) (pv 5) pe_bl rfl) pss_nil)) pss_nil))) pss_nil) pss_nil)) (pss_cons (ps_ret (pe_callTy (call_tupleK (K := K) rfl) (by rfl) T.b_tuple bb_tuple (pa_cons (pv 1) pa_nil))) pss_nil))), ?_⟩
    exact (q_parNN (wh_pure sB) (en_lst (eas_of (H := H) ea_nil)) en_dnewT hM2 fun ad16 ad17 B10 H11 us12 W13 s14 h15 => (q_withS h15 fun kL18 ekL19 h20 => q_forS W13 (eis_of (H := H) (ei_any (eo_var rfl (rp0.sm s14)))) h20 fun xs21 B22 H23 us25 W26 s27 h24 => ⟨fun l28 sg29 B30 H31 => ∃ (o32 : Option V) (o33 : Option V) (o34 : Option V) (us35 : List U), sg29 = [some vp0, some (.ref ad16), some (.ref ad17), o32, o33, o34] ∧ Same B22 B30 ∧ Wh (bsU B H) B30 H31 [ad16, ad17] us35 ∧ m_rows_in_l1 p0 kL18 l28 us35 = some R, ⟨_, _, _, us25, rfl, Same.refl _, W26, h24⟩, fun _ _ _ _ ⟨_, _, _, _, _, sX, WX, _⟩ => ⟨sX, WX.s⟩, fun u36 l37 v38 sg149 B39 H40 B41 H42 hR g43 r44 => (by obtain ⟨_, _, _, us48, rfl, s46, W49, h47⟩ := hR; exact (q_ifS (W49.go g43) (ets_lockT (j := 1) rfl fun u51 _ _ s52 r53 => (et_test (eo_op2 rv_notIn (eo_var rfl (r44.sm s52)) (eo_var rfl r53)))) h47 (fun B54 H55 us60 W61 s62 h56 => (q_asgS W61 (es_of (H := H) (eo_call (ea_cons (eo_var rfl (((((rp0.sm s14).sm s27).sm s46).up g43).sm s62)) (ea_cons (eo_var rfl (r44.sm s62)) ea_nil)))) h56 fun x66 v67 B68 H69 us72 W73 s74 r71 h70 => (q_exprS W73 (es_app (j := 0) rfl rfl (es_of (H := H) (eo_var rfl r71)) lk_of) h70 fun x75 B76 H77 us78 W79 s80 h81 => (q_withS h81 fun kL82 ekL83 h84 => q_forS W79 (eis_of (H := H) (ei_any (eo_var rfl (r71.sm s80)))) h84 fun xs85 B86 H87 us89 W90 s91 h88 => ⟨fun l92 sg93 B94 H95 => ∃ (o96 : Option V) (o97 : Option V) (o98 : Option V) (us99 : List U), sg93 = [some vp0, some (.ref ad16), some (.ref ad17), o96, o97, o98] ∧ Same B86 B94 ∧ Wh (bsU B H) B94 H95 [ad16, ad17] us99 ∧ m_rows_in_l2 p0 kL82 l92 us99 = some R, ⟨_, _, _, us89, rfl, Same.refl _, W90, h88⟩, fun _ _ _ _ ⟨_, _, _, _, _, sX, WX, _⟩ => ⟨sX, WX.s⟩, fun u100 l101 v102 sg132 B103 H104 B105 H106 hR g107 r108 => (by obtain ⟨_, _, _, us112, rfl, s110, W113, h111⟩ := hR; exact (q_dput (jj := 1) (W113.go g107) rfl rfl (es_of (H := H) eo_bl) (es_of (H := H) (eo_var rfl r108)) h111 fun B115 H116 us117 W118 s119 h120 => ⟨_, _, _, _, _, rfl, ((s110.trans g107.b).trans s119), W118, h120⟩)), fun sg128 B129 H130 hR => (by obtain ⟨_, _, _, us126, rfl, s124, W127, h125⟩ := hR; have h131 : kL82 us126 = some R := h125; subst ekL83; exact (tn ⟨_, _, _, _, _, rfl, ((((((s46.trans g43.b).trans s62).trans s74).trans s80).trans s91).trans s124), W127, h131⟩))⟩)))) (fun B57 H58 us63 W64 s65 h59 => (tn ⟨_, _, _, _, _, rfl, ((s46.trans g43.b).trans s65), W64, h59⟩)))), fun sg138 B139 H140 hR => (by obtain ⟨_, _, _, us136, rfl, s134, W137, h135⟩ := hR; have h141 : kL18 us136 = some R := h135; subst ekL19; exact (q_keepS (j := 0) W137 rfl h141 fun x142 B143 us144 W145 s146 r147 h148 => (q_retS W145 (es_of (H := H) (eo_cb' rc_tuple (ea_cons (eo_var rfl r147) ea_nil))) h148 k)))⟩))
abbrev N_are_sources : List Str := ["values", "names", "value"]
theorem sc_are_sources : FnScope N_are_sources ["values", "names"] (defScope s_are_sources) := ⟨rfl, rfl, rfl, by decide +kernel, rfl, by decide +kernel, by decide +kernel⟩
theorem ok_are_sources (T : Tx w K mg base a d) : FnOk P w K mg base CX0 1 (a 35) (d 35) ["values", "names"] (spU (a2 m_are_sources)) := by
  refine T.f_are_sources.ok sc_are_sources (fun vs H Q E h => ?_) (fun cdv A outer s H vs Q E hr h => ?_)
  · obtain ⟨B, p0, p1, vp0, vp1, r, rfl, _⟩ := sp2 h
    rfl
  · obtain ⟨B, p0, p1, vp0, vp1, r, rfl, sB, rp0, rp1, hM, k⟩ := sp2 h
    have nd := sc_are_sources.nd
    refine ⟨_, (pss_cons (ps_if (PW.pt (pw_or (pt_not (pt_chain op_le op_le pe_int (pe_callB (call_lenK (K := K) rfl) (by rfl) T.b_len bb_len (pa_cons (pv 0) pa_nil)) pe_int)) (pw_or1 (pt_not (pt_val (pe_callB (cr_allK (K := K) rfl rfl) (by rfl) T.b_all bb_all (pa_cons (pe_lc (own := [("value", 2)]) (g := gName 2) (tt := tYes) (by rfl) nd (pi_anyK (K := K) rfl (pv 0)) (blkOk_by (own := [("value", 2)]) (N := N_are_sources) (sc := defScope s_are_sources) (by decide +kernel)) (fun _ _ _ _ _ => pg_name (i := 2) nd rfl (Or.inl rfl)) (fun _ _ _ _ _ => pts_nil) (fun _ _ _ _ _ => (pe_and (pe_callB (call_isiKK (K := K) rfl) (by rfl) T.b_isinstance bb_isinstance (pa_cons (pv 2) (pa_cons (pe_bltn (v := .ty "str") (by rfl) T.b_str bb_str rfl) pa_nil))) (pe_one (pe_cmpR (op_inA hr.units) (pv 2) (pv 1) (by rfl)))))) pa_nil))))))) (pss_cons (ps_ret pe_bl) pss_nil) pss_nil) (pss_cons (ps_ret (pe_cmpR (op_eqU hr.units) (pe_lenS (K := K) rfl rfl (by rfl) T.b_len (by rfl) T.b_set (pv 0)) (pe_callB (call_lenK (K := K) rfl) (by rfl) T.b_len bb_len (pa_cons (pv 0) pa_nil)) (nomark _))) pss_nil)), ?_⟩
    exact (q_if sB (et_or (et_not (et_test (eo_chain rv_le rv_le eo_int (eo_cb' rc_len (ea_cons (eo_var rfl rp0) ea_nil)) eo_int))) (et_not (et_B (eo_cb' rc_all (ea_cons (eo_lc (ei_any (eo_var rfl rp0)) (fun _ => rfl) (fun u4 v5 B2 H3 g1 r6 => et_yes) (fun u4 v5 B2 H3 g1 r6 => (eo_and (eo_isStr (eo_var rfl r6)) (eo_op2 rv_in (eo_var rfl r6) (eo_var rfl (rp1.upA g1)))))) ea_nil))))) hM (fun e13 h9 B7 H8 g15 => (q_ret eo_bl h9 ((Go.refl sB).trans g15) k)) (fun e14 h12 B10 H11 g16 => (tn (q_ret (eo_op2 rv_eq (eo_lenS (eo_var rfl (rp0.up g16))) (eo_cb' rc_len (ea_cons (eo_var rfl (rp0.up g16)) ea_nil))) h12 ((Go.refl sB).trans g16) k))))
abbrev N_web_in : List Str := ["text", "found", "part", "words", "used", "sources", "source", "name"]
theorem sc_web_in : FnScope N_web_in ["text"] (defScope s_web_in) := ⟨rfl, rfl, rfl, by decide +kernel, rfl, by decide +kernel, by decide +kernel⟩
theorem ok_web_in (T : Tx w K mg base a d) : FnOk P w K mg base CX0 2 (a 36) (d 36) ["text"] (spU (a1 m_web_in)) := by
  refine T.f_web_in.ok sc_web_in (fun vs H Q E h => ?_) (fun cdv A outer s H vs Q E hr h => ?_)
  · obtain ⟨B, p0, vp0, r, rfl, _⟩ := sp1 h
    rfl
  · obtain ⟨B, p0, vp0, r, rfl, sB, rp0, hM, k⟩ := sp1 h
    have nd := sc_web_in.nd
    obtain ⟨R, hM2, rfl⟩ := runS_some hM
    clear hM
    have k := fun v B2 H2 ps2 (W : Wh (bsU B H) B2 H2 ps2 R.2) r => k v B2 H2 W.pure r
    refine ⟨_, (pss_cons (ps_if (pt_not (pt_val (pe_callB (call_isiKK (K := K) rfl) (by rfl) T.b_isinstance bb_isinstance (pa_cons (pv 0) (pa_cons (pe_bltn (v := .ty "str") (by rfl) T.b_str bb_str rfl) pa_nil))))) (pss_cons (ps_ret pe_non) pss_nil) pss_nil) (pss_cons (ps_set (i := 1) nd rfl (Or.inl rfl) pe_dnewK) (pss_cons (ps_for PassesOwn.never rfl (pi_anyK (K := K) rfl (pe_split (pv 0) pe_str)) (pg_name (i := 2) nd rfl (Or.inl rfl)) (pss_cons (ps_set (i := 3) nd rfl (Or.inl rfl) (pe_split (pv 2) pe_str)) (pss_cons (ps_if (PW.pt (pw_or (pt_not (pt_val (pe_call (ok_is_name T) (hr.mono (by decide)) (by rfl) T.g_is_name T.f_is_name.kp T.bd_is_name .nil pass0 (pa_cons (pe_ix (ix_anyK (K := K) rfl hr.units) (pv 3) pe_int (fun _ _ => rfl)) pa_nil)))) (pw_or1 (pt_lock (pt_cmpR (op_inA hr.units) (pe_ix (ix_anyK (K := K) rfl hr.units) (pv 3) pe_int (fun _ _ => rfl)) (pv 1) (by rfl)))))) (pss_cons (ps_ret pe_non) pss_nil) pss_nil) (pss_cons (ps_if (PW.pt (pw_or (PW.pt (pw_and (pt_lock (pt_cmpR (op_emp hr.units) (pv 1) pe_dnewK (nomark _))) (pw_and1 (pt_cmpR op_gt (pe_callB (call_lenK (K := K) rfl) (by rfl) T.b_len bb_len (pa_cons (pv 3) pa_nil)) pe_int (nomark _))))) (pw_or1 (PW.pt (pw_and (pt_lock (pt_cmpR (op_nemp hr.units) (pv 1) pe_dnewK (nomark _))) (pw_and1 (pt_not (pt_lock (pt_val (pe_call (ok_are_sources T) (hr.mono (by decide)) (by rfl) T.g_are_sources T.f_are_sources.kp T.bd_are_sources .nil pass0 (pa_cons (pe_slice (sl_anyK (K := K) rfl) (pv 3) (po_some pe_int) po_none) (pa_cons (pv 1) pa_nil)))))))))))) (pss_cons (ps_ret pe_non) pss_nil) pss_nil) (pss_cons (ps_dput (by exact Nat.lt_of_le_of_lt (Nat.add_le_add_left (show 1 ≤ 64 by decide) _) hr.units) (pv 1) (pe_ix (ix_anyK (K := K) rfl hr.units) (pv 3) pe_int (fun _ _ => rfl)) (pe_callTy (call_tupleK (K := K) rfl) (by rfl) T.b_tuple bb_tuple (pa_cons (pe_slice (sl_anyK (K := K) rfl) (pv 3) (po_some pe_int) po_none) pa_nil)) rfl) pss_nil))))) (pss_cons (ps_lockA (ps_set (i := 4) nd rfl (Or.inr rfl) (pe_lc2 (own := [("sources", 5), ("source", 6)]) (vs1 := [6]) (g := gName 5) (g1 := gName 6) (by rfl) nd (pi_values (pv 1)) (blkOk_by (own := [("sources", 5), ("source", 6)]) (N := N_web_in) (sc := defScope s_web_in) (by decide +kernel)) (by decide) (fun _ _ _ _ _ => pg_name (i := 5) nd rfl (Or.inl rfl)) (fun _ _ _ _ _ => pts_nil) (fun _ _ _ _ _ => (pi_anyK (K := K) rfl (pv 5))) (fun _ _ _ _ _ => pg_name (i := 6) nd rfl (Or.inl rfl)) (fun _ _ _ _ _ => pts_nil) (fun _ _ _ _ _ => (pv 6))))) (pss_cons (ps_if (PW.pt (pw_or (pt_cmpR op_gt (pe_lock (pe_callB (call_lenK (K := K) rfl) (by rfl) T.b_len bb_len (pa_cons (pv 1) pa_nil))) (pe_glob (v := .int 40) (by rfl) T.c_MOST_COPIES.choose_spec ⟨_, rfl⟩) (nomark _)) (pw_or1 (pt_val (pe_callB (cr_anyK (K := K) rfl rfl) (by rfl) T.b_any bb_any (pa_cons (pe_lock (pe_lc (own := [("name", 7)]) (g := gName 7) (tt := tYes) (by rfl) nd (pi_anyK (K := K) rfl (pv 1)) (blkOk_by (own := [("name", 7)]) (N := N_web_in) (sc := defScope s_web_in) (by decide +kernel)) (fun _ _ _ _ _ => pg_name (i := 7) nd rfl (Or.inl rfl)) (fun _ _ _ _ _ => pts_nil) (fun _ _ _ _ _ => (pe_cmpR op_gt (pe_countK (K := K) rfl (pv 4) (pa_cons (pv 7) pa_nil)) pe_int (nomark _))))) pa_nil)))))) (pss_cons (ps_ret pe_non) pss_nil) pss_nil) (pss_cons (ps_ret (pe_lock (pe_tupItems rfl (pv 1) (by rfl) T.b_tuple bb_tuple))) pss_nil)))))), ?_⟩
    exact (q_ifS (wh_pure sB) (ets_of (H := H) (et_not (et_B (eo_isStr (eo_var rfl rp0))))) hM2 (fun B1 H2 us7 W8 s9 h3 => (q_retS W8 (es_of (H := H) eo_non) h3 k)) (fun B4 H5 us10 W11 s12 h6 => (tn (q_newS W11 en_dnewK h6 fun ad13 B14 H15 us16 W17 s18 h19 => (q_withS h19 fun kL20 ekL21 h22 => q_forS W17 (eis_of (H := H) (ei_any (eo_split (eo_var rfl ((rp0.sm s12).sm s18)) eo_str))) h22 fun xs23 B24 H25 us27 W28 s29 h26 => ⟨fun l30 sg31 B32 H33 => ∃ (o34 : Option V) (o35 : Option V) (o36 : Option V) (o37 : Option V) (o38 : Option V) (o39 : Option V) (o40 : Option V) (us41 : List U), sg31 = [o34, some (.ref ad13), o35, o36, o37, o38, o39, o40] ∧ Same B24 B32 ∧ Wh (bsU B H) B32 H33 [ad13] us41 ∧ m_web_in_l1 kL20 l30 us41 = some R, ⟨_, _, _, _, _, _, _, us27, rfl, Same.refl _, W28, h26⟩, fun _ _ _ _ ⟨_, _, _, _, _, _, _, _, _, sX, WX, _⟩ => ⟨sX, WX.s⟩, fun u42 l43 v44 sg167 B45 H46 B47 H48 hR g49 r50 => (by obtain ⟨_, _, _, _, _, _, _, us54, rfl, s52, W55, h53⟩ := hR; exact (q_asgS (W55.go g49) (es_of (H := H) (eo_split (eo_var rfl r50) eo_str)) h53 fun x57 v58 B59 H60 us63 W64 s65 r62 h61 => (q_ifS W64 (ets_or (ets_of (H := H) (et_not (et_B (eo_call (ea_cons (eo_op2 rv_get (eo_var rfl r62) eo_int) ea_nil))))) (ets_lockT (j := 0) rfl fun u66 _ _ s67 r68 => (et_test (eo_op2 rv_in (eo_op2 rv_get (eo_var rfl (r62.sm s67)) eo_int) (eo_var rfl r68))))) h61 (fun B69 H70 us75 W76 s77 h71 => (q_retS W76 (es_of (H := H) eo_non) h71 k)) (fun B72 H73 us78 W79 s80 h74 => (tn (q_ifS W79 (ets_or (ets_and (ets_lockT (j := 0) rfl fun u81 _ _ s82 r83 => (et_test (eo_emp (eo_var rfl r83)))) (ets_of (H := H) (et_test (eo_op2 rv_gt (eo_cb' rc_len (ea_cons (eo_var rfl (r62.sm s80)) ea_nil)) eo_int)))) (ets_and (ets_lockT (j := 0) rfl fun u84 _ _ s85 r86 => (et_test (eo_emp (eo_var rfl r86)))) (ets_not (ets_lockT (j := 0) rfl fun u87 _ _ s88 r89 => (et_B (eo_call (ea_cons (eo_slice (eo_var rfl ((r62.sm s80).sm s88)) (ep_of eo_int) ep_no) (ea_cons (eo_var rfl r89) ea_nil)))))))) h74 (fun B90 H91 us96 W97 s98 h92 => (q_retS W97 (es_of (H := H) eo_non) h92 k)) (fun B93 H94 us99 W100 s101 h95 => (tn (q_dput (jj := 0) W100 rfl rfl (es_of (H := H) (eo_cb' rc_tuple (ea_cons (eo_slice (eo_var rfl ((r62.sm s80).sm s101)) (ep_of eo_int) ep_no) ea_nil))) (es_of (H := H) (eo_op2 rv_get (eo_var rfl ((r62.sm s80).sm s101)) eo_int)) h95 fun B102 H103 us104 W105 s106 h107 => ⟨_, _, _, _, _, _, _, _, _, rfl, (((((s52.trans g49.b).trans s65).trans s80).trans s101).trans s106), W105, h107⟩))))))))), fun sg115 B116 H117 hR => (by obtain ⟨_, _, _, _, _, _, _, us113, rfl, s111, W114, h112⟩ := hR; have h118 : kL20 us113 = some R := h112; subst ekL21; exact (q_asgS W114 (es_lockO (j := 0) rfl fun u119 _ _ s120 r121 => (eo_lc2 (ei_vals (eo_var rfl r121)) (fun _ => rfl) (fun _ _ => rfl) (fun u125 v126 B123 H124 g122 r127 => et_yes) (fun u125 v126 B123 H124 g122 r127 => (ei_any (eo_var rfl r127))) (fun u125 v126 u128 v129 B123 H124 g122 r127 r130 => et_yes) (fun u125 v126 u128 v129 B123 H124 g122 r127 r130 => (eo_var rfl r130)))) h118 fun x131 v132 B133 H134 us137 W138 s139 r136 h135 => (q_ifS W138 (ets_or (ets_test (es_op2 rv_gt (es_lockO (j := 0) rfl fun u140 _ _ s141 r142 => (eo_cb' rc_len (ea_cons (eo_var rfl r142) ea_nil))) (es_of (H := H) eo_int))) (ets_B (es_cb rc_any (eas_cons (es_lockO (j := 0) rfl fun u143 _ _ s144 r145 => (eo_lc (ei_any (eo_var rfl r145)) (fun _ => rfl) (fun u149 v150 B147 H148 g146 r151 => et_yes) (fun u149 v150 B147 H148 g146 r151 => (eo_op2 rv_gt (eo_count (eo_var rfl ((r136.sm s144).upA g146)) (eo_var rfl r151)) eo_int)))) eas_nil)))) h135 (fun B152 H153 us158 W159 s160 h154 => (q_retS W159 (es_of (H := H) eo_non) h154 k)) (fun B155 H156 us161 W162 s163 h157 => (tn (q_retS W162 (es_lockO (j := 0) rfl fun u164 _ _ s165 r166 => (eo_tupItems (eo_var rfl r166))) h157 k))))))⟩)))))
abbrev N_Web___init__ : List Str := ["self", "text", "found", "name", "sources", "source"]
theorem sc_Web_init : FnScope N_Web___init__ ["self", "text"] (defScope s_Web___init__) := ⟨rfl, rfl, rfl, by decide +kernel, rfl, by decide +kernel, by decide +kernel⟩
theorem ok_Web_init (T : Tx w K mg base a d) : FnOk P w K mg base CX0 5 (a 1000) (d 1000) ["self", "text"] (spMk 0 m_Web_init) := by
  refine T.f_Web___init__.ok sc_Web_init (fun vs H Q E h => ?_) (fun cdv A outer s H vs Q E hr h => ?_)
  · obtain ⟨B, x, dx, v, p0, fs, _, rfl, _⟩ := h
    rfl
  · obtain ⟨B, x, dx, v, p0, fs, sB, rfl, M, rt, hM, k⟩ := h
    have nd := sc_Web_init.nd
    obtain ⟨found, e1, hM⟩ := bind_some hM
    obtain ⟨no, e2, hM⟩ := bind_some hM
    cases no with
    | true => cases hM
    | false =>
      obtain ⟨heads, e4, hM⟩ := bind_some (show ((callO (c1 tupleV) (consO (compO2 (fun u4 u7 => (some true)) (fun u4 u7 => (some u4)) (iterO U.iter (some found))) (some [])))).bind _ = some fs from hM)
      obtain ⟨prs, e5, hM⟩ := bind_some hM
      split at hM
      · rename_i ps
        obtain ⟨rows, e6, hM⟩ := map_some hM
        subst hM
        refine ⟨_, (pss_cons (ps_set (i := 2) nd rfl (Or.inl rfl) (pe_call (ok_web_in T) (hr.mono (by decide)) (by rfl) T.g_web_in T.f_web_in.kp T.bd_web_in .nil pass0 (pa_cons (pv 1) pa_nil))) (pss_cons (ps_if (pt_cmpR op_isU (pv 2) pe_non (nomark _)) (pss_cons ps_never pss_nil) pss_nil) (pss_cons (ps_fld (pv 0) (pv 1) rfl) (pss_cons (ps_fld (pv 0) (pv 2) rfl) (pss_cons (ps_fld (pv 0) (pe_callTy (call_tupleK (K := K) rfl) (by rfl) T.b_tuple bb_tuple (pa_cons (pe_lc (own := [("name", 3), ("sources", 4)]) (g := gTup K 2 (gCons (gName 3) (gCons (gName 4) gNil))) (tt := tYes) (by rfl) nd (pi_anyK (K := K) rfl (pv 2)) (blkOk_by (own := [("name", 3), ("sources", 4)]) (N := N_Web___init__) (sc := defScope s_Web___init__) (by decide +kernel)) (fun _ _ _ _ _ => pg_tupK (K := K) rfl (by rfl) (pgs_cons (pg_name (i := 3) nd rfl (Or.inl rfl)) (pgs_cons (pg_name (i := 4) nd rfl (Or.inl rfl)) pgs_nil))) (fun _ _ _ _ _ => pts_nil) (fun _ _ _ _ _ => (pv 3))) pa_nil)) rfl) (pss_cons (ps_fld (pv 0) (pe_callTy (call_tupF (K := K) rfl) (by rfl) T.b_tuple bb_tuple (pa_cons (pe_lc2 (own := [("name", 3), ("sources", 4), ("source", 5)]) (vs1 := [5]) (g := gTup K 2 (gCons (gName 3) (gCons (gName 4) gNil))) (g1 := gName 5) (by rfl) nd (pi_anyK (K := K) rfl (pv 2)) (blkOk_by (own := [("name", 3), ("sources", 4), ("source", 5)]) (N := N_Web___init__) (sc := defScope s_Web___init__) (by decide +kernel)) (by decide) (fun _ _ _ _ _ => pg_tupK (K := K) rfl (by rfl) (pgs_cons (pg_name (i := 3) nd rfl (Or.inl rfl)) (pgs_cons (pg_name (i := 4) nd rfl (Or.inl rfl)) pgs_nil))) (fun _ _ _ _ _ => pts_nil) (fun _ _ _ _ _ => (pi_anyK (K := K) rfl (pv 4))) (fun _ _ _ _ _ => pg_name (i := 5) nd rfl (Or.inl rfl)) (fun _ _ _ _ _ => pts_nil) (fun _ _ _ _ _ => (pe_tup (pa_cons (pv 5) (pa_cons (pv 3) pa_nil))))) pa_nil)) rfl) (pss_cons (ps_fld (pv 0) (pe_call (ok_rows_in T) (hr.mono (by decide)) (by rfl) T.g_rows_in T.f_rows_in.kp T.bd_rows_in .nil pass0 (pa_cons (pe_fldK (K := K) rfl (pv 0)) pa_nil)) rfl) pss_nil))))))), ?_⟩
        refine webInit_reads (found := found) (heads := heads) (prs := ps) (rows := rows) T.cl_Web T.n_Web_written T.n_Web_rows T.n_Web_heads T.n_Web_pairs T.n_Web_zigzag_rows sB M rt ?_ ?_ ?_ ?_ e6 k
        · rw [← e1]; exact (eo_call (ea_cons (eo_var rfl rt) ea_nil))
        · intro vf B1 H1 sQ rf
          have rt := rt.kp (Kp.of sQ)
          rw [← e2]; exact (et_test (eo_op2 rv_is (eo_var rfl rf) eo_non))
        · intro vf B1 H1 sQ rf
          have rt := rt.kp (Kp.of sQ)
          rw [← e4]; exact (eo_cb' rc_tuple (ea_cons (eo_lc2n (ei_any (eo_var rfl rf)) (fun _ _ => rfl) (fun u4 u7 v5 v8 B2 H3 g1 r6 r9 => et_yes) (fun u4 u7 v5 v8 B2 H3 g1 r6 r9 => (eo_var rfl r6))) ea_nil))
        · intro vf B1 H1 sQ rf
          have rt := rt.kp (Kp.of sQ)
          rw [← e5]; exact (eo_cb' rc_tpd (ea_cons (eo_lc2t (p := fun u13 u16 => (some true)) (ys := fun u13 u16 => (iterO U.iter (some u16))) (p1 := (fun u13 u16 u19 => (some true))) (f := (fun u13 u16 u19 => (tupO (consO (some u19) (consO (some u13) (some [])))))) (ei_any (eo_var rfl rf)) (fun _ _ => rfl) (fun _ _ _ => rfl) (fun u13 u16 v14 v17 B11 H12 g10 r15 r18 => et_yes) (fun u13 u16 v14 v17 B11 H12 g10 r15 r18 => (ei_any (eo_var rfl r18))) (fun u13 u16 v14 v17 u19 v20 B11 H12 g10 r15 r18 r21 => et_yes) (fun u13 u16 v14 v17 u19 v20 B11 H12 g10 r15 r18 r21 => (eo_tup (ea_cons (eo_var rfl r21) (ea_cons (eo_var rfl r15) ea_nil))))) ea_nil))
      · cases hM
abbrev N_web_text : List Str := ["rows", "name", "sources"]
theorem sc_web_text : FnScope N_web_text ["rows"] (defScope s_web_text) := ⟨rfl, rfl, rfl, by decide +kernel, rfl, by decide +kernel, by decide +kernel⟩
theorem ok_web_text (T : Tx w K mg base a d) : FnOk P w K mg base CX0 1 (a 37) (d 37) ["rows"] (spU (a1 m_web_text)) := by
  refine T.f_web_text.ok sc_web_text (fun vs H Q E h => ?_) (fun cdv A outer s H vs Q E hr h => ?_)
  · obtain ⟨B, p0, vp0, r, rfl, _⟩ := sp1 h
    rfl
  · obtain ⟨B, p0, vp0, r, rfl, sB, rp0, hM, k⟩ := sp1 h
    have nd := sc_web_text.nd
    refine ⟨_, (pss_cons (ps_ret (pe_joinK (K := K) rfl pe_str (pe_lc (own := [("name", 1), ("sources", 2)]) (g := gTup K 2 (gCons (gName 1) (gCons (gName 2) gNil))) (tt := tYes) (by rfl) nd (pi_anyK (K := K) rfl (pv 0)) (blkOk_by (own := [("name", 1), ("sources", 2)]) (N := N_web_text) (sc := defScope s_web_text) (by decide +kernel)) (fun _ _ _ _ _ => pg_tupK (K := K) rfl (by rfl) (pgs_cons (pg_name (i := 1) nd rfl (Or.inl rfl)) (pgs_cons (pg_name (i := 2) nd rfl (Or.inl rfl)) pgs_nil))) (fun _ _ _ _ _ => pts_nil) (fun _ _ _ _ _ => (pe_joinK (K := K) rfl pe_str (pe_lst (pa_cons (pv 1) (pa_starK (K := K) rfl (pv 2) pa_nil)))))))) pss_nil), ?_⟩
    exact (q_ret (eo_join eo_str (eo_lc2n (ei_any (eo_var rfl rp0)) (fun _ _ => rfl) (fun u4 u7 v5 v8 B2 H3 g1 r6 r9 => et_yes) (fun u4 u7 v5 v8 B2 H3 g1 r6 r9 => (eo_join eo_str (eo_lst (ea_cons (eo_var rfl r6) (ea_star (eo_var rfl r9) ea_nil))))))) hM (Go.refl sB) k)
abbrev N_check_copy : List Str := ["web", "copy"]
theorem sc_check_copy : FnScope N_check_copy ["web", "copy"] (defScope s_check_copy) := ⟨rfl, rfl, rfl, by decide +kernel, rfl, by decide +kernel, by decide +kernel⟩
theorem ok_check_copy (T : Tx w K mg base a d) : FnOk P w K mg base CX0 1 (a 39) (d 39) ["web", "copy"] (spU (a2 m_check_copy)) := by
  refine T.f_check_copy.ok sc_check_copy (fun vs H Q E h => ?_) (fun cdv A outer s H vs Q E hr h => ?_)
  · obtain ⟨B, p0, p1, vp0, vp1, r, rfl, _⟩ := sp2 h
    rfl
  · obtain ⟨B, p0, p1, vp0, vp1, r, rfl, sB, rp0, rp1, hM, k⟩ := sp2 h
    have nd := sc_check_copy.nd
    refine ⟨_, (pss_cons (ps_if (PW.pt (pw_or (pt_not (pt_val (pe_callB (call_isiKK (K := K) rfl) (by rfl) T.b_isinstance bb_isinstance (pa_cons (pv 1) (pa_cons (pe_bltn (v := .ty "str") (by rfl) T.b_str bb_str rfl) pa_nil))))) (pw_or1 (pt_cmpR (op_notInA hr.units) (pv 1) (pe_fldK (K := K) rfl (pv 0)) (by rfl))))) (pss_cons ps_never pss_nil) pss_nil) pss_nil), ?_⟩
    exact (q_if sB (et_or (et_not (et_B (eo_isStr (eo_var rfl rp1)))) (et_test (eo_op2 rv_notIn (eo_var rfl rp1) (eo_fld T.cl_Web T.n_Web_heads (eo_var rfl rp0))))) hM (fun e7 h3 B1 H2 g9 => (nomatch h3)) (fun e8 h6 B4 H5 g10 => (tn (q_fall h6 ((Go.refl sB).trans g10) k))))
theorem okx_check_copy (T : Tx w K mg base a d) : FnOk P w K mg base (L2.CX P w) 3 (a 39) (d 39) ["web", "copy"] (spE (a2 x_check_copy)) := by
  refine Dn.Fun.okX T.f_check_copy sc_check_copy (fun vs H Q E h => ?_) (fun cdv A outer s H vs Q E hr h => ?_)
  · obtain ⟨B, p0, p1, vp0, vp1, r, rfl, _⟩ := se2 h
    rfl
  · obtain ⟨B, p0, p1, vp0, vp1, r, rfl, sB, rp0, rp1, hM, k, ke⟩ := se2 h
    have nd := sc_check_copy.nd
    refine ⟨_, (pss_cons (ps_if (PW.pt (pw_or (pt_not (pt_val (pe_callB (call_isiKK (K := K) rfl) (by rfl) T.b_isinstance bb_isinstance (pa_cons (pv 1) (pa_cons (pe_bltn (v := .ty "str") (by rfl) T.b_str bb_str rfl) pa_nil))))) (pw_or1 (pt_cmpR (op_notInA hr.units) (pv 1) (pe_fldK (K := K) rfl (pv 0)) (by rfl))))) (pss_cons (ps_raiseX (pmk_excX T.xo_UnknownName (raises_own T.xb_UnknownName T.xy_UnknownName) T.xi_UnknownName T.xt_UnknownName (ok_UnknownName___init__ T) (hr.mono (by decide)) T.bd_UnknownName___init__ pass0 (by rfl) T.g_UnknownName (pa_cons (pv 1) pa_nil))) pss_nil) pss_nil) pss_nil), ?_⟩
    exact (q_if sB (et_or (et_not (et_B (eo_isStr (eo_var rfl rp1)))) (et_test (eo_op2 rv_notIn (eo_var rfl rp1) (eo_fld T.cl_Web T.n_Web_heads (eo_var rfl rp0))))) hM (fun e7 h3 B1 H2 g9 => (q_raise1 (ea_cons (eo_var rfl (rp1.up g9)) ea_nil) h3 ((Go.refl sB).trans g9) ke)) (fun e8 h6 B4 H5 g10 => (tn (q_fall h6 ((Go.refl sB).trans g10) k))))
abbrev N_Web_text : List Str := ["self"]
theorem sc_Web_text : FnScope N_Web_text ["self"] (defScope s_Web_text) := ⟨rfl, rfl, rfl, by decide +kernel, rfl, by decide +kernel, by decide +kernel⟩
theorem ok_Web_text (T : Tx w K mg base a d) : FnOk P w K mg base CX0 1 (a 1001) (d 1001) ["self"] (spU (a1 m_Web_text)) := by
  refine T.f_Web_text.ok sc_Web_text (fun vs H Q E h => ?_) (fun cdv A outer s H vs Q E hr h => ?_)
  · obtain ⟨B, p0, vp0, r, rfl, _⟩ := sp1 h
    rfl
  · obtain ⟨B, p0, vp0, r, rfl, sB, rp0, hM, k⟩ := sp1 h
    have nd := sc_Web_text.nd
    refine ⟨_, (pss_cons (ps_ret (pe_fldK (K := K) rfl (pv 0))) pss_nil), ?_⟩
    exact (q_ret (eo_fld T.cl_Web T.n_Web_written (eo_var rfl rp0)) hM (Go.refl sB) k)
abbrev N_Web_names : List Str := ["self"]
theorem sc_Web_names : FnScope N_Web_names ["self"] (defScope s_Web_names) := ⟨rfl, rfl, rfl, by decide +kernel, rfl, by decide +kernel, by decide +kernel⟩
theorem ok_Web_names (T : Tx w K mg base a d) : FnOk P w K mg base CX0 1 (a 1002) (d 1002) ["self"] (spU (a1 m_Web_names)) := by
  refine T.f_Web_names.ok sc_Web_names (fun vs H Q E h => ?_) (fun cdv A outer s H vs Q E hr h => ?_)
  · obtain ⟨B, p0, vp0, r, rfl, _⟩ := sp1 h
    rfl
  · obtain ⟨B, p0, vp0, r, rfl, sB, rp0, hM, k⟩ := sp1 h
    have nd := sc_Web_names.nd
    refine ⟨_, (pss_cons (ps_ret (pe_fldK (K := K) rfl (pv 0))) pss_nil), ?_⟩
    exact (q_ret (eo_fld T.cl_Web T.n_Web_heads (eo_var rfl rp0)) hM (Go.refl sB) k)
abbrev N_Web_ends : List Str := ["self", "name", "source", "copy"]
theorem sc_Web_ends : FnScope N_Web_ends ["self"] (defScope s_Web_ends) := ⟨rfl, rfl, rfl, by decide +kernel, rfl, by decide +kernel, by decide +kernel⟩
theorem ok_Web_ends (T : Tx w K mg base a d) : FnOk P w K mg base CX0 1 (a 1004) (d 1004) ["self"] (spU (a1 m_Web_ends)) := by
  refine T.f_Web_ends.ok sc_Web_ends (fun vs H Q E h => ?_) (fun cdv A outer s H vs Q E hr h => ?_)
  · obtain ⟨B, p0, vp0, r, rfl, _⟩ := sp1 h
    rfl
  · obtain ⟨B, p0, vp0, r, rfl, sB, rp0, hM, k⟩ := sp1 h
    have nd := sc_Web_ends.nd
    refine ⟨_, (pss_cons (ps_ret (pe_callTy (call_tupleK (K := K) rfl) (by rfl) T.b_tuple bb_tuple (pa_cons (pe_lc (own := [("name", 1)]) (g := gName 1) (by rfl) nd (pi_anyK (K := K) rfl (pe_fldK (K := K) rfl (pv 0))) (blkOk_by (own := [("name", 1)]) (N := N_Web_ends) (sc := defScope s_Web_ends) (by decide +kernel)) (fun _ _ _ _ _ => pg_name (i := 1) nd rfl (Or.inl rfl)) (fun _ _ _ _ _ => (pts_one (pt_cmpR (op_notInA hr.units) (pv 1) (pe_lc (own := [("source", 2), ("copy", 3)]) (g := gTup K 2 (gCons (gName 2) (gCons (gName 3) gNil))) (tt := tYes) (by rfl) nd (pi_anyK (K := K) rfl (pe_fldK (K := K) rfl (pv 0))) (blkOk_by (own := [("source", 2), ("copy", 3)]) (N := N_Web_ends) (by kernel_rfl)) (fun _ _ _ _ _ => pg_tupK (K := K) rfl (by rfl) (pgs_cons (pg_name (i := 2) nd rfl (Or.inl rfl)) (pgs_cons (pg_name (i := 3) nd rfl (Or.inl rfl)) pgs_nil))) (fun _ _ _ _ _ => pts_nil) (fun _ _ _ _ _ => (pv 2))) (by rfl)))) (fun _ _ _ _ _ => (pv 1))) pa_nil))) pss_nil), ?_⟩
    exact (q_ret (eo_cb' rc_tuple (ea_cons (eo_lc (ei_any (eo_fld T.cl_Web T.n_Web_heads (eo_var rfl rp0))) (fun _ => rfl) (fun u4 v5 B2 H3 g1 r6 => (et_test (eo_op2 rv_notIn (eo_var rfl r6) (eo_lc2n (ei_any (eo_fld T.cl_Web T.n_Web_pairs (eo_var rfl (rp0.upA g1)))) (fun _ _ => rfl) (fun u10 u13 v11 v14 B8 H9 g7 r12 r15 => et_yes) (fun u10 u13 v11 v14 B8 H9 g7 r12 r15 => (eo_var rfl r12)))))) (fun u4 v5 B2 H3 g1 r6 => (eo_var rfl r6))) ea_nil)) hM (Go.refl sB) k)
abbrev N_Web_copies : List Str := ["self", "source", "one", "name"]
theorem sc_Web_copies : FnScope N_Web_copies ["self", "source"] (defScope s_Web_copies) := ⟨rfl, rfl, rfl, by decide +kernel, rfl, by decide +kernel, by decide +kernel⟩
theorem ok_Web_copies (T : Tx w K mg base a d) : FnOk P w K mg base CX0 2 (a 1006) (d 1006) ["self", "source"] (spU (a2 m_Web_copies)) := by
  refine T.f_Web_copies.ok sc_Web_copies (fun vs H Q E h => ?_) (fun cdv A outer s H vs Q E hr h => ?_)
  · obtain ⟨B, p0, p1, vp0, vp1, r, rfl, _⟩ := sp2 h
    rfl
  · obtain ⟨B, p0, p1, vp0, vp1, r, rfl, sB, rp0, rp1, hM, k⟩ := sp2 h
    have nd := sc_Web_copies.nd
    refine ⟨_, (pss_cons (ps_expr (pe_call (ok_check_copy T) (hr.mono (by decide)) (by rfl) T.g_check_copy T.f_check_copy.kp T.bd_check_copy .nil pass0 (pa_cons (pv 0) (pa_cons (pv 1) pa_nil)))) (pss_cons (ps_ret (pe_callTy (call_tupleK (K := K) rfl) (by rfl) T.b_tuple bb_tuple (pa_cons (pe_lc (own := [("one", 2), ("name", 3)]) (g := gTup K 2 (gCons (gName 2) (gCons (gName 3) gNil))) (by rfl) nd (pi_anyK (K := K) rfl (pe_fldK (K := K) rfl (pv 0))) (blkOk_by (own := [("one", 2), ("name", 3)]) (N := N_Web_copies) (sc := defScope s_Web_copies) (by decide +kernel)) (fun _ _ _ _ _ => pg_tupK (K := K) rfl (by rfl) (pgs_cons (pg_name (i := 2) nd rfl (Or.inl rfl)) (pgs_cons (pg_name (i := 3) nd rfl (Or.inl rfl)) pgs_nil))) (fun _ _ _ _ _ => (pts_one (pt_cmpR (op_eqU hr.units) (pv 2) (pv 1) (nomark _)))) (fun _ _ _ _ _ => (pv 3))) pa_nil))) pss_nil)), ?_⟩
    exact (q_expr sB (eo_call (ea_cons (eo_var rfl rp0) (ea_cons (eo_var rfl rp1) ea_nil))) hM fun x1 v2 B3 H4 g5 r6 h7 => (q_ret (eo_cb' rc_tuple (ea_cons (eo_lc2n (ei_any (eo_fld T.cl_Web T.n_Web_pairs (eo_var rfl (rp0.up g5)))) (fun _ _ => rfl) (fun u11 u14 v12 v15 B9 H10 g8 r13 r16 => (et_test (eo_op2 rv_eq (eo_var rfl r13) (eo_var rfl ((rp1.up g5).upA g8))))) (fun u11 u14 v12 v15 B9 H10 g8 r13 r16 => (eo_var rfl r16))) ea_nil)) h7 ((Go.refl sB).trans g5) k))
abbrev N_Web_with_copy : List Str := ["self", "name", "sources", "source"]
theorem sc_Web_with_copy : FnScope N_Web_with_copy ["self", "name", "sources"] (defScope s_Web_with_copy) := ⟨rfl, rfl, rfl, by decide +kernel, rfl, by decide +kernel, by decide +kernel⟩
theorem okx_Web_with_copy (T : Tx w K mg base a d) : FnOk P w K mg base (L2.CX P w) 7 (a 1007) (d 1007) ["self", "name", "sources"] (spE (a3 x_Web_with_copy)) := by
  refine Dn.Fun.okX T.f_Web_with_copy sc_Web_with_copy (fun vs H Q E h => ?_) (fun cdv A outer s H vs Q E hr h => ?_)
  · obtain ⟨B, p0, p1, p2, vp0, vp1, vp2, r, rfl, _⟩ := se3 h
    rfl
  · obtain ⟨B, p0, p1, p2, vp0, vp1, vp2, r, rfl, sB, rp0, rp1, rp2, hM, k, ke⟩ := se3 h
    have nd := sc_Web_with_copy.nd
    refine ⟨_, (pss_cons (ps_if (PW.pt (pw_or (pt_not (pt_val (pe_call (ok_is_name T) (hr.mono (by decide)) (by rfl) T.g_is_name T.f_is_name.kp T.bd_is_name .nil pass0 (pa_cons (pv 1) pa_nil)))) (pw_or1 (pt_cmpR (op_inA hr.units) (pv 1) (pe_fldK (K := K) rfl (pv 0)) (by rfl))))) (pss_cons (ps_raiseX (pmk_excX T.xo_InvalidName (raises_own T.xb_InvalidName T.xy_InvalidName) T.xi_InvalidName T.xt_InvalidName (ok_InvalidName___init__ T) (hr.mono (by decide)) T.bd_InvalidName___init__ pass0 (by rfl) T.g_InvalidName (pa_cons (pv 1) pa_nil))) pss_nil) pss_nil) (pss_cons (ps_if (PW.pt (pw_or (pt_not (pt_val (pe_callB (call_isiKK (K := K) rfl) (by rfl) T.b_isinstance bb_isinstance (pa_cons (pv 2) (pa_cons (pe_bltn (v := .ty "tuple") (by rfl) T.b_tuple bb_tuple rfl) pa_nil))))) (pw_or1 (pt_not (pt_val (pe_call (ok_are_sources T) (hr.mono (by decide)) (by rfl) T.g_are_sources T.f_are_sources.kp T.bd_are_sources .nil pass0 (pa_cons (pv 2) (pa_cons (pe_fldK (K := K) rfl (pv 0)) pa_nil)))))))) (pss_cons (ps_raiseX (pmk_excX T.xo_InvalidSources (raises_own T.xb_InvalidSources T.xy_InvalidSources) T.xi_InvalidSources T.xt_InvalidSources (ok_InvalidSources___init__ T) (hr.mono (by decide)) T.bd_InvalidSources___init__ pass0 (by rfl) T.g_InvalidSources (pa_cons (pv 2) pa_nil))) pss_nil) pss_nil) (pss_cons (ps_if (pt_cmpR (op_eqU hr.units) (pe_callB (call_lenK (K := K) rfl) (by rfl) T.b_len bb_len (pa_cons (pe_fldK (K := K) rfl (pv 0)) pa_nil)) (pe_glob (v := .int 40) (by rfl) T.c_MOST_COPIES.choose_spec ⟨_, rfl⟩) (nomark _)) (pss_cons (ps_raiseX (pmk_excX T.xo_TooMany (raises_own T.xb_TooMany T.xy_TooMany) T.xi_TooMany T.xt_TooMany (ok_TooMany___init__ T) (hr.mono (by decide)) T.bd_TooMany___init__ pass0 (by rfl) T.g_TooMany (pa_cons (pe_glob (v := .int 40) (by rfl) T.c_MOST_COPIES.choose_spec ⟨_, rfl⟩) pa_nil))) pss_nil) pss_nil) (pss_cons (ps_for (passes_of rfl) rfl (pi_anyK (K := K) rfl (pv 2)) (pg_name (i := 3) nd rfl (Or.inl rfl)) (pss_cons (ps_if (pt_cmpR (op_eqU hr.units) (pe_callB (call_lenK (K := K) rfl) (by rfl) T.b_len bb_len (pa_cons (pe_meth (pv 0) T.cl_Web T.mt_Web_copies (ok_Web_copies T) (hr.mono (by decide)) T.bd_Web_copies .nil pass0 (pa_cons (pv 3) pa_nil)) pa_nil)) pe_int (nomark _)) (pss_cons (ps_raiseX (pmk_excX T.xo_FullSource (raises_own T.xb_FullSource T.xy_FullSource) T.xi_FullSource T.xt_FullSource (ok_FullSource___init__ T) (hr.mono (by decide)) T.bd_FullSource___init__ pass0 (by rfl) T.g_FullSource (pa_cons (pv 3) pa_nil))) pss_nil) pss_nil) pss_nil)) (pss_cons (ps_ret (pe_make T.mk_Web (ok_Web_init T) (hr.mono (by decide)) (by rfl) T.g_Web T.bd_Web___init__ .nil pass0 (pa_cons (pe_call (ok_web_text T) (hr.mono (by decide)) (by rfl) T.g_web_text T.f_web_text.kp T.bd_web_text .nil pass0 (pa_cons (pe_lst (pa_starK (K := K) rfl (pe_fldK (K := K) rfl (pv 0)) (pa_cons (pe_tup (pa_cons (pv 1) (pa_cons (pv 2) pa_nil))) pa_nil))) pa_nil)) pa_nil))) pss_nil))))), ?_⟩
    exact (q_if sB (et_or (et_not (et_B (eo_call (ea_cons (eo_var rfl rp1) ea_nil)))) (et_test (eo_op2 rv_in (eo_var rfl rp1) (eo_fld T.cl_Web T.n_Web_heads (eo_var rfl rp0))))) hM (fun e7 h3 B1 H2 g9 => (q_raise1 (ea_cons (eo_var rfl (rp1.up g9)) ea_nil) h3 ((Go.refl sB).trans g9) ke)) (fun e8 h6 B4 H5 g10 => (tn (q_if g10.bh (et_or (et_not (et_B (eo_isTup (eo_var rfl (rp2.up g10))))) (et_not (et_B (eo_call (ea_cons (eo_var rfl (rp2.up g10)) (ea_cons (eo_fld T.cl_Web T.n_Web_heads (eo_var rfl (rp0.up g10))) ea_nil)))))) h6 (fun e17 h13 B11 H12 g19 => (q_raise1 (ea_cons (eo_var rfl ((rp2.up g10).up g19)) ea_nil) h13 (((Go.refl sB).trans g10).trans g19) ke)) (fun e18 h16 B14 H15 g20 => (tn (q_if g20.bh (et_test (eo_op2 rv_eq (eo_cb' rc_len (ea_cons (eo_fld T.cl_Web T.n_Web_heads (eo_var rfl ((rp0.up g10).up g20))) ea_nil)) eo_int)) h16 (fun e27 h23 B21 H22 g29 => (q_raise1 (ea_cons eo_int ea_nil) h23 ((((Go.refl sB).trans g10).trans g20).trans g29) ke)) (fun e28 h26 B24 H25 g30 => (tn (q_withO h26 fun kL31 ekL32 h33 => q_forM g30.bh (ei_any (eo_var rfl (((rp2.up g10).up g20).up g30))) h33 fun xs34 B35 H36 h37 g38 => ⟨fun l39 sg40 B41 H42 => ∃ (o43 : Option V), sg40 = [some vp0, some vp1, some vp2, o43] ∧ Go B H B41 H42 ∧ Same B35 B41 ∧ x_Web_with_copy_l1 p0 p1 p2 kL31 l39 = some r, ⟨_, rfl, (((((Go.refl sB).trans g10).trans g20).trans g30).trans g38), Same.refl _, h37⟩, fun _ _ _ _ ⟨_, _, GX, sX, _⟩ => ⟨sX, GX.bh⟩, fun u44 l45 v46 sg74 B47 H48 B49 H50 hR g51 r52 => (by obtain ⟨_, rfl, G53, s54, h55⟩ := hR; exact (q_if g51.bh (et_test (eo_op2 rv_eq (eo_cb' rc_len (ea_cons (eo_meth (eo_var rfl ((((((rp0.up g10).up g20).up g30).up g38).sm s54).up g51)) (ea_cons (eo_var rfl r52) ea_nil)) ea_nil)) eo_int)) h55 (fun e63 h59 B57 H58 g65 => (q_raise1 (ea_cons (eo_var rfl (r52.up g65)) ea_nil) h59 ((G53.trans g51).trans g65) ke)) (fun e64 h62 B60 H61 g66 => (tn ⟨_, _, rfl, ((G53.trans g51).trans g66), ((s54.trans g51.b).trans g66.b), h62⟩)))), fun sg70 B71 H72 hR => (by obtain ⟨_, rfl, G67, s68, h69⟩ := hR; have h73 : kL31 = some r := h69; subst ekL32; exact (q_ret (eo_make (ea_cons (eo_call (ea_cons (eo_lst (ea_star (eo_fld T.cl_Web T.n_Web_rows (eo_var rfl (((((rp0.up g10).up g20).up g30).up g38).sm s68))) (ea_cons (eo_tup (ea_cons (eo_var rfl (((((rp1.up g10).up g20).up g30).up g38).sm s68)) (ea_cons (eo_var rfl (((((rp2.up g10).up g20).up g30).up g38).sm s68)) ea_nil))) ea_nil))) ea_nil)) ea_nil)) h73 G67 k))⟩))))))))))
abbrev N_Web_without : List Str := ["self", "copy", "row"]
theorem sc_Web_without : FnScope N_Web_without ["self", "copy"] (defScope s_Web_without) := ⟨rfl, rfl, rfl, by decide +kernel, rfl, by decide +kernel, by decide +kernel⟩
theorem okx_Web_without (T : Tx w K mg base a d) : FnOk P w K mg base (L2.CX P w) 7 (a 1008) (d 1008) ["self", "copy"] (spE (a2 x_Web_without)) := by
  refine Dn.Fun.okX T.f_Web_without sc_Web_without (fun vs H Q E h => ?_) (fun cdv A outer s H vs Q E hr h => ?_)
  · obtain ⟨B, p0, p1, vp0, vp1, r, rfl, _⟩ := se2 h
    rfl
  · obtain ⟨B, p0, p1, vp0, vp1, r, rfl, sB, rp0, rp1, hM, k, ke⟩ := se2 h
    have nd := sc_Web_without.nd
    refine ⟨_, (pss_cons (ps_expr (pe_call (okx_check_copy T) (hr.mono (by decide)) (by rfl) T.g_check_copy T.f_check_copy.kp T.bd_check_copy .nil passD (pa_cons (pv 0) (pa_cons (pv 1) pa_nil)))) (pss_cons (ps_if (PW.pt (pw_or (pt_cmpR (op_notInA hr.units) (pv 1) (pe_propK (K := K) rfl (pv 0) T.cl_Web T.pr_Web_ends.choose_spec (ok_Web_ends T) (hr.mono (by decide)) T.bd_Web_ends pass0) (by rfl)) (pw_or1 (pt_cmpR (op_eqU hr.units) (pv 1) (pe_ix (ix_anyK (K := K) rfl hr.units) (pe_fldK (K := K) rfl (pv 0)) pe_int (fun _ _ => rfl)) (nomark _))))) (pss_cons (ps_raiseX (pmk_excX T.xo_InvalidName (raises_own T.xb_InvalidName T.xy_InvalidName) T.xi_InvalidName T.xt_InvalidName (ok_InvalidName___init__ T) (hr.mono (by decide)) T.bd_InvalidName___init__ pass0 (by rfl) T.g_InvalidName (pa_cons (pv 1) pa_nil))) pss_nil) pss_nil) (pss_cons (ps_ret (pe_make T.mk_Web (ok_Web_init T) (hr.mono (by decide)) (by rfl) T.g_Web T.bd_Web___init__ .nil pass0 (pa_cons (pe_call (ok_web_text T) (hr.mono (by decide)) (by rfl) T.g_web_text T.f_web_text.kp T.bd_web_text .nil pass0 (pa_cons (pe_lc (own := [("row", 2)]) (g := gName 2) (by rfl) nd (pi_anyK (K := K) rfl (pe_fldK (K := K) rfl (pv 0))) (blkOk_by (own := [("row", 2)]) (N := N_Web_without) (sc := defScope s_Web_without) (by decide +kernel)) (fun _ _ _ _ _ => pg_name (i := 2) nd rfl (Or.inl rfl)) (fun _ _ _ _ _ => (pts_one (pt_cmpR (op_neU hr.units) (pe_ix (ix_anyK (K := K) rfl hr.units) (pv 2) pe_int (fun _ _ => rfl)) (pv 1) (nomark _)))) (fun _ _ _ _ _ => (pv 2))) pa_nil)) pa_nil))) pss_nil))), ?_⟩
    exact (q_exprX (ex_call (ea_cons (eo_var rfl rp0) (ea_cons (eo_var rfl rp1) ea_nil))) hM (Go.refl sB) ke fun x1 v2 B3 H4 g5 r6 h7 => (q_if g5.bh (et_or (et_test (eo_op2 rv_notIn (eo_var rfl (rp1.up g5)) (eo_prop (eo_var rfl (rp0.up g5))))) (et_test (eo_op2 rv_eq (eo_var rfl (rp1.up g5)) (eo_op2 rv_get (eo_fld T.cl_Web T.n_Web_heads (eo_var rfl (rp0.up g5))) eo_int)))) h7 (fun e14 h10 B8 H9 g16 => (q_raise1 (ea_cons (eo_var rfl ((rp1.up g5).up g16)) ea_nil) h10 (((Go.refl sB).trans g5).trans g16) ke)) (fun e15 h13 B11 H12 g17 => (tn (q_ret (eo_make (ea_cons (eo_call (ea_cons (eo_lc (ei_any (eo_fld T.cl_Web T.n_Web_rows (eo_var rfl ((rp0.up g5).up g17)))) (fun _ => rfl) (fun u21 v22 B19 H20 g18 r23 => (et_test (eo_op2 rv_ne (eo_op2 rv_get (eo_var rfl r23) eo_int) (eo_var rfl (((rp1.up g5).up g17).upA g18))))) (fun u21 v22 B19 H20 g18 r23 => (eo_var rfl r23))) ea_nil)) ea_nil)) h13 (((Go.refl sB).trans g5).trans g17) k)))))
abbrev N_Web___str__ : List Str := ["self"]
theorem sc_Web___str__ : FnScope N_Web___str__ ["self"] (defScope s_Web___str__) := ⟨rfl, rfl, rfl, by decide +kernel, rfl, by decide +kernel, by decide +kernel⟩
theorem ok_Web___str__ (T : Tx w K mg base a d) : FnOk P w K mg base CX0 1 (a 1009) (d 1009) ["self"] (spU (a1 m_Web___str__)) := by
  refine T.f_Web___str__.ok sc_Web___str__ (fun vs H Q E h => ?_) (fun cdv A outer s H vs Q E hr h => ?_)
  · obtain ⟨B, p0, vp0, r, rfl, _⟩ := sp1 h
    rfl
  · obtain ⟨B, p0, vp0, r, rfl, sB, rp0, hM, k⟩ := sp1 h
    have nd := sc_Web___str__.nd
    refine ⟨_, (pss_cons (ps_ret (pe_callTy call_strB (by rfl) T.b_str bb_str (pa_cons (pe_fldK (K := K) rfl (pv 0)) pa_nil))) pss_nil), ?_⟩
    exact (q_ret (eo_cb' rc_strB (ea_cons (eo_fld T.cl_Web T.n_Web_written (eo_var rfl rp0)) ea_nil)) hM (Go.refl sB) k)
abbrev N_Web___eq__ : List Str := ["self", "other"]
theorem sc_Web___eq__ : FnScope N_Web___eq__ ["self", "other"] (defScope s_Web___eq__) := ⟨rfl, rfl, rfl, by decide +kernel, rfl, by decide +kernel, by decide +kernel⟩
theorem okd_Web___eq__ (T : Tx w K mg base a d) : FnOk P w K mg base CX0 3 (a 1011) (d 1011) ["self", "other"] (spOdd (CTab.ct 23)) := by
  refine T.f_Web___eq__.ok sc_Web___eq__ (fun vs H Q E h => ?_) (fun cdv A outer s H vs Q E hr h => ?_)
  · obtain ⟨b, a2, dx, fs, rfl, _⟩ := h
    rfl
  · obtain ⟨b, a2, dx, fs, rfl, ha, q⟩ := h
    have nd := sc_Web___eq__.nd
    refine ⟨_, (pss_cons (ps_ret (pe_and (pe_callB (call_isiO (K := K) rfl) (by rfl) T.b_isinstance bb_isinstance (pa_cons (pv 1) (pa_cons (pe_glob (v := .ref (CTab.ct 0)) (by rfl) T.g_Web rfl) pa_nil))) (pe_one (pe_cmpR (op_eqU hr.units) (pe_fldK (K := K) rfl (pv 0)) (pe_propK (K := K) rfl (pv 1) T.cl_Web T.pr_Web_text.choose_spec (ok_Web_text T) (hr.mono (by decide)) T.bd_Web_text pass0) (nomark _))))) pss_nil), ?_⟩
    exact odd_body (tz := tNext) T.od_Shelf ha q
abbrev N_Shelf___init__ : List Str := ["self", "name"]
theorem sc_Shelf___init__ : FnScope N_Shelf___init__ ["self", "name"] (defScope s_Shelf___init__) := ⟨rfl, rfl, rfl, by decide +kernel, rfl, by decide +kernel, by decide +kernel⟩
theorem ok_Shelf___init__ (T : Tx w K mg base a d) : FnOk P w K mg base CX0 7 (a 3300) (d 3300) ["self", "name"] (spS (bI1 m_Shelf___init__)) := by
  refine T.f_Shelf___init__.ok sc_Shelf___init__ (fun vs H Q E h => ?_) (fun cdv A outer s H vs Q E hr h => ?_)
  · obtain ⟨B, p, u, p1, vp1, R, rfl, _⟩ := ssI1 h
    rfl
  · obtain ⟨B, p, u, p1, vp1, R, rfl, sB, W, rp1, hM, k⟩ := ssI1 h
    have nd := sc_Shelf___init__.nd
    refine ⟨_, (pss_cons (ps_if (pt_not (pt_val (pe_call (ok_is_name T) (hr.mono (by decide)) (by rfl) T.g_is_name T.f_is_name.kp T.bd_is_name .nil pass0 (pa_cons (pv 1) pa_nil)))) (pss_cons ps_never pss_nil) pss_nil) (pss_cons (ps_fld (pv 0) (pe_make T.mk_Web (ok_Web_init T) (hr.mono (by decide)) (by rfl) T.g_Web T.bd_Web___init__ .nil pass0 (pa_cons (pv 1) pa_nil)) rfl) (pss_cons (ps_fld (pv 0) (pe_tup pa_nil) rfl) pss_nil))), ?_⟩
    exact (q_ifS W (ets_of (H := H) (et_not (et_B (eo_call (ea_cons (eo_var rfl rp1) ea_nil))))) hM (fun B1 H2 us7 W8 s9 h3 => (nomatch h3)) (fun B4 H5 us10 W11 s12 h6 => (tn (q_fldI (j := 0) W11 T.cl_Shelf T.n_Shelf_now_kept rfl rfl (es_of (H := H) (eo_make (ea_cons (eo_var rfl (rp1.sm s12)) ea_nil))) h6 fun B13 H14 us15 W16 s17 h18 => (q_fldI (j := 0) W16 T.cl_Shelf T.n_Shelf_past rfl rfl (es_of (H := H) (eo_tup ea_nil)) h18 fun B20 H21 us22 W23 s24 h25 => (q_fallS W23 h25 k))))))
theorem okx_Shelf_init (T : Tx w K mg base a d) : FnOk P w K mg base (L2.CX P w) 9 (a 3300) (d 3300) ["self", "name"] (spMkX 23 x_Shelf_init) := by
  refine T.f_Shelf___init__.okX sc_Shelf___init__ (fun vs H Q E h => ?_) (fun cdv A outer s H vs Q E hr h => ?_)
  · obtain ⟨B, x, dx, v, p0, z, _, rfl, _⟩ := h
    rfl
  · obtain ⟨B, x, dx, v, p0, z, sB, rfl, M, rt, hM, k, ke⟩ := h
    have nd := sc_Shelf___init__.nd
    obtain ⟨no, e2, hM⟩ := bind_some hM
    refine ⟨_, (pss_cons (ps_if (pt_not (pt_val (pe_call (ok_is_name T) (hr.mono (by decide)) (by rfl) T.g_is_name T.f_is_name.kp T.bd_is_name .nil pass0 (pa_cons (pv 1) pa_nil)))) (pss_cons (ps_raiseX (pmk_excX T.xo_InvalidName (raises_own T.xb_InvalidName T.xy_InvalidName) T.xi_InvalidName T.xt_InvalidName (ok_InvalidName___init__ T) (hr.mono (by decide)) T.bd_InvalidName___init__ pass0 (by rfl) T.g_InvalidName (pa_cons (pv 1) pa_nil))) pss_nil) pss_nil) (pss_cons (ps_fld (pv 0) (pe_make T.mk_Web (ok_Web_init T) (hr.mono (by decide)) (by rfl) T.g_Web T.bd_Web___init__ .nil pass0 (pa_cons (pv 1) pa_nil)) rfl) (pss_cons (ps_fld (pv 0) (pe_tup pa_nil) rfl) pss_nil))), ?_⟩
    cases no with
    | true =>
      have hM : callO (rs1 3 "given") (consO (some p0) (some [])) = some z := hM
      refine init_raise sB ?_ fun B2 H2 tz g2 => ?_
      · rw [← e2]; exact (et_not (et_B (eo_call (ea_cons (eo_var rfl rt) ea_nil))))
      · exact q_raise1 (ea_cons (eo_var rfl (rt.kp (Kp.of g2.b))) ea_nil) hM g2 ke
    | false => cases hM
abbrev N_Shelf_web : List Str := ["self"]
theorem sc_Shelf_web : FnScope N_Shelf_web ["self"] (defScope s_Shelf_web) := ⟨rfl, rfl, rfl, by decide +kernel, rfl, by decide +kernel, by decide +kernel⟩
theorem ok_Shelf_web (T : Tx w K mg base a d) : FnOk P w K mg base CX0 1 (a 3301) (d 3301) ["self"] (spS (bI0 m_Shelf_web)) := by
  refine T.f_Shelf_web.ok sc_Shelf_web (fun vs H Q E h => ?_) (fun cdv A outer s H vs Q E hr h => ?_)
  · obtain ⟨B, p, u, R, rfl, _⟩ := ssI0 h
    rfl
  · obtain ⟨B, p, u, R, rfl, sB, W, hM, k⟩ := ssI0 h
    have nd := sc_Shelf_web.nd
    refine ⟨_, (pss_cons (ps_ret (pe_fldK (K := K) rfl (pv 0))) pss_nil), ?_⟩
    exact (q_retS W (es_fldI T.cl_Shelf T.n_Shelf_now_kept (j := 0) rfl rfl) hM k)
abbrev N_Shelf_changes : List Str := ["self"]
theorem sc_Shelf_changes : FnScope N_Shelf_changes ["self"] (defScope s_Shelf_changes) := ⟨rfl, rfl, rfl, by decide +kernel, rfl, by decide +kernel, by decide +kernel⟩
theorem ok_Shelf_changes (T : Tx w K mg base a d) : FnOk P w K mg base CX0 1 (a 3302) (d 3302) ["self"] (spS (bI0 m_Shelf_changes)) := by
  refine T.f_Shelf_changes.ok sc_Shelf_changes (fun vs H Q E h => ?_) (fun cdv A outer s H vs Q E hr h => ?_)
  · obtain ⟨B, p, u, R, rfl, _⟩ := ssI0 h
    rfl
  · obtain ⟨B, p, u, R, rfl, sB, W, hM, k⟩ := ssI0 h
    have nd := sc_Shelf_changes.nd
    refine ⟨_, (pss_cons (ps_ret (pe_callB (call_lenK (K := K) rfl) (by rfl) T.b_len bb_len (pa_cons (pe_fldK (K := K) rfl (pv 0)) pa_nil))) pss_nil), ?_⟩
    exact (q_retS W (es_cb rc_len (eas_cons (es_fldI T.cl_Shelf T.n_Shelf_past (j := 0) rfl rfl) eas_nil)) hM k)
abbrev N_Shelf_become : List Str := ["self", "web"]
theorem sc_Shelf_become : FnScope N_Shelf_become ["self", "web"] (defScope s_Shelf_become) := ⟨rfl, rfl, rfl, by decide +kernel, rfl, by decide +kernel, by decide +kernel⟩
theorem ok_Shelf_become (T : Tx w K mg base a d) : FnOk P w K mg base CX0 1 (a 3304) (d 3304) ["self", "web"] (spS (bI1 m_Shelf_become)) := by
  refine T.f_Shelf_become.ok sc_Shelf_become (fun vs H Q E h => ?_) (fun cdv A outer s H vs Q E hr h => ?_)
  · obtain ⟨B, p, u, p1, vp1, R, rfl, _⟩ := ssI1 h
    rfl
  · obtain ⟨B, p, u, p1, vp1, R, rfl, sB, W, rp1, hM, k⟩ := ssI1 h
    have nd := sc_Shelf_become.nd
    refine ⟨_, (pss_cons (ps_fld (pv 0) (pe_tup (pa_starK (K := K) rfl (pe_fldK (K := K) rfl (pv 0)) (pa_cons (pe_fldK (K := K) rfl (pv 0)) pa_nil))) rfl) (pss_cons (ps_fld (pv 0) (pv 1) rfl) pss_nil)), ?_⟩
    exact (q_fldI (j := 0) W T.cl_Shelf T.n_Shelf_past rfl rfl (es_tup (eas_star (es_fldI T.cl_Shelf T.n_Shelf_past (j := 0) rfl rfl) (eas_cons (es_fldI T.cl_Shelf T.n_Shelf_now_kept (j := 0) rfl rfl) eas_nil))) hM fun B1 H2 us3 W4 s5 h6 => (q_fldI (j := 0) W4 T.cl_Shelf T.n_Shelf_now_kept rfl rfl (es_of (H := H) (eo_var rfl (rp1.sm s5))) h6 fun B8 H9 us10 W11 s12 h13 => (q_fallS W11 h13 k)))
abbrev N_Shelf_put : List Str := ["self", "name", "sources"]
theorem sc_Shelf_put : FnScope N_Shelf_put ["self", "name", "sources"] (defScope s_Shelf_put) := ⟨rfl, rfl, rfl, by decide +kernel, rfl, by decide +kernel, by decide +kernel⟩
theorem okx_Shelf_put (T : Tx w K mg base a d) : FnOk P w K mg base (L2.CX P w) 8 (a 3305) (d 3305) ["self", "name", "sources"] (spSE (bI2 x_Shelf_put)) := by
  refine Dn.Fun.okX T.f_Shelf_put sc_Shelf_put (fun vs H Q E h => ?_) (fun cdv A outer s H vs Q E hr h => ?_)
  · obtain ⟨B, p, u, p1, p2, vp1, vp2, R, rfl, _⟩ := ssX2 h
    rfl
  · obtain ⟨B, p, u, p1, p2, vp1, vp2, R, rfl, sB, W, rp1, rp2, hM, k, ke⟩ := ssX2 h
    have nd := sc_Shelf_put.nd
    refine ⟨_, (pss_cons (ps_expr (pe_meth (pv 0) T.cl_Shelf T.mt_Shelf_become (ok_Shelf_become T) (hr.mono (by decide)) T.bd_Shelf_become .nil pass0 (pa_cons (pe_meth (pe_fldK (K := K) rfl (pv 0)) T.cl_Web T.mt_Web_with_copy (okx_Web_with_copy T) (hr.mono (by decide)) T.bd_Web_with_copy .nil passD (pa_cons (pv 1) (pa_cons (pv 2) pa_nil))) pa_nil))) pss_nil), ?_⟩
    exact (q_exprXI W (exs_methIX (j := 0) rfl rfl (exs_meth (es_fldI T.cl_Shelf T.n_Shelf_now_kept (j := 0) rfl rfl) (eas_of (H := H) (ea_cons (eo_var rfl rp1) (ea_cons (eo_var rfl rp2) ea_nil))))) hM ke fun x1 B3 H4 us8 W9 s10 h7 => (q_fallS W9 h7 k))
abbrev N_Shelf_take : List Str := ["self", "copy"]
theorem sc_Shelf_take : FnScope N_Shelf_take ["self", "copy"] (defScope s_Shelf_take) := ⟨rfl, rfl, rfl, by decide +kernel, rfl, by decide +kernel, by decide +kernel⟩
theorem okx_Shelf_take (T : Tx w K mg base a d) : FnOk P w K mg base (L2.CX P w) 8 (a 3306) (d 3306) ["self", "copy"] (spSE (bI1 x_Shelf_take)) := by
  refine Dn.Fun.okX T.f_Shelf_take sc_Shelf_take (fun vs H Q E h => ?_) (fun cdv A outer s H vs Q E hr h => ?_)
  · obtain ⟨B, p, u, p1, vp1, R, rfl, _⟩ := ssX1 h
    rfl
  · obtain ⟨B, p, u, p1, vp1, R, rfl, sB, W, rp1, hM, k, ke⟩ := ssX1 h
    have nd := sc_Shelf_take.nd
    refine ⟨_, (pss_cons (ps_expr (pe_meth (pv 0) T.cl_Shelf T.mt_Shelf_become (ok_Shelf_become T) (hr.mono (by decide)) T.bd_Shelf_become .nil pass0 (pa_cons (pe_meth (pe_fldK (K := K) rfl (pv 0)) T.cl_Web T.mt_Web_without (okx_Web_without T) (hr.mono (by decide)) T.bd_Web_without .nil passD (pa_cons (pv 1) pa_nil)) pa_nil))) pss_nil), ?_⟩
    exact (q_exprXI W (exs_methIX (j := 0) rfl rfl (exs_meth (es_fldI T.cl_Shelf T.n_Shelf_now_kept (j := 0) rfl rfl) (eas_of (H := H) (ea_cons (eo_var rfl rp1) ea_nil)))) hM ke fun x1 B3 H4 us8 W9 s10 h7 => (q_fallS W9 h7 k))
abbrev N_Shelf_undo : List Str := ["self"]
theorem sc_Shelf_undo : FnScope N_Shelf_undo ["self"] (defScope s_Shelf_undo) := ⟨rfl, rfl, rfl, by decide +kernel, rfl, by decide +kernel, by decide +kernel⟩
theorem ok_Shelf_undo (T : Tx w K mg base a d) : FnOk P w K mg base CX0 1 (a 3307) (d 3307) ["self"] (spS (bI0 m_Shelf_undo)) := by
  refine T.f_Shelf_undo.ok sc_Shelf_undo (fun vs H Q E h => ?_) (fun cdv A outer s H vs Q E hr h => ?_)
  · obtain ⟨B, p, u, R, rfl, _⟩ := ssI0 h
    rfl
  · obtain ⟨B, p, u, R, rfl, sB, W, hM, k⟩ := ssI0 h
    have nd := sc_Shelf_undo.nd
    refine ⟨_, (pss_cons (ps_if (pt_cmpR (op_eqU hr.units) (pe_fldK (K := K) rfl (pv 0)) (pe_tup pa_nil) (nomark _)) (pss_cons ps_never pss_nil) pss_nil) (pss_cons (ps_fld (pv 0) (pe_ix (ix_anyK (K := K) rfl hr.units) (pe_fldK (K := K) rfl (pv 0)) (pe_un un_neg pe_int) (fun _ _ => rfl)) rfl) (pss_cons (ps_fld (pv 0) (pe_slice (sl_anyK (K := K) rfl) (pe_fldK (K := K) rfl (pv 0)) po_none (po_some (pe_un un_neg pe_int))) rfl) pss_nil))), ?_⟩
    exact (q_ifS W (ets_test (es_op2 rv_eq (es_fldI T.cl_Shelf T.n_Shelf_past (j := 0) rfl rfl) (es_of (H := H) (eo_tup ea_nil)))) hM (fun B1 H2 us7 W8 s9 h3 => (nomatch h3)) (fun B4 H5 us10 W11 s12 h6 => (tn (q_fldI (j := 0) W11 T.cl_Shelf T.n_Shelf_now_kept rfl rfl (es_op2 rv_get (es_fldI T.cl_Shelf T.n_Shelf_past (j := 0) rfl rfl) (es_of (H := H) (eo_op1 ru_neg eo_int))) h6 fun B13 H14 us15 W16 s17 h18 => (q_fldI (j := 0) W16 T.cl_Shelf T.n_Shelf_past rfl rfl (es_slice (es_fldI T.cl_Shelf T.n_Shelf_past (j := 0) rfl rfl) (eps_of (H := H) ep_no) (eps_of (H := H) (ep_of (eo_op1 ru_neg eo_int)))) h18 fun B20 H21 us22 W23 s24 h25 => (q_fallS W23 h25 k))))))
abbrev N_law_purse : List Str := ["_law_script", "_law_spot", "_law_cell", "_law_seed", "_law_one"]
theorem sc_law_purse : FnScope N_law_purse ["_law_script", "_law_spot"] (defScope s_law_purse) := ⟨rfl, rfl, rfl, by decide +kernel, rfl, by decide +kernel, by decide +kernel⟩
theorem ok_law_purse (T : Tx w K mg base a d) : FnOk P w K mg base CX0 1 (a 43) (d 43) ["_law_script", "_law_spot"] (spN (a2 m_law_purse)) := by
  refine T.f_law_purse.ok sc_law_purse (fun vs H Q E h => ?_) (fun cdv A outer s H vs Q E hr h => ?_)
  · obtain ⟨B, p0, p1, vp0, vp1, r, rfl, _⟩ := sn2 h
    rfl
  · obtain ⟨B, p0, p1, vp0, vp1, r, rfl, sB, rp0, rp1, hM, k⟩ := sn2 h
    have nd := sc_law_purse.nd
    obtain ⟨R, hM2, rfl⟩ := runS_some hM
    clear hM
    have k := fun p B2 H2 ps2 (W : Wh (bsU B H) B2 H2 ps2 R.2) n b o => k p B2 H2 W.pure n b o
    refine ⟨_, (pss_cons (ps_set (i := 2) nd rfl (Or.inl rfl) (pe_ifExp (pt_cmpR op_lt (pv 1) (pe_callB (call_lenK (K := K) rfl) (by rfl) T.b_len bb_len (pa_cons (pv 0) pa_nil)) (nomark _)) (pe_ix (ix_anyK (K := K) rfl hr.units) (pv 0) (pv 1) (fun _ _ => rfl)) (pe_op op_mulU pe_int (pe_op (op_addK (K := K) rfl) (pv 1) pe_int)))) (pss_cons (ps_set (i := 3) nd rfl (Or.inl rfl) (pe_op (op_addK (K := K) rfl) pe_int (pv 1))) (pss_cons (ps_for PassesOwn.never rfl (pi_anyK (K := K) rfl (pe_op (op_addK (K := K) rfl) (pe_slice (sl_anyK (K := K) rfl) (pv 0) po_none (po_some pe_int)) (pe_lst (pa_cons (pv 2) pa_nil)))) (pg_name (i := 4) nd rfl (Or.inl rfl)) (pss_cons (ps_set (i := 3) nd rfl (Or.inl rfl) (pe_op op_mod (pe_callTy call_int1 (by rfl) T.b_int bb_int (pa_cons (pe_op (op_addK (K := K) rfl) (pe_op (op_addK (K := K) rfl) (pe_op op_mulU (pv 3) pe_int) (pe_op op_mod (pe_callTy call_int1 (by rfl) T.b_int bb_int (pa_cons (pv 4) pa_nil)) pe_int)) pe_int) pa_nil)) pe_int)) pss_nil)) (pss_cons (ps_ret (pe_lst (pa_cons (pe_ifExp (pt_cmpR op_ge (pe_callB call_abs (by rfl) T.b_abs bb_abs (pa_cons (pv 2) pa_nil)) (pe_op op_pow pe_int pe_int) (nomark _)) (pe_callB call_abs (by rfl) T.b_abs bb_abs (pa_cons (pv 2) pa_nil)) pe_int) (pa_cons (pv 3) pa_nil)))) pss_nil)))), ?_⟩
    exact (q_asgS (wh_pure sB) (es_of (H := H) (eo_if (et_test (eo_op2 rv_lt (eo_var rfl rp1) (eo_cb' rc_len (ea_cons (eo_var rfl rp0) ea_nil)))) (eo_op2 rv_get (eo_var rfl rp0) (eo_var rfl rp1)) (eo_op2 rv_mul eo_int (eo_op2 rv_add (eo_var rfl rp1) eo_int)))) hM2 fun x1 v2 B3 H4 us7 W8 s9 r6 h5 => (q_asgS W8 (es_of (H := H) (eo_op2 rv_add eo_int (eo_var rfl (rp1.sm s9)))) h5 fun x10 v11 B12 H13 us16 W17 s18 r15 h14 => (q_withS h14 fun kL19 ekL20 h21 => q_forS W17 (eis_of (H := H) (ei_any (eo_op2 rv_add (eo_slice (eo_var rfl ((rp0.sm s9).sm s18)) ep_no (ep_of eo_int)) (eo_lst (ea_cons (eo_var rfl (r6.sm s18)) ea_nil))))) h21 fun xs22 B23 H24 us26 W27 s28 h25 => ⟨fun l29 sg30 B31 H32 => ∃ (o33 : Option V) (o34 : Option V) (x35 : U) (v36 : V) (o37 : Option V) (us38 : List U), sg30 = [o33, o34, some v2, some v36, o37] ∧ Same B23 B31 ∧ Rp B31 x35 v36 ∧ Wh (bsU B H) B31 H32 [] us38 ∧ m_law_purse_l1 x1 kL19 l29 x35 us38 = some R, ⟨_, _, x10, _, _, us26, rfl, Same.refl _, (r15.sm s28), W27, h25⟩, fun _ _ _ _ ⟨_, _, _, _, _, _, _, sX, _, WX, _⟩ => ⟨sX, WX.s⟩, fun u39 l40 v41 sg78 B42 H43 B44 H45 hR g46 r47 => (by obtain ⟨_, _, x51, v52, _, us54, rfl, s49, r53, W55, h50⟩ := hR; exact (q_asgS (W55.go g46) (es_of (H := H) (eo_op2 rv_mod (eo_cb' rc_int (ea_cons (eo_op2 rv_add (eo_op2 rv_add (eo_op2 rv_mul (eo_var rfl (r53.up g46)) eo_int) (eo_op2 rv_mod (eo_cb' rc_int (ea_cons (eo_var rfl r47) ea_nil)) eo_int)) eo_int) ea_nil)) eo_int)) h50 fun x57 v58 B59 H60 us63 W64 s65 r62 h61 => ⟨_, _, _, x57, _, _, _, rfl, ((s49.trans g46.b).trans s65), r62, W64, h61⟩)), fun sg74 B75 H76 hR => (by obtain ⟨_, _, x69, v70, _, us72, rfl, s67, r71, W73, h68⟩ := hR; have h77 : kL19 x69 us72 = some R := h68; subst ekL20; exact (q_retN W73 (en_lst (eas_of (H := H) (ea_cons (eo_if (et_test (eo_op2 rv_ge (eo_cb' rc_abs (ea_cons (eo_var rfl (((r6.sm s18).sm s28).sm s67)) ea_nil)) (eo_op2 rv_pow eo_int eo_int))) (eo_cb' rc_abs (ea_cons (eo_var rfl (((r6.sm s18).sm s28).sm s67)) ea_nil)) eo_int) (ea_cons (eo_var rfl r71) ea_nil)))) h77 k))⟩)))
abbrev N_law_draw : List Str := ["_law_purse_here", "_law_many", "_law_digit"]
theorem sc_law_draw : FnScope N_law_draw ["_law_purse_here", "_law_many"] (defScope s_law_draw) := ⟨rfl, rfl, rfl, by decide +kernel, rfl, by decide +kernel, by decide +kernel⟩
theorem ok_law_draw (T : Tx w K mg base a d) : FnOk P w K mg base CX0 1 (a 44) (d 44) ["_law_purse_here", "_law_many"] (spS (b1 m_law_draw)) := by
  refine T.f_law_draw.ok sc_law_draw (fun vs H Q E h => ?_) (fun cdv A outer s H vs Q E hr h => ?_)
  · obtain ⟨B, p, u, p1, vp1, R, rfl, _⟩ := ss1 h
    rfl
  · obtain ⟨B, p, u, p1, vp1, R, rfl, sB, W, rp1, hM, k⟩ := ss1 h
    have nd := sc_law_draw.nd
    refine ⟨_, (pss_cons (ps_if (pt_cmpR op_gt (pe_lock (pe_ix (ix_anyK (K := K) rfl hr.units) (pv 0) pe_int (fun _ _ => rfl))) pe_int (nomark _)) (pss_cons (ps_asg (pe_callB call_divmod (by rfl) T.b_divmod bb_divmod (pa_cons (pe_lock (pe_ix (ix_anyK (K := K) rfl hr.units) (pv 0) pe_int (fun _ _ => rfl))) (pa_cons (pv 1) pa_nil))) (pg_tupK (K := K) rfl (by rfl) (pgs_cons (pg_sub (pv 0) pe_int set_list) (pgs_cons (pg_name (i := 2) nd rfl (Or.inl rfl)) pgs_nil)))) (pss_cons (ps_ret (pv 2)) pss_nil)) pss_nil) (pss_cons (ps_asg (pe_op op_mod (pe_callTy call_int1 (by rfl) T.b_int bb_int (pa_cons (pe_op (op_addK (K := K) rfl) (pe_op op_mulU (pe_lock (pe_ix (ix_anyK (K := K) rfl hr.units) (pv 0) pe_int (fun _ _ => rfl))) pe_int) pe_int) pa_nil)) pe_int) (pg_sub (pv 0) pe_int set_list)) (pss_cons (ps_ret (pe_op op_mod (pe_callTy call_int1 (by rfl) T.b_int bb_int (pa_cons (pe_op op_fdiv (pe_lock (pe_ix (ix_anyK (K := K) rfl hr.units) (pv 0) pe_int (fun _ _ => rfl))) pe_int) pa_nil)) (pv 1))) pss_nil))), ?_⟩
    exact (q_ifS W (ets_test (es_op2 rv_gt (es_lockO (j := 0) rfl fun u1 _ _ s2 r3 => (eo_op2 rv_get (eo_var rfl r3) eo_int)) (es_of (H := H) eo_int))) hM (fun B4 H5 us10 W11 s12 h6 => (q_setTwo (jj := 0) W11 rfl rfl (es_cb rc_divmod (eas_cons (es_lockO (j := 0) rfl fun u16 _ _ s17 r18 => (eo_op2 rv_get (eo_var rfl r18) eo_int)) (eas_cons (es_of (H := H) (eo_var rfl (rp1.sm s12))) eas_nil))) (es_of (H := H) eo_int) h6 fun y19 v20 B21 H22 us23 W24 s25 r26 h27 => (q_retS W24 (es_of (H := H) (eo_var rfl r26)) h27 k))) (fun B7 H8 us13 W14 s15 h9 => (tn (q_setL (jj := 0) W14 rfl rfl (es_op2 rv_mod (es_cb rc_int (eas_cons (es_op2 rv_add (es_op2 rv_mul (es_lockO (j := 0) rfl fun u30 _ _ s31 r32 => (eo_op2 rv_get (eo_var rfl r32) eo_int)) (es_of (H := H) eo_int)) (es_of (H := H) eo_int)) eas_nil)) (es_of (H := H) eo_int)) (es_of (H := H) eo_int) h9 fun B33 H34 us35 W36 s37 h38 => (q_retS W36 (es_op2 rv_mod (es_cb rc_int (eas_cons (es_op2 rv_fdiv (es_lockO (j := 0) rfl fun u41 _ _ s42 r43 => (eo_op2 rv_get (eo_var rfl r43) eo_int)) (es_of (H := H) eo_int)) eas_nil)) (es_of (H := H) (eo_var rfl ((rp1.sm s15).sm s37)))) h38 k)))))
abbrev N_law_sort : List Str := ["_law_e", "_law_words", "_law_flags", "_law_bases", "_law_at"]
theorem sc_law_sort : FnScope N_law_sort ["_law_e"] (defScope s_law_sort) := ⟨rfl, rfl, rfl, by decide +kernel, rfl, by decide +kernel, by decide +kernel⟩
theorem okq_law_sort (T : Tx w K mg base a d) : FnQ P w K mg base CX0 1 (a 46) (d 46) ["_law_e"] (spU (a1 m_law_sort)) := by
  refine Fun.okQ T.f_law_sort sc_law_sort (fun vs H Q E h => ?_) (fun cdv A outer s H vs Q E pn hgd hr h => ?_)
  · obtain ⟨B, p0, vp0, r, rfl, _⟩ := sp1 h
    rfl
  · obtain ⟨B, p0, vp0, r, rfl, sB, rp0, hM, k⟩ := sp1 h
    have nd := sc_law_sort.nd
    refine ⟨_, (pss_cons (ps_set (i := 1) nd rfl (Or.inl rfl) (pe_lst (pa_cons pe_str (pa_cons pe_str (pa_cons pe_str (pa_cons pe_str (pa_cons pe_str (pa_cons pe_str pa_nil)))))))) (pss_cons (ps_set (i := 1) nd rfl (Or.inl rfl) (pe_op (op_addK (K := K) rfl) (pv 1) (pe_lst (pa_cons pe_str (pa_cons pe_str (pa_cons pe_str (pa_cons pe_str pa_nil))))))) (pss_cons (ps_set (i := 1) nd rfl (Or.inl rfl) (pe_op (op_addK (K := K) rfl) (pv 1) (pe_lst (pa_cons pe_str (pa_cons pe_str (pa_cons pe_str (pa_cons pe_str pa_nil))))))) (pss_cons (ps_set (i := 1) nd rfl (Or.inl rfl) (pe_op (op_addK (K := K) rfl) (pv 1) (pe_lst (pa_cons pe_str (pa_cons pe_str (pa_cons pe_str (pa_cons pe_str (pa_cons pe_str (pa_cons pe_str pa_nil))))))))) (pss_cons (ps_set (i := 2) nd rfl (Or.inl rfl) (pe_lst (pa_cons (pe_callB (call_isX (K := K) rfl) (by rfl) T.b_isinstance bb_isinstance (pa_cons (pv 0) (pa_cons (pe_glob (v := .ref (CTab.ct 1)) (by rfl) T.g_InvalidText rfl) pa_nil))) (pa_cons (pe_callB (call_isX (K := K) rfl) (by rfl) T.b_isinstance bb_isinstance (pa_cons (pv 0) (pa_cons (pe_glob (v := .ref (CTab.ct 2)) (by rfl) T.g_InvalidNumber rfl) pa_nil))) (pa_cons (pe_callB (call_isX (K := K) rfl) (by rfl) T.b_isinstance bb_isinstance (pa_cons (pv 0) (pa_cons (pe_glob (v := .ref (CTab.ct 3)) (by rfl) T.g_InvalidName rfl) pa_nil))) pa_nil))))) (pss_cons (ps_set (i := 2) nd rfl (Or.inl rfl) (pe_op (op_addK (K := K) rfl) (pv 2) (pe_lst (pa_cons (pe_callB (call_isX (K := K) rfl) (by rfl) T.b_isinstance bb_isinstance (pa_cons (pv 0) (pa_cons (pe_glob (v := .ref (CTab.ct 4)) (by rfl) T.g_InvalidIndex rfl) pa_nil))) (pa_cons (pe_callB (call_isX (K := K) rfl) (by rfl) T.b_isinstance bb_isinstance (pa_cons (pv 0) (pa_cons (pe_glob (v := .ref (CTab.ct 5)) (by rfl) T.g_InvalidClaim rfl) pa_nil))) (pa_cons (pe_callB (call_isX (K := K) rfl) (by rfl) T.b_isinstance bb_isinstance (pa_cons (pv 0) (pa_cons (pe_glob (v := .ref (CTab.ct 6)) (by rfl) T.g_InvalidChoice rfl) pa_nil))) pa_nil)))))) (pss_cons (ps_set (i := 2) nd rfl (Or.inl rfl) (pe_op (op_addK (K := K) rfl) (pv 2) (pe_lst (pa_cons (pe_callB (call_isX (K := K) rfl) (by rfl) T.b_isinstance bb_isinstance (pa_cons (pv 0) (pa_cons (pe_glob (v := .ref (CTab.ct 7)) (by rfl) T.g_UnknownName rfl) pa_nil))) (pa_cons (pe_callB (call_isX (K := K) rfl) (by rfl) T.b_isinstance bb_isinstance (pa_cons (pv 0) (pa_cons (pe_glob (v := .ref (CTab.ct 8)) (by rfl) T.g_NotAWeb rfl) pa_nil))) (pa_cons (pe_callB (call_isX (K := K) rfl) (by rfl) T.b_isinstance bb_isinstance (pa_cons (pv 0) (pa_cons (pe_glob (v := .ref (CTab.ct 9)) (by rfl) T.g_NotAShelf rfl) pa_nil))) pa_nil)))))) (pss_cons (ps_set (i := 2) nd rfl (Or.inl rfl) (pe_op (op_addK (K := K) rfl) (pv 2) (pe_lst (pa_cons (pe_callB (call_isX (K := K) rfl) (by rfl) T.b_isinstance bb_isinstance (pa_cons (pv 0) (pa_cons (pe_glob (v := .ref (CTab.ct 10)) (by rfl) T.g_InvalidSources rfl) pa_nil))) (pa_cons (pe_callB (call_isX (K := K) rfl) (by rfl) T.b_isinstance bb_isinstance (pa_cons (pv 0) (pa_cons (pe_glob (v := .ref (CTab.ct 11)) (by rfl) T.g_InvalidTold rfl) pa_nil))) (pa_cons (pe_callB (call_isX (K := K) rfl) (by rfl) T.b_isinstance bb_isinstance (pa_cons (pv 0) (pa_cons (pe_glob (v := .ref (CTab.ct 12)) (by rfl) T.g_InvalidWeights rfl) pa_nil))) pa_nil)))))) (pss_cons (ps_set (i := 2) nd rfl (Or.inl rfl) (pe_op (op_addK (K := K) rfl) (pv 2) (pe_lst (pa_cons (pe_callB (call_isX (K := K) rfl) (by rfl) T.b_isinstance bb_isinstance (pa_cons (pv 0) (pa_cons (pe_glob (v := .ref (CTab.ct 13)) (by rfl) T.g_InvalidOffers rfl) pa_nil))) (pa_cons (pe_callB (call_isX (K := K) rfl) (by rfl) T.b_isinstance bb_isinstance (pa_cons (pv 0) (pa_cons (pe_glob (v := .ref (CTab.ct 14)) (by rfl) T.g_InvalidFreed rfl) pa_nil))) (pa_cons (pe_callB (call_isX (K := K) rfl) (by rfl) T.b_isinstance bb_isinstance (pa_cons (pv 0) (pa_cons (pe_glob (v := .ref (CTab.ct 15)) (by rfl) T.g_NoChoice rfl) pa_nil))) pa_nil)))))) (pss_cons (ps_set (i := 2) nd rfl (Or.inl rfl) (pe_op (op_addK (K := K) rfl) (pv 2) (pe_lst (pa_cons (pe_callB (call_isX (K := K) rfl) (by rfl) T.b_isinstance bb_isinstance (pa_cons (pv 0) (pa_cons (pe_glob (v := .ref (CTab.ct 16)) (by rfl) T.g_TooMany rfl) pa_nil))) (pa_cons (pe_callB (call_isX (K := K) rfl) (by rfl) T.b_isinstance bb_isinstance (pa_cons (pv 0) (pa_cons (pe_glob (v := .ref (CTab.ct 17)) (by rfl) T.g_FullSource rfl) pa_nil))) (pa_cons (pe_callB (call_isX (K := K) rfl) (by rfl) T.b_isinstance bb_isinstance (pa_cons (pv 0) (pa_cons (pe_glob (v := .ref (CTab.ct 18)) (by rfl) T.g_Broken rfl) pa_nil))) pa_nil)))))) (pss_cons (ps_set (i := 2) nd rfl (Or.inl rfl) (pe_op (op_addK (K := K) rfl) (pv 2) (pe_lst (pa_cons (pe_callB (call_isX (K := K) rfl) (by rfl) T.b_isinstance bb_isinstance (pa_cons (pv 0) (pa_cons (pe_glob (v := .ref (CTab.ct 19)) (by rfl) T.g_InUse rfl) pa_nil))) (pa_cons (pe_callB (call_isX (K := K) rfl) (by rfl) T.b_isinstance bb_isinstance (pa_cons (pv 0) (pa_cons (pe_glob (v := .ref (CTab.ct 20)) (by rfl) T.g_NothingToUndo rfl) pa_nil))) pa_nil))))) (pss_cons (ps_set (i := 3) nd rfl (Or.inl rfl) (pe_lst (pa_cons (pe_callB (call_isX (K := K) rfl) (by rfl) T.b_isinstance bb_isinstance (pa_cons (pv 0) (pa_cons (pe_glob (v := .ref (CTab.ct 21)) (by rfl) T.g_WrongValue rfl) pa_nil))) (pa_cons (pe_callB (call_isX (K := K) rfl) (by rfl) T.b_isinstance bb_isinstance (pa_cons (pv 0) (pa_cons (pe_glob (v := .ref (CTab.ct 22)) (by rfl) T.g_NoAnswer rfl) pa_nil))) pa_nil)))) (pss_cons (ps_if (PW.pt (pw_or (pt_cmpR (op_neU hr.units) (pe_countB (K := K) rfl (pv 2) (pa_cons pe_bl pa_nil)) pe_int (nomark _)) (pw_or1 (pt_cmpR (op_neU hr.units) (pe_countB (K := K) rfl (pv 3) (pa_cons pe_bl pa_nil)) pe_int (nomark _))))) (pss_cons (ps_ret pe_str) pss_nil) pss_nil) (pss_cons (ps_set (i := 4) nd rfl (Or.inl rfl) (pe_lidx (K := K) rfl hr.units (pv 2) (pa_cons pe_bl pa_nil))) (pss_cons (ps_ret (pe_ifExp (pt_cmpR (op_eqU hr.units) (pe_lidx (K := K) rfl hr.units (pv 3) (pa_cons pe_bl pa_nil)) (pe_ifExp (pt_cmpR op_lt (pv 4) pe_int (nomark _)) pe_int pe_int) (nomark _)) (pe_ix (ix_anyK (K := K) rfl hr.units) (pv 1) (pv 4) (fun _ _ => rfl)) pe_str)) pss_nil))))))))))))))), ?_⟩
    exact (q_asg sB (eo_lst (ea_cons eo_str (ea_cons eo_str (ea_cons eo_str (ea_cons eo_str (ea_cons eo_str (ea_cons eo_str ea_nil))))))) hM fun x1 v2 B3 H4 g7 r6 h5 => (q_asg g7.bh (eo_op2 rv_add (eo_var rfl r6) (eo_lst (ea_cons eo_str (ea_cons eo_str (ea_cons eo_str (ea_cons eo_str ea_nil)))))) h5 fun x8 v9 B10 H11 g14 r13 h12 => (q_asg g14.bh (eo_op2 rv_add (eo_var rfl r13) (eo_lst (ea_cons eo_str (ea_cons eo_str (ea_cons eo_str (ea_cons eo_str ea_nil)))))) h12 fun x15 v16 B17 H18 g21 r20 h19 => (q_asg g21.bh (eo_op2 rv_add (eo_var rfl r20) (eo_lst (ea_cons eo_str (ea_cons eo_str (ea_cons eo_str (ea_cons eo_str (ea_cons eo_str (ea_cons eo_str ea_nil)))))))) h19 fun x22 v23 B24 H25 g28 r27 h26 => (q_asg g28.bh (eo_lst (ea_cons (eo_isX (c := .ref (CTab.ct 1)) (cv := .ref (CTab.ct 1)) (fun _ h => h) T.kt_InvalidText (eo_var rfl ((((rp0.up g7).up g14).up g21).up g28))) (ea_cons (eo_isX (c := .ref (CTab.ct 2)) (cv := .ref (CTab.ct 2)) (fun _ h => h) T.kt_InvalidNumber (eo_var rfl ((((rp0.up g7).up g14).up g21).up g28))) (ea_cons (eo_isX (c := .ref (CTab.ct 3)) (cv := .ref (CTab.ct 3)) (fun _ h => h) T.kt_InvalidName (eo_var rfl ((((rp0.up g7).up g14).up g21).up g28))) ea_nil)))) h26 fun x29 v30 B31 H32 g35 r34 h33 => (q_asg g35.bh (eo_op2 rv_add (eo_var rfl r34) (eo_lst (ea_cons (eo_isX (c := .ref (CTab.ct 4)) (cv := .ref (CTab.ct 4)) (fun _ h => h) T.kt_InvalidIndex (eo_var rfl (((((rp0.up g7).up g14).up g21).up g28).up g35))) (ea_cons (eo_isX (c := .ref (CTab.ct 5)) (cv := .ref (CTab.ct 5)) (fun _ h => h) T.kt_InvalidClaim (eo_var rfl (((((rp0.up g7).up g14).up g21).up g28).up g35))) (ea_cons (eo_isX (c := .ref (CTab.ct 6)) (cv := .ref (CTab.ct 6)) (fun _ h => h) T.kt_InvalidChoice (eo_var rfl (((((rp0.up g7).up g14).up g21).up g28).up g35))) ea_nil))))) h33 fun x36 v37 B38 H39 g42 r41 h40 => (q_asg g42.bh (eo_op2 rv_add (eo_var rfl r41) (eo_lst (ea_cons (eo_isX (c := .ref (CTab.ct 7)) (cv := .ref (CTab.ct 7)) (fun _ h => h) T.kt_UnknownName (eo_var rfl ((((((rp0.up g7).up g14).up g21).up g28).up g35).up g42))) (ea_cons (eo_isX (c := .ref (CTab.ct 8)) (cv := .ref (CTab.ct 8)) (fun _ h => h) T.kt_NotAWeb (eo_var rfl ((((((rp0.up g7).up g14).up g21).up g28).up g35).up g42))) (ea_cons (eo_isX (c := .ref (CTab.ct 9)) (cv := .ref (CTab.ct 9)) (fun _ h => h) T.kt_NotAShelf (eo_var rfl ((((((rp0.up g7).up g14).up g21).up g28).up g35).up g42))) ea_nil))))) h40 fun x43 v44 B45 H46 g49 r48 h47 => (q_asg g49.bh (eo_op2 rv_add (eo_var rfl r48) (eo_lst (ea_cons (eo_isX (c := .ref (CTab.ct 10)) (cv := .ref (CTab.ct 10)) (fun _ h => h) T.kt_InvalidSources (eo_var rfl (((((((rp0.up g7).up g14).up g21).up g28).up g35).up g42).up g49))) (ea_cons (eo_isX (c := .ref (CTab.ct 11)) (cv := .ref (CTab.ct 11)) (fun _ h => h) T.kt_InvalidTold (eo_var rfl (((((((rp0.up g7).up g14).up g21).up g28).up g35).up g42).up g49))) (ea_cons (eo_isX (c := .ref (CTab.ct 12)) (cv := .ref (CTab.ct 12)) (fun _ h => h) T.kt_InvalidWeights (eo_var rfl (((((((rp0.up g7).up g14).up g21).up g28).up g35).up g42).up g49))) ea_nil))))) h47 fun x50 v51 B52 H53 g56 r55 h54 => (q_asg g56.bh (eo_op2 rv_add (eo_var rfl r55) (eo_lst (ea_cons (eo_isX (c := .ref (CTab.ct 13)) (cv := .ref (CTab.ct 13)) (fun _ h => h) T.kt_InvalidOffers (eo_var rfl ((((((((rp0.up g7).up g14).up g21).up g28).up g35).up g42).up g49).up g56))) (ea_cons (eo_isX (c := .ref (CTab.ct 14)) (cv := .ref (CTab.ct 14)) (fun _ h => h) T.kt_InvalidFreed (eo_var rfl ((((((((rp0.up g7).up g14).up g21).up g28).up g35).up g42).up g49).up g56))) (ea_cons (eo_isX (c := .ref (CTab.ct 15)) (cv := .ref (CTab.ct 15)) (fun _ h => h) T.kt_NoChoice (eo_var rfl ((((((((rp0.up g7).up g14).up g21).up g28).up g35).up g42).up g49).up g56))) ea_nil))))) h54 fun x57 v58 B59 H60 g63 r62 h61 => (q_asg g63.bh (eo_op2 rv_add (eo_var rfl r62) (eo_lst (ea_cons (eo_isX (c := .ref (CTab.ct 16)) (cv := .ref (CTab.ct 16)) (fun _ h => h) T.kt_TooMany (eo_var rfl (((((((((rp0.up g7).up g14).up g21).up g28).up g35).up g42).up g49).up g56).up g63))) (ea_cons (eo_isX (c := .ref (CTab.ct 17)) (cv := .ref (CTab.ct 17)) (fun _ h => h) T.kt_FullSource (eo_var rfl (((((((((rp0.up g7).up g14).up g21).up g28).up g35).up g42).up g49).up g56).up g63))) (ea_cons (eo_isX (c := .ref (CTab.ct 18)) (cv := .ref (CTab.ct 18)) (fun _ h => h) T.kt_Broken (eo_var rfl (((((((((rp0.up g7).up g14).up g21).up g28).up g35).up g42).up g49).up g56).up g63))) ea_nil))))) h61 fun x64 v65 B66 H67 g70 r69 h68 => (q_asg g70.bh (eo_op2 rv_add (eo_var rfl r69) (eo_lst (ea_cons (eo_isX (c := .ref (CTab.ct 19)) (cv := .ref (CTab.ct 19)) (fun _ h => h) T.kt_InUse (eo_var rfl ((((((((((rp0.up g7).up g14).up g21).up g28).up g35).up g42).up g49).up g56).up g63).up g70))) (ea_cons (eo_isX (c := .ref (CTab.ct 20)) (cv := .ref (CTab.ct 20)) (fun _ h => h) T.kt_NothingToUndo (eo_var rfl ((((((((((rp0.up g7).up g14).up g21).up g28).up g35).up g42).up g49).up g56).up g63).up g70))) ea_nil)))) h68 fun x71 v72 B73 H74 g77 r76 h75 => (q_asg g77.bh (eo_lst (ea_cons (eo_isX (c := .ref (CTab.ct 21)) (cv := .ref (CTab.ct 21)) (fun _ h => h) T.kt_WrongValue (eo_var rfl (((((((((((rp0.up g7).up g14).up g21).up g28).up g35).up g42).up g49).up g56).up g63).up g70).up g77))) (ea_cons (eo_isX (c := .ref (CTab.ct 22)) (cv := .ref (CTab.ct 22)) (fun _ h => h) T.kt_NoAnswer (eo_var rfl (((((((((((rp0.up g7).up g14).up g21).up g28).up g35).up g42).up g49).up g56).up g63).up g70).up g77))) ea_nil))) h75 fun x78 v79 B80 H81 g84 r83 h82 => (q_if g84.bh (et_or (et_test (eo_op2 rv_ne (eo_countB (eo_var rfl (r76.up g84)) eo_bl) eo_int)) (et_test (eo_op2 rv_ne (eo_countB (eo_var rfl r83) eo_bl) eo_int))) h82 (fun e91 h87 B85 H86 g93 => (q_ret eo_str h87 ((((((((((((((Go.refl sB).trans g7).trans g14).trans g21).trans g28).trans g35).trans g42).trans g49).trans g56).trans g63).trans g70).trans g77).trans g84).trans g93) k)) (fun e92 h90 B88 H89 g94 => (tn (q_asg g94.bh (eo_lidx (eo_var rfl ((r76.up g84).up g94)) eo_bl) h90 fun x95 v96 B97 H98 g101 r100 h99 => (q_ret (eo_if (et_test (eo_op2 rv_eq (eo_lidx (eo_var rfl ((r83.up g94).up g101)) eo_bl) (eo_if (et_test (eo_op2 rv_lt (eo_var rfl r100) eo_int)) eo_int eo_int))) (eo_op2 rv_get (eo_var rfl ((((((((((r27.up g35).up g42).up g49).up g56).up g63).up g70).up g77).up g84).up g94).up g101)) (eo_var rfl r100)) eo_str) h99 (((((((((((((((Go.refl sB).trans g7).trans g14).trans g21).trans g28).trans g35).trans g42).trans g49).trans g56).trans g63).trans g70).trans g77).trans g84).trans g94).trans g101) k)))))))))))))))))
abbrev N_law_attribute : List Str := ["_law_e", "_law_word_here", "_law_by_index"]
theorem sc_law_attribute : FnScope N_law_attribute ["_law_e", "_law_word_here"] (defScope s_law_attribute) := ⟨rfl, rfl, rfl, by decide +kernel, rfl, by decide +kernel, by decide +kernel⟩
theorem okq_law_attribute (T : Tx w K mg base a d) : FnQ P w K mg base CX0 1 (a 47) (d 47) ["_law_e", "_law_word_here"] (spU (a2 m_law_attribute)) := by
  refine Fun.okQ T.f_law_attribute sc_law_attribute (fun vs H Q E h => ?_) (fun cdv A outer s H vs Q E pn hgd hr h => ?_)
  · obtain ⟨B, p0, p1, vp0, vp1, r, rfl, _⟩ := sp2 h
    rfl
  · obtain ⟨B, p0, p1, vp0, vp1, r, rfl, sB, rp0, rp1, hM, k⟩ := sp2 h
    have nd := sc_law_attribute.nd
    refine ⟨_, (pss_cons (ps_if (pt_cmpR (op_inA hr.units) (pv 1) (pe_lst (pa_cons pe_str (pa_cons pe_str (pa_cons pe_str pa_nil)))) (by rfl)) (pss_cons (ps_ret pe_str) pss_nil) pss_nil) (pss_cons (ps_if (pt_cmpR (op_eqU hr.units) (pv 1) pe_str (nomark _)) (pss_cons (ps_ret (pe_callB (call_reprK (K := K) rfl hgd hr.units) (by rfl) T.b_repr bb_repr (pa_cons (pe_tup (pa_cons (pe_xg (K := K) rfl (pv 0)) (pa_cons (pe_xg (K := K) rfl (pv 0)) pa_nil))) pa_nil))) pss_nil) pss_nil) (pss_cons (ps_if (pt_cmpR (op_eqU hr.units) (pv 1) pe_str (nomark _)) (pss_cons (ps_ret (pe_callB (call_reprK (K := K) rfl hgd hr.units) (by rfl) T.b_repr bb_repr (pa_cons (pe_xg (K := K) rfl (pv 0)) pa_nil))) pss_nil) pss_nil) (pss_cons (ps_set (i := 2) nd rfl (Or.inl rfl) (pe_lst (pa_cons pe_str (pa_cons pe_str (pa_cons pe_str (pa_cons pe_str (pa_cons pe_str pa_nil))))))) (pss_cons (ps_ret (pe_ifExp (pt_cmpR (op_inA hr.units) (pv 1) (pv 2) (by rfl)) (pe_callB (call_reprK (K := K) rfl hgd hr.units) (by rfl) T.b_repr bb_repr (pa_cons (pe_xg (K := K) rfl (pv 0)) pa_nil)) (pe_callB (call_reprD (b := base) rfl hgd hr.units) (by rfl) T.b_repr bb_repr (pa_cons (pe_xg (K := K) rfl (pv 0)) pa_nil)))) pss_nil))))), ?_⟩
    exact (q_if sB (et_test (eo_op2 rv_in (eo_var rfl rp1) (eo_lst (ea_cons eo_str (ea_cons eo_str (ea_cons eo_str ea_nil)))))) hM (fun e7 h3 B1 H2 g9 => (q_ret eo_str h3 ((Go.refl sB).trans g9) k)) (fun e8 h6 B4 H5 g10 => (tn (q_if g10.bh (et_test (eo_op2 rv_eq (eo_var rfl (rp1.up g10)) eo_str)) h6 (fun e17 h13 B11 H12 g19 => (q_ret (eo_cb' rc_repr (ea_cons (eo_tup (ea_cons (eo_xg T.nf_index (eo_var rfl ((rp0.up g10).up g19))) (ea_cons (eo_xg T.nf_told (eo_var rfl ((rp0.up g10).up g19))) ea_nil))) ea_nil)) h13 (((Go.refl sB).trans g10).trans g19) k)) (fun e18 h16 B14 H15 g20 => (tn (q_if g20.bh (et_test (eo_op2 rv_eq (eo_var rfl ((rp1.up g10).up g20)) eo_str)) h16 (fun e27 h23 B21 H22 g29 => (q_ret (eo_cb' rc_repr (ea_cons (eo_xg T.nf_number (eo_var rfl (((rp0.up g10).up g20).up g29))) ea_nil)) h23 ((((Go.refl sB).trans g10).trans g20).trans g29) k)) (fun e28 h26 B24 H25 g30 => (tn (q_asg g30.bh (eo_lst (ea_cons eo_str (ea_cons eo_str (ea_cons eo_str (ea_cons eo_str (ea_cons eo_str ea_nil)))))) h26 fun x31 v32 B33 H34 g37 r36 h35 => (q_ret (eo_if (et_test (eo_op2 rv_in (eo_var rfl ((((rp1.up g10).up g20).up g30).up g37)) (eo_var rfl r36))) (eo_cb' rc_repr (ea_cons (eo_xg T.nf_index (eo_var rfl ((((rp0.up g10).up g20).up g30).up g37))) ea_nil)) (eo_cb' (rc_reprD T.sm) (ea_cons (eo_xg T.nf_given (eo_var rfl ((((rp0.up g10).up g20).up g30).up g37))) ea_nil))) h35 (((((Go.refl sB).trans g10).trans g20).trans g30).trans g37) k)))))))))))
abbrev N_law_shot : List Str := ["_law_bench"]
theorem sc_law_shot : FnScope N_law_shot ["_law_bench"] (defScope s_law_shot) := ⟨rfl, rfl, rfl, by decide +kernel, rfl, by decide +kernel, by decide +kernel⟩
theorem ok_law_shot (T : Tx w K mg base a d) : FnG P w K mg base CX0 4 (a 48) (d 48) ["_law_bench"] (spS (bI0 m_law_shot)) := by
  refine Fun.okG T.f_law_shot sc_law_shot (fun vs H Q E h => ?_) (fun cdv A outer s H vs Q E hgd hr h => ?_)
  · obtain ⟨B, p, u, R, rfl, _⟩ := ssI0 h
    rfl
  · obtain ⟨B, p, u, R, rfl, sB, W, hM, k⟩ := ssI0 h
    have nd := sc_law_shot.nd
    refine ⟨_, (pss_cons (ps_ret (pe_callB (call_reprK (K := K) rfl hgd hr.units) (by rfl) T.b_repr bb_repr (pa_cons (pe_lst (pa_cons (pe_callTy (call_ownStr (C := CTab.ct 0) (K := K) rfl (ok_Web___str__ T) (hr.mono (by decide)) T.mt_Web___str__.at_ T.mt_Web___str__.fn T.bd_Web___str__ pass0) (by rfl) T.b_str bb_str (pa_cons (pe_propK (K := K) rfl (pv 0) T.cl_Shelf T.pr_Shelf_web.choose_spec (ok_Shelf_web T) (hr.mono (by decide)) T.bd_Shelf_web pass0) pa_nil)) (pa_cons (pe_propK (K := K) rfl (pv 0) T.cl_Shelf T.pr_Shelf_changes.choose_spec (ok_Shelf_changes T) (hr.mono (by decide)) T.bd_Shelf_changes pass0) pa_nil))) pa_nil))) pss_nil), ?_⟩
    exact (q_retS W (es_cb rc_repr (eas_cons (es_lst (eas_cons (es_cb rc_ownTx (eas_cons (es_propI (j := 0) rfl rfl) eas_nil)) (eas_cons (es_propI (j := 0) rfl rfl) eas_nil))) eas_nil)) hM k)
abbrev N_law_right : List Str := ["_law_purse_here", "_law_bench", "_law_full", "_law_title_here", "_law_some", "_law_k", "_law_before", "_law_last", "_law_turn", "_law_x", "_law_y", "_law_z", "_law_w", "_law_v", "_law_seen", "_law_due", "_law_odd"]
theorem sc_law_right : FnScope N_law_right ["_law_purse_here"] (defScope s_law_right) := ⟨rfl, rfl, rfl, by decide +kernel, rfl, by decide +kernel, by decide +kernel⟩
theorem ok_law_right (T : Tx w K mg base a d) : FnG P w K mg base CX0 13 (a 49) (d 49) ["_law_purse_here"] (spS (b0 m_law_right)) := by
  refine Fun.okL T.f_law_right T.ca_law_right.code sc_law_right (fun vs H Q E h => ?_) (fun A outer s H vs Q E hgd hr h => ?_)
  · obtain ⟨B, p, u, R, rfl, _⟩ := ss0 h
    rfl
  · obtain ⟨B, p, u, R, rfl, sB, W, hM, k⟩ := ss0 h
    have nd := sc_law_right.nd
    refine ⟨_, (pss_cons (ps_asg (pe_tup (pa_cons (pe_make T.mk_Shelf (ok_Shelf___init__ T) (hr.mono (by decide)) (by rfl) T.g_Shelf T.bd_Shelf___init__ .nil pass0 (pa_cons pe_str pa_nil)) (pa_cons (pe_make T.mk_Shelf (ok_Shelf___init__ T) (hr.mono (by decide)) (by rfl) T.g_Shelf T.bd_Shelf___init__ .nil pass0 (pa_cons pe_str pa_nil)) pa_nil))) (pg_tupK (K := K) rfl (by rfl) (pgs_cons (pg_name (i := 1) nd rfl (Or.inr rfl)) (pgs_cons (pg_name (i := 2) nd rfl (Or.inr rfl)) pgs_nil)))) (pss_cons (ps_for PassesOwn.never rfl (pi_anyK (K := K) rfl (pe_lst (pa_cons (pe_tup (pa_cons pe_str (pa_cons (pe_tup (pa_cons pe_str pa_nil)) pa_nil))) (pa_cons (pe_tup (pa_cons pe_str (pa_cons (pe_tup (pa_cons pe_str pa_nil)) pa_nil))) (pa_cons (pe_tup (pa_cons pe_str (pa_cons (pe_tup (pa_cons pe_str (pa_cons pe_str pa_nil))) pa_nil))) (pa_cons (pe_tup (pa_cons pe_str (pa_cons (pe_tup (pa_cons pe_str pa_nil)) pa_nil))) pa_nil)))))) (pg_tupK (K := K) rfl (by rfl) (pgs_cons (pg_name (i := 3) nd rfl (Or.inl rfl)) (pgs_cons (pg_name (i := 4) nd rfl (Or.inl rfl)) pgs_nil))) (pss_cons (ps_expr (pe_meth (pv 1) T.cl_Shelf T.mt_Shelf_put (okx_Shelf_put T) (hr.mono (by decide)) T.bd_Shelf_put .nil passF (pa_cons (pv 3) (pa_cons (pv 4) pa_nil)))) pss_nil)) (pss_cons (ps_for PassesOwn.never rfl (pi_range1 (by rfl) T.b_range (pa_cons pe_int pa_nil)) (pg_name (i := 5) nd rfl (Or.inl rfl)) (pss_cons (ps_expr (pe_meth (pv 2) T.cl_Shelf T.mt_Shelf_put (okx_Shelf_put T) (hr.mono (by decide)) T.bd_Shelf_put .nil passF (pa_cons (pe_op (op_addK (K := K) rfl) (pe_op (op_addK (K := K) rfl) pe_str (pe_ix (ix_anyK (K := K) rfl hr.units) pe_str (pe_op op_fdiv (pv 5) pe_int) (fun _ _ => rfl))) (pe_ix (ix_anyK (K := K) rfl hr.units) pe_str (pe_op op_mod (pv 5) pe_int) (fun _ _ => rfl))) (pa_cons (pe_tup (pa_cons (pe_ix (ix_anyK (K := K) rfl hr.units) (pe_propK (K := K) rfl (pe_propK (K := K) rfl (pv 2) T.cl_Shelf T.pr_Shelf_web.choose_spec (ok_Shelf_web T) (hr.mono (by decide)) T.bd_Shelf_web pass0) T.cl_Web T.pr_Web_names.choose_spec (ok_Web_names T) (hr.mono (by decide)) T.bd_Web_names pass0) (pe_un un_neg pe_int) (fun _ _ => rfl)) pa_nil)) pa_nil)))) pss_nil)) (pss_cons (ps_par (i := 6) (j := 7) (by rfl) nd rfl rfl (by decide) rfl rfl (pa_cons (pe_callG (ok_law_shot T) hgd (hr.mono (by decide)) (by rfl) T.g_law_shot T.f_law_shot.kp T.bd_law_shot .nil pass0 (pa_cons (pv 1) pa_nil)) (pa_cons (pe_callG (ok_law_shot T) hgd (hr.mono (by decide)) (by rfl) T.g_law_shot T.f_law_shot.kp T.bd_law_shot .nil pass0 (pa_cons (pv 2) pa_nil)) pa_nil)) (by rfl)) (pss_cons (ps_for PassesOwn.never rfl (pi_range1 (by rfl) T.b_range (pa_cons pe_int pa_nil)) (pg_name (i := 8) nd rfl (Or.inl rfl)) (pss_cons (ps_set (i := 9) nd rfl (Or.inr rfl) (pe_ix (ix_anyK (K := K) rfl hr.units) (pe_lst (pa_cons pe_non (pa_cons pe_int (pa_cons pe_str (pa_cons pe_str (pa_cons pe_str (pa_cons pe_str (pa_cons (pe_tup (pa_cons pe_str pa_nil)) (pa_cons (pe_lst pa_nil) (pa_cons (pe_frz pe_dnewK) (pa_cons pe_bl (pa_cons pe_str (pa_cons pe_str pa_nil))))))))))))) (pe_call (ok_law_draw T) (hr.mono (by decide)) (by rfl) T.g_law_draw T.f_law_draw.kp T.bd_law_draw .nil pass0 (pa_cons (pv 0) (pa_cons pe_int pa_nil))) (fun _ _ => rfl))) (pss_cons (ps_set (i := 10) nd rfl (Or.inr rfl) (pe_ix (ix_anyK (K := K) rfl hr.units) (pe_lst (pa_cons pe_non (pa_cons pe_int (pa_cons pe_str (pa_cons pe_str (pa_cons pe_str (pa_cons pe_str (pa_cons pe_str (pa_cons (pe_tup (pa_cons pe_str pa_nil)) (pa_cons (pe_lst pa_nil) (pa_cons (pe_frz pe_dnewK) (pa_cons pe_bl (pa_cons pe_str pa_nil))))))))))))) (pe_call (ok_law_draw T) (hr.mono (by decide)) (by rfl) T.g_law_draw T.f_law_draw.kp T.bd_law_draw .nil pass0 (pa_cons (pv 0) (pa_cons pe_int pa_nil))) (fun _ _ => rfl))) (pss_cons (ps_set (i := 4) nd rfl (Or.inl rfl) (pe_lst (pa_cons pe_non (pa_cons pe_str (pa_cons (pe_tup pa_nil) (pa_cons (pe_tup (pa_cons pe_str pa_nil)) (pa_cons (pe_tup (pa_cons pe_str (pa_cons pe_str pa_nil))) (pa_cons (pe_lst (pa_cons pe_str pa_nil)) (pa_cons (pe_tup (pa_cons pe_str (pa_cons pe_str pa_nil))) (pa_cons (pe_tup (pa_cons pe_str (pa_cons pe_str (pa_cons pe_str pa_nil)))) (pa_cons (pe_tup (pa_cons pe_non pa_nil)) (pa_cons (pe_frz pe_dnewK) (pa_cons pe_int pa_nil))))))))))))) (pss_cons (ps_set (i := 11) nd rfl (Or.inr rfl) (pe_ix (ix_anyK (K := K) rfl hr.units) (pv 4) (pe_call (ok_law_draw T) (hr.mono (by decide)) (by rfl) T.g_law_draw T.f_law_draw.kp T.bd_law_draw .nil pass0 (pa_cons (pv 0) (pa_cons pe_int pa_nil))) (fun _ _ => rfl))) (pss_cons (ps_set (i := 12) nd rfl (Or.inr rfl) (pe_ix (ix_anyK (K := K) rfl hr.units) (pe_lst (pa_cons pe_non (pa_cons pe_int (pa_cons pe_str (pa_cons pe_str (pa_cons (pe_tup (pa_cons pe_str pa_nil)) (pa_cons (pe_lst (pa_cons pe_str pa_nil)) (pa_cons (pe_frz pe_dnewK) (pa_cons pe_bl (pa_cons pe_str (pa_cons pe_str pa_nil))))))))))) (pe_call (ok_law_draw T) (hr.mono (by decide)) (by rfl) T.g_law_draw T.f_law_draw.kp T.bd_law_draw .nil pass0 (pa_cons (pv 0) (pa_cons pe_int pa_nil))) (fun _ _ => rfl))) (pss_cons (ps_set (i := 13) nd rfl (Or.inr rfl) (pe_ix (ix_anyK (K := K) rfl hr.units) (pe_lst (pa_cons pe_str (pa_cons pe_str (pa_cons pe_str pa_nil)))) (pe_call (ok_law_draw T) (hr.mono (by decide)) (by rfl) T.g_law_draw T.f_law_draw.kp T.bd_law_draw .nil pass0 (pa_cons (pv 0) (pa_cons pe_int pa_nil))) (fun _ _ => rfl))) (pss_cons (ps_set (i := 14) nd rfl (Or.inl rfl) (pe_lst (pa_cons (pe_told (k := 10) T.f_law_told (by rfl) T.g_law_told T.f_law_told.kp T.bd_law_told told_s told_is (okq_law_sort T) (okq_law_attribute T) hgd (hr.mono (by decide)) (by decide) (by decide) T.g_WrongValue T.g_NoAnswer T.g_law_sort T.g_law_attribute T.f_law_sort.kp T.f_law_attribute.kp T.bd_law_sort T.bd_law_attribute T.ca_law_right rfl (LamX.lamS_by (by kernel_rfl)) (by rfl) (fun _ _ _ _ _ => rfl) (fun A outer s H E f c hr => (pe_make T.mk_Shelf (okx_Shelf_init T) (hr.mono (by decide)) (by rfl) T.g_Shelf T.bd_Shelf___init__ .nil (passLK rfl rfl) (pa_cons (pv 9) pa_nil)))) pa_nil))) (pss_cons (ps_expr (pe_appK (K := K) rfl (pv 14) (pa_cons (pe_told (k := 8) T.f_law_told (by rfl) T.g_law_told T.f_law_told.kp T.bd_law_told told_s told_is (okq_law_sort T) (okq_law_attribute T) hgd (hr.mono (by decide)) (by decide) (by decide) T.g_WrongValue T.g_NoAnswer T.g_law_sort T.g_law_attribute T.f_law_sort.kp T.f_law_attribute.kp T.bd_law_sort T.bd_law_attribute T.ca_law_right rfl (LamX.lamS_by (by kernel_rfl)) (by rfl) (fun _ _ _ _ _ => rfl) (fun A outer s H E f c hr => (pe_meth (pv 1) T.cl_Shelf T.mt_Shelf_put (okx_Shelf_put T) (hr.mono (by decide)) T.bd_Shelf_put .nil (passLK rfl rfl) (pa_cons (pv 10) (pa_cons (pv 11) pa_nil))))) pa_nil))) (pss_cons (ps_expr (pe_appK (K := K) rfl (pv 14) (pa_cons (pe_told (k := 8) T.f_law_told (by rfl) T.g_law_told T.f_law_told.kp T.bd_law_told told_s told_is (okq_law_sort T) (okq_law_attribute T) hgd (hr.mono (by decide)) (by decide) (by decide) T.g_WrongValue T.g_NoAnswer T.g_law_sort T.g_law_attribute T.f_law_sort.kp T.f_law_attribute.kp T.bd_law_sort T.bd_law_attribute T.ca_law_right rfl (LamX.lamS_by (by kernel_rfl)) (by rfl) (fun _ _ _ _ _ => rfl) (fun A outer s H E f c hr => (pe_meth (pv 1) T.cl_Shelf T.mt_Shelf_put (okx_Shelf_put T) (hr.mono (by decide)) T.bd_Shelf_put .nil (passLK rfl rfl) (pa_cons pe_str (pa_cons (pv 11) pa_nil))))) pa_nil))) (pss_cons (ps_expr (pe_appK (K := K) rfl (pv 14) (pa_cons (pe_told (k := 8) T.f_law_told (by rfl) T.g_law_told T.f_law_told.kp T.bd_law_told told_s told_is (okq_law_sort T) (okq_law_attribute T) hgd (hr.mono (by decide)) (by decide) (by decide) T.g_WrongValue T.g_NoAnswer T.g_law_sort T.g_law_attribute T.f_law_sort.kp T.f_law_attribute.kp T.bd_law_sort T.bd_law_attribute T.ca_law_right rfl (LamX.lamS_by (by kernel_rfl)) (by rfl) (fun _ _ _ _ _ => rfl) (fun A outer s H E f c hr => (pe_meth (pv 1) T.cl_Shelf T.mt_Shelf_put (okx_Shelf_put T) (hr.mono (by decide)) T.bd_Shelf_put .nil (passLK rfl rfl) (pa_cons pe_str (pa_cons (pe_tup (pa_cons pe_str (pa_cons pe_str pa_nil))) pa_nil))))) pa_nil))) (pss_cons (ps_expr (pe_appK (K := K) rfl (pv 14) (pa_cons (pe_told (k := 8) T.f_law_told (by rfl) T.g_law_told T.f_law_told.kp T.bd_law_told told_s told_is (okq_law_sort T) (okq_law_attribute T) hgd (hr.mono (by decide)) (by decide) (by decide) T.g_WrongValue T.g_NoAnswer T.g_law_sort T.g_law_attribute T.f_law_sort.kp T.f_law_attribute.kp T.bd_law_sort T.bd_law_attribute T.ca_law_right rfl (LamX.lamS_by (by kernel_rfl)) (by rfl) (fun _ _ _ _ _ => rfl) (fun A outer s H E f c hr => (pe_meth (pv 1) T.cl_Shelf T.mt_Shelf_put (okx_Shelf_put T) (hr.mono (by decide)) T.bd_Shelf_put .nil (passLK rfl rfl) (pa_cons pe_str (pa_cons (pe_tup (pa_cons pe_str (pa_cons pe_str pa_nil))) pa_nil))))) pa_nil))) (pss_cons (ps_expr (pe_appK (K := K) rfl (pv 14) (pa_cons (pe_told (k := 8) T.f_law_told (by rfl) T.g_law_told T.f_law_told.kp T.bd_law_told told_s told_is (okq_law_sort T) (okq_law_attribute T) hgd (hr.mono (by decide)) (by decide) (by decide) T.g_WrongValue T.g_NoAnswer T.g_law_sort T.g_law_attribute T.f_law_sort.kp T.f_law_attribute.kp T.bd_law_sort T.bd_law_attribute T.ca_law_right rfl (LamX.lamS_by (by kernel_rfl)) (by rfl) (fun _ _ _ _ _ => rfl) (fun A outer s H E f c hr => (pe_meth (pv 1) T.cl_Shelf T.mt_Shelf_take (okx_Shelf_take T) (hr.mono (by decide)) T.bd_Shelf_take .nil (passLK rfl rfl) (pa_cons (pv 12) pa_nil)))) pa_nil))) (pss_cons (ps_expr (pe_appK (K := K) rfl (pv 14) (pa_cons (pe_told (k := 8) T.f_law_told (by rfl) T.g_law_told T.f_law_told.kp T.bd_law_told told_s told_is (okq_law_sort T) (okq_law_attribute T) hgd (hr.mono (by decide)) (by decide) (by decide) T.g_WrongValue T.g_NoAnswer T.g_law_sort T.g_law_attribute T.f_law_sort.kp T.f_law_attribute.kp T.bd_law_sort T.bd_law_attribute T.ca_law_right rfl (LamX.lamS_by (by kernel_rfl)) (by rfl) (fun _ _ _ _ _ => rfl) (fun A outer s H E f c hr => (pe_meth (pv 1) T.cl_Shelf T.mt_Shelf_take (okx_Shelf_take T) (hr.mono (by decide)) T.bd_Shelf_take .nil (passLK rfl rfl) (pa_cons (pv 13) pa_nil)))) pa_nil))) (pss_cons (ps_expr (pe_appK (K := K) rfl (pv 14) (pa_cons (pe_told (k := 8) T.f_law_told (by rfl) T.g_law_told T.f_law_told.kp T.bd_law_told told_s told_is (okq_law_sort T) (okq_law_attribute T) hgd (hr.mono (by decide)) (by decide) (by decide) T.g_WrongValue T.g_NoAnswer T.g_law_sort T.g_law_attribute T.f_law_sort.kp T.f_law_attribute.kp T.bd_law_sort T.bd_law_attribute T.ca_law_right rfl (LamX.lamS_by (by kernel_rfl)) (by rfl) (fun _ _ _ _ _ => rfl) (fun A outer s H E f c hr => (pe_meth (pv 2) T.cl_Shelf T.mt_Shelf_put (okx_Shelf_put T) (hr.mono (by decide)) T.bd_Shelf_put .nil (passLK rfl rfl) (pa_cons pe_str (pa_cons (pe_tup (pa_cons pe_str pa_nil)) pa_nil))))) pa_nil))) (pss_cons (ps_expr (pe_appK (K := K) rfl (pv 14) (pa_cons (pe_told (k := 8) T.f_law_told (by rfl) T.g_law_told T.f_law_told.kp T.bd_law_told told_s told_is (okq_law_sort T) (okq_law_attribute T) hgd (hr.mono (by decide)) (by decide) (by decide) T.g_WrongValue T.g_NoAnswer T.g_law_sort T.g_law_attribute T.f_law_sort.kp T.f_law_attribute.kp T.bd_law_sort T.bd_law_attribute T.ca_law_right rfl (LamX.lamS_by (by kernel_rfl)) (by rfl) (fun _ _ _ _ _ => rfl) (fun A outer s H E f c hr => (pe_meth (pv 2) T.cl_Shelf T.mt_Shelf_put (okx_Shelf_put T) (hr.mono (by decide)) T.bd_Shelf_put .nil (passLK rfl rfl) (pa_cons pe_str (pa_cons (pe_tup (pa_cons pe_str pa_nil)) pa_nil))))) pa_nil))) (pss_cons (ps_set (i := 15) nd rfl (Or.inl rfl) (pe_lst (pa_cons (pe_tup (pa_cons pe_str (pa_cons (pe_callB (call_reprD (b := base) rfl hgd hr.units) (by rfl) T.b_repr bb_repr (pa_cons (pv 9) pa_nil)) pa_nil))) (pa_cons (pe_tup (pa_cons pe_str (pa_cons (pe_callB (call_reprD (b := base) rfl hgd hr.units) (by rfl) T.b_repr bb_repr (pa_cons (pv 10) pa_nil)) pa_nil))) (pa_cons (pe_tup (pa_cons pe_str (pa_cons (pe_callB (call_reprD (b := base) rfl hgd hr.units) (by rfl) T.b_repr bb_repr (pa_cons (pv 11) pa_nil)) pa_nil))) pa_nil))))) (pss_cons (ps_set (i := 15) nd rfl (Or.inl rfl) (pe_op (op_addK (K := K) rfl) (pv 15) (pe_lst (pa_cons (pe_tup (pa_cons pe_str (pa_cons (pe_callB (call_reprK (K := K) rfl hgd hr.units) (by rfl) T.b_repr bb_repr (pa_cons pe_str pa_nil)) pa_nil))) pa_nil)))) (pss_cons (ps_set (i := 15) nd rfl (Or.inl rfl) (pe_op (op_addK (K := K) rfl) (pv 15) (pe_lst (pa_cons (pe_tup (pa_cons pe_str (pa_cons (pe_callB (call_reprK (K := K) rfl hgd hr.units) (by rfl) T.b_repr bb_repr (pa_cons pe_str pa_nil)) pa_nil))) (pa_cons (pe_tup (pa_cons pe_str (pa_cons (pe_callB (call_reprD (b := base) rfl hgd hr.units) (by rfl) T.b_repr bb_repr (pa_cons (pv 12) pa_nil)) pa_nil))) (pa_cons (pe_tup (pa_cons pe_str (pa_cons (pe_callB (call_reprD (b := base) rfl hgd hr.units) (by rfl) T.b_repr bb_repr (pa_cons (pv 13) pa_nil)) pa_nil))) (pa_cons (pe_tup (pa_cons pe_str (pa_cons pe_str pa_nil))) pa_nil))))))) (pss_cons (ps_if (pt_cmpR (op_neU hr.units) (pv 14) (pe_op (op_addK (K := K) rfl) (pv 15) (pe_lst (pa_cons (pe_tup (pa_cons pe_str (pa_cons (pe_callB (call_reprK (K := K) rfl hgd hr.units) (by rfl) T.b_repr bb_repr (pa_cons (pe_tup (pa_cons pe_str pa_nil)) pa_nil)) pa_nil))) pa_nil))) (nomark _)) (pss_cons (ps_ret pe_bl) pss_nil) pss_nil) (pss_cons (ps_if (PW.pt (pw_or (pt_cmpR (op_neU hr.units) (pe_callG (ok_law_shot T) hgd (hr.mono (by decide)) (by rfl) T.g_law_shot T.f_law_shot.kp T.bd_law_shot .nil pass0 (pa_cons (pv 1) pa_nil)) (pv 6) (nomark _)) (pw_or1 (pt_cmpR (op_neU hr.units) (pe_callG (ok_law_shot T) hgd (hr.mono (by decide)) (by rfl) T.g_law_shot T.f_law_shot.kp T.bd_law_shot .nil pass0 (pa_cons (pv 2) pa_nil)) (pv 7) (nomark _))))) (pss_cons (ps_ret pe_bl) pss_nil) pss_nil) pss_nil))))))))))))))))))))) (pss_cons (ps_for PassesOwn.never rfl (pi_listK (K := K) rfl (pe_lst (pa_cons pe_non (pa_cons pe_int (pa_cons pe_str (pa_cons (pe_propK (K := K) rfl (pv 1) T.cl_Shelf T.pr_Shelf_web.choose_spec (ok_Shelf_web T) (hr.mono (by decide)) T.bd_Shelf_web pass0) (pa_cons (pe_lst (pa_cons (pv 1) pa_nil)) (pa_cons pe_dnewK pa_nil)))))))) (pg_name (i := 16) nd rfl (Or.inl rfl)) (pss_cons (ps_if (PW.pt (pw_or (pt_cmpR (op_oddAEq (C := CTab.ct 23) (CW := CTab.ct 0) (K := K) rfl T.od_Shelf (okd_Web___eq__ T) (hr.mono (by decide)) T.mt_Web___eq__.at_ T.mt_Web___eq__.fn T.bd_Web___eq__ pass0) (pv 1) (pv 16) (nomark _)) (pw_or1 (pt_not (pt_cmpR (op_oddANe (C := CTab.ct 23) (CW := CTab.ct 0) (K := K) rfl T.od_Shelf (okd_Web___eq__ T) (hr.mono (by decide)) T.mt_Web___eq__.at_ T.mt_Web___eq__.fn T.bd_Web___eq__ pass0) (pv 1) (pv 16) (nomark _)))))) (pss_cons (ps_ret pe_bl) pss_nil) pss_nil) pss_nil)) (pss_cons (ps_if (PW.pt (pw_or (pt_cmpR op_isNotU (pe_meth (pv 1) T.cl_Shelf T.mt_Shelf_put (okx_Shelf_put T) (hr.mono (by decide)) T.bd_Shelf_put .nil passF (pa_cons pe_str (pa_cons (pe_tup (pa_cons pe_str (pa_cons pe_str pa_nil))) pa_nil))) pe_non (nomark _)) (pw_or (pt_cmpR op_isNotU (pe_meth (pv 1) T.cl_Shelf T.mt_Shelf_take (okx_Shelf_take T) (hr.mono (by decide)) T.bd_Shelf_take .nil passF (pa_cons pe_str pa_nil)) pe_non (nomark _)) (pw_or1 (pt_cmpR op_isNotU (pe_meth (pv 1) T.cl_Shelf T.mt_Shelf_take (okx_Shelf_take T) (hr.mono (by decide)) T.bd_Shelf_take .nil passF (pa_cons pe_str pa_nil)) pe_non (nomark _)))))) (pss_cons (ps_ret pe_bl) pss_nil) pss_nil) (pss_cons (ps_ret (pe_and (pe_cmpR (op_eqU hr.units) (pe_lc (own := [("_law_k", 5)]) (g := gName 5) (tt := tYes) (by rfl) nd (pi_range1 (by rfl) T.b_range (pa_cons pe_int pa_nil)) (blkOk_by (own := [("_law_k", 5)]) (N := N_law_right) (sc := defScope s_law_right) (by decide +kernel)) (fun _ _ _ _ _ => pg_name (i := 5) nd rfl (Or.inl rfl)) (fun _ _ _ _ _ => pts_nil) (fun _ _ _ _ _ => (pe_meth0 (pv 1) T.cl_Shelf T.mt_Shelf_undo (ok_Shelf_undo T) (hr.mono (by decide)) T.bd_Shelf_undo .nil pass0))) (pe_op op_mulU (pe_lst (pa_cons pe_non pa_nil)) pe_int) (nomark _)) (pe_one (pe_cmpR (op_eqU hr.units) (pe_callG (ok_law_shot T) hgd (hr.mono (by decide)) (by rfl) T.g_law_shot T.f_law_shot.kp T.bd_law_shot .nil pass0 (pa_cons (pv 1) pa_nil)) (pv 6) (nomark _))))) pss_nil)))))))), ?_⟩
    exact (q_tupNN W (en_makeI (eas_of (H := H) (ea_cons eo_str ea_nil))) (en_makeI (eas_of (H := H) (ea_cons eo_str ea_nil))) hM fun ad16 ad17 B10 H11 us12 W13 s14 h15 => (q_withS h15 fun kL18 ekL19 h20 => q_forS W13 (eis_of (H := H) (ei_any (eo_lst (ea_cons (eo_tup (ea_cons eo_str (ea_cons (eo_tup (ea_cons eo_str ea_nil)) ea_nil))) (ea_cons (eo_tup (ea_cons eo_str (ea_cons (eo_tup (ea_cons eo_str ea_nil)) ea_nil))) (ea_cons (eo_tup (ea_cons eo_str (ea_cons (eo_tup (ea_cons eo_str (ea_cons eo_str ea_nil))) ea_nil))) (ea_cons (eo_tup (ea_cons eo_str (ea_cons (eo_tup (ea_cons eo_str ea_nil)) ea_nil))) ea_nil))))))) h20 fun xs21 B22 H23 us25 W26 s27 h24 => ⟨fun l28 sg29 B30 H31 => ∃ (o32 : Option V) (o33 : Option V) (o34 : Option V) (o35 : Option V) (o36 : Option V) (o37 : Option V) (o38 : Option V) (o39 : Option V) (o40 : Option V) (o41 : Option V) (o42 : Option V) (o43 : Option V) (o44 : Option V) (o45 : Option V) (us46 : List U), sg29 = [some (.ref p), some (.ref ad16), some (.ref ad17), o32, o33, o34, o35, o36, o37, o38, o39, o40, o41, o42, o43, o44, o45] ∧ Same B22 B30 ∧ Wh (bsM B H p) B30 H31 [p, ad16, ad17] us46 ∧ m_law_right_l1 kL18 l28 us46 = some R, ⟨_, _, _, _, _, _, _, _, _, _, _, _, _, _, us25, rfl, Same.refl _, W26, h24⟩, fun _ _ _ _ ⟨_, _, _, _, _, _, _, _, _, _, _, _, _, _, _, _, sX, WX, _⟩ => ⟨sX, WX.s⟩, fun u47 l48 v49 sg410 B50 H51 B52 H53 hR g54 r55 => (by obtain ⟨_, _, _, _, _, _, _, _, _, _, _, _, _, _, us59, rfl, s57, W60, h58⟩ := hR; exact g_twoS g54.bh r55 h58 fun u62 u63 v64 v65 r66 r67 h68 => (q_exprS (W60.go g54) (es_nox (exs_methI (j := 1) rfl rfl (eas_of (H := H) (ea_cons (eo_var rfl r66) (ea_cons (eo_var rfl r67) ea_nil))))) h68 fun x69 B70 H71 us72 W73 s74 h75 => ⟨_, _, _, _, _, _, _, _, _, _, _, _, _, _, _, _, rfl, ((s57.trans g54.b).trans s74), W73, h75⟩)), fun sg81 B82 H83 hR => (by obtain ⟨_, _, _, _, _, _, _, _, _, _, _, _, _, _, us79, rfl, s77, W80, h78⟩ := hR; have h84 : kL18 us79 = some R := h78; subst ekL19; exact (q_withS h84 fun kL85 ekL86 h87 => q_forS W80 (eis_of (H := H) (ei_rng1 (ea_cons eo_int ea_nil))) h87 fun xs88 B89 H90 us92 W93 s94 h91 => ⟨fun l95 sg96 B97 H98 => ∃ (o99 : Option V) (o100 : Option V) (o101 : Option V) (o102 : Option V) (o103 : Option V) (o104 : Option V) (o105 : Option V) (o106 : Option V) (o107 : Option V) (o108 : Option V) (o109 : Option V) (o110 : Option V) (o111 : Option V) (o112 : Option V) (us113 : List U), sg96 = [some (.ref p), some (.ref ad16), some (.ref ad17), o99, o100, o101, o102, o103, o104, o105, o106, o107, o108, o109, o110, o111, o112] ∧ Same B89 B97 ∧ Wh (bsM B H p) B97 H98 [p, ad16, ad17] us113 ∧ m_law_right_l2 kL85 l95 us113 = some R, ⟨_, _, _, _, _, _, _, _, _, _, _, _, _, _, us92, rfl, Same.refl _, W93, h91⟩, fun _ _ _ _ ⟨_, _, _, _, _, _, _, _, _, _, _, _, _, _, _, _, sX, WX, _⟩ => ⟨sX, WX.s⟩, fun u114 l115 v116 sg409 B117 H118 B119 H120 hR g121 r122 => (by obtain ⟨_, _, _, _, _, _, _, _, _, _, _, _, _, _, us126, rfl, s124, W127, h125⟩ := hR; exact (q_exprS (W127.go g121) (es_nox (exs_methI (j := 2) rfl rfl (eas_cons (es_of (H := H) (eo_op2 rv_add (eo_op2 rv_add eo_str (eo_op2 rv_get eo_str (eo_op2 rv_fdiv (eo_var rfl r122) eo_int))) (eo_op2 rv_get eo_str (eo_op2 rv_mod (eo_var rfl r122) eo_int)))) (eas_cons (es_tup (eas_cons (es_op2 rv_get (es_prop (es_propI (j := 2) rfl rfl)) (es_of (H := H) (eo_op1 ru_neg eo_int))) eas_nil)) eas_nil)))) h125 fun x129 B130 H131 us132 W133 s134 h135 => ⟨_, _, _, _, _, _, _, _, _, _, _, _, _, _, _, _, rfl, ((s124.trans g121.b).trans s134), W133, h135⟩)), fun sg141 B142 H143 hR => (by obtain ⟨_, _, _, _, _, _, _, _, _, _, _, _, _, _, us139, rfl, s137, W140, h138⟩ := hR; have h144 : kL85 us139 = some R := h138; subst ekL86; exact (q_parS W140 (eas_cons (es_callI (j := 1) rfl rfl (eas_of (H := H) ea_nil)) (eas_cons (es_callI (j := 2) rfl rfl (eas_of (H := H) ea_nil)) eas_nil)) h144 fun x145 x146 v147 v148 B149 H150 us154 W155 s156 r151 r152 h153 => (q_withS h153 fun kL157 ekL158 h159 => q_forS W155 (eis_of (H := H) (ei_rng1 (ea_cons eo_int ea_nil))) h159 fun xs160 B161 H162 us164 W165 s166 h163 => ⟨fun l167 sg168 B169 H170 => ∃ (o171 : Option V) (o172 : Option V) (o173 : Option V) (o174 : Option V) (o175 : Option V) (o176 : Option V) (o177 : Option V) (o178 : Option V) (o179 : Option V) (o180 : Option V) (o181 : Option V) (o182 : Option V) (us183 : List U), sg168 = [some (.ref p), some (.ref ad16), some (.ref ad17), o171, o172, o173, some v147, some v148, o174, o175, o176, o177, o178, o179, o180, o181, o182] ∧ Same B161 B169 ∧ Wh (bsM B H p) B169 H170 [p, ad16, ad17] us183 ∧ m_law_right_l3 x145 x146 kL157 l167 us183 = some R, ⟨_, _, _, _, _, _, _, _, _, _, _, _, us164, rfl, Same.refl _, W165, h163⟩, fun _ _ _ _ ⟨_, _, _, _, _, _, _, _, _, _, _, _, _, _, sX, WX, _⟩ => ⟨sX, WX.s⟩, fun u184 l185 v186 sg408 B187 H188 B189 H190 hR g191 r192 => (by obtain ⟨_, _, _, _, _, _, _, _, _, _, _, _, us196, rfl, s194, W197, h195⟩ := hR; exact (q_asgS (W197.go g191) (es_op2 rv_get (es_of (H := H) (eo_lst (ea_cons eo_non (ea_cons eo_int (ea_cons eo_str (ea_cons eo_str (ea_cons eo_str (ea_cons eo_str (ea_cons (eo_tup (ea_cons eo_str ea_nil)) (ea_cons (eo_lst ea_nil) (ea_cons eo_dnil (ea_cons eo_bl (ea_cons eo_str (ea_cons eo_str ea_nil)))))))))))))) (es_callM (j := 0) rfl rfl (eas_of (H := H) (ea_cons eo_int ea_nil)))) h195 fun x199 v200 B201 H202 us205 W206 s207 r204 h203 => (q_asgS W206 (es_op2 rv_get (es_of (H := H) (eo_lst (ea_cons eo_non (ea_cons eo_int (ea_cons eo_str (ea_cons eo_str (ea_cons eo_str (ea_cons eo_str (ea_cons eo_str (ea_cons (eo_tup (ea_cons eo_str ea_nil)) (ea_cons (eo_lst ea_nil) (ea_cons eo_dnil (ea_cons eo_bl (ea_cons eo_str ea_nil)))))))))))))) (es_callM (j := 0) rfl rfl (eas_of (H := H) (ea_cons eo_int ea_nil)))) h203 fun x208 v209 B210 H211 us214 W215 s216 r213 h212 => (q_asgS W215 (es_of (H := H) (eo_lst (ea_cons eo_non (ea_cons eo_str (ea_cons (eo_tup ea_nil) (ea_cons (eo_tup (ea_cons eo_str ea_nil)) (ea_cons (eo_tup (ea_cons eo_str (ea_cons eo_str ea_nil))) (ea_cons (eo_lst (ea_cons eo_str ea_nil)) (ea_cons (eo_tup (ea_cons eo_str (ea_cons eo_str ea_nil))) (ea_cons (eo_tup (ea_cons eo_str (ea_cons eo_str (ea_cons eo_str ea_nil)))) (ea_cons (eo_tup (ea_cons eo_non ea_nil)) (ea_cons eo_dnil (ea_cons eo_int ea_nil))))))))))))) h212 fun x217 v218 B219 H220 us223 W224 s225 r222 h221 => (q_asgS W224 (es_op2 rv_get (es_of (H := H) (eo_var rfl r222)) (es_callM (j := 0) rfl rfl (eas_of (H := H) (ea_cons eo_int ea_nil)))) h221 fun x226 v227 B228 H229 us232 W233 s234 r231 h230 => (q_asgS W233 (es_op2 rv_get (es_of (H := H) (eo_lst (ea_cons eo_non (ea_cons eo_int (ea_cons eo_str (ea_cons eo_str (ea_cons (eo_tup (ea_cons eo_str ea_nil)) (ea_cons (eo_lst (ea_cons eo_str ea_nil)) (ea_cons eo_dnil (ea_cons eo_bl (ea_cons eo_str (ea_cons eo_str ea_nil)))))))))))) (es_callM (j := 0) rfl rfl (eas_of (H := H) (ea_cons eo_int ea_nil)))) h230 fun x235 v236 B237 H238 us241 W242 s243 r240 h239 => (q_asgS W242 (es_op2 rv_get (es_of (H := H) (eo_lst (ea_cons eo_str (ea_cons eo_str (ea_cons eo_str ea_nil))))) (es_callM (j := 0) rfl rfl (eas_of (H := H) (ea_cons eo_int ea_nil)))) h239 fun x244 v245 B246 H247 us250 W251 s252 r249 h248 => (q_newS W251 (en_lst (eas_of (H := H) (ea_cons (eo_told T.hx (ex_makeX (ea_cons (eo_var rfl (((((r204.sm s216).sm s225).sm s234).sm s243).sm s252)) ea_nil))) ea_nil))) h248 fun ad253 B254 H255 us256 W257 s258 h259 => (q_exprS W257 (es_app (j := 3) rfl rfl (es_told T.hx (exs_methI (j := 1) rfl rfl (eas_of (H := H) (ea_cons (eo_var rfl (((((r213.sm s225).sm s234).sm s243).sm s252).sm s258)) (ea_cons (eo_var rfl (((r231.sm s243).sm s252).sm s258)) ea_nil))))) (by repeat' (first | exact lk_pure | exact lk_pop | exact lk_app | exact lk_lockO | exact lk_lockT | exact lk_take | exact lk_callM (by decide) | exact lk_callI (by decide) | refine lk_methI (by decide) ?_ | refine lk_lockS (fun _ => ?_) | refine lk_bind ?_ (fun _ => ?_) | split | (unfold onR; split)))) h259 fun x260 B261 H262 us263 W264 s265 h266 => (q_exprS W264 (es_app (j := 3) rfl rfl (es_told T.hx (exs_methI (j := 1) rfl rfl (eas_of (H := H) (ea_cons eo_str (ea_cons (eo_var rfl ((((r231.sm s243).sm s252).sm s258).sm s265)) ea_nil))))) (by repeat' (first | exact lk_pure | exact lk_pop | exact lk_app | exact lk_lockO | exact lk_lockT | exact lk_take | exact lk_callM (by decide) | exact lk_callI (by decide) | refine lk_methI (by decide) ?_ | refine lk_lockS (fun _ => ?_) | refine lk_bind ?_ (fun _ => ?_) | split | (unfold onR; split)))) h266 fun x267 B268 H269 us270 W271 s272 h273 => (q_exprS W271 (es_app (j := 3) rfl rfl (es_told T.hx (exs_methI (j := 1) rfl rfl (eas_of (H := H) (ea_cons eo_str (ea_cons (eo_tup (ea_cons eo_str (ea_cons eo_str ea_nil))) ea_nil))))) (by repeat' (first | exact lk_pure | exact lk_pop | exact lk_app | exact lk_lockO | exact lk_lockT | exact lk_take | exact lk_callM (by decide) | exact lk_callI (by decide) | refine lk_methI (by decide) ?_ | refine lk_lockS (fun _ => ?_) | refine lk_bind ?_ (fun _ => ?_) | split | (unfold onR; split)))) h273 fun x274 B275 H276 us277 W278 s279 h280 => (q_exprS W278 (es_app (j := 3) rfl rfl (es_told T.hx (exs_methI (j := 1) rfl rfl (eas_of (H := H) (ea_cons eo_str (ea_cons (eo_tup (ea_cons eo_str (ea_cons eo_str ea_nil))) ea_nil))))) (by repeat' (first | exact lk_pure | exact lk_pop | exact lk_app | exact lk_lockO | exact lk_lockT | exact lk_take | exact lk_callM (by decide) | exact lk_callI (by decide) | refine lk_methI (by decide) ?_ | refine lk_lockS (fun _ => ?_) | refine lk_bind ?_ (fun _ => ?_) | split | (unfold onR; split)))) h280 fun x281 B282 H283 us284 W285 s286 h287 => (q_exprS W285 (es_app (j := 3) rfl rfl (es_told T.hx (exs_methI (j := 1) rfl rfl (eas_of (H := H) (ea_cons (eo_var rfl ((((((r240.sm s252).sm s258).sm s265).sm s272).sm s279).sm s286)) ea_nil)))) (by repeat' (first | exact lk_pure | exact lk_pop | exact lk_app | exact lk_lockO | exact lk_lockT | exact lk_take | exact lk_callM (by decide) | exact lk_callI (by decide) | refine lk_methI (by decide) ?_ | refine lk_lockS (fun _ => ?_) | refine lk_bind ?_ (fun _ => ?_) | split | (unfold onR; split)))) h287 fun x288 B289 H290 us291 W292 s293 h294 => (q_exprS W292 (es_app (j := 3) rfl rfl (es_told T.hx (exs_methI (j := 1) rfl rfl (eas_of (H := H) (ea_cons (eo_var rfl ((((((r249.sm s258).sm s265).sm s272).sm s279).sm s286).sm s293)) ea_nil)))) (by repeat' (first | exact lk_pure | exact lk_pop | exact lk_app | exact lk_lockO | exact lk_lockT | exact lk_take | exact lk_callM (by decide) | exact lk_callI (by decide) | refine lk_methI (by decide) ?_ | refine lk_lockS (fun _ => ?_) | refine lk_bind ?_ (fun _ => ?_) | split | (unfold onR; split)))) h294 fun x295 B296 H297 us298 W299 s300 h301 => (q_exprS W299 (es_app (j := 3) rfl rfl (es_told T.hx (exs_methI (j := 2) rfl rfl (eas_of (H := H) (ea_cons eo_str (ea_cons (eo_tup (ea_cons eo_str ea_nil)) ea_nil))))) (by repeat' (first | exact lk_pure | exact lk_pop | exact lk_app | exact lk_lockO | exact lk_lockT | exact lk_take | exact lk_callM (by decide) | exact lk_callI (by decide) | refine lk_methI (by decide) ?_ | refine lk_lockS (fun _ => ?_) | refine lk_bind ?_ (fun _ => ?_) | split | (unfold onR; split)))) h301 fun x302 B303 H304 us305 W306 s307 h308 => (q_exprS W306 (es_app (j := 3) rfl rfl (es_told T.hx (exs_methI (j := 2) rfl rfl (eas_of (H := H) (ea_cons eo_str (ea_cons (eo_tup (ea_cons eo_str ea_nil)) ea_nil))))) (by repeat' (first | exact lk_pure | exact lk_pop | exact lk_app | exact lk_lockO | exact lk_lockT | exact lk_take | exact lk_callM (by decide) | exact lk_callI (by decide) | refine lk_methI (by decide) ?_ | refine lk_lockS (fun _ => ?_) | refine lk_bind ?_ (fun _ => ?_) | split | (unfold onR; split)))) h308 fun x309 B310 H311 us312 W313 s314 h315 => (q_keepS (j := 3) W313 rfl h315 fun x316 B317 us318 W319 s320 r321 h322 => (q_asgS W319 (es_of (H := H) (eo_lst (ea_cons (eo_tup (ea_cons eo_str (ea_cons (eo_cb' (rc_reprD T.sm) (ea_cons (eo_var rfl (((((((((((((((r204.sm s216).sm s225).sm s234).sm s243).sm s252).sm s258).sm s265).sm s272).sm s279).sm s286).sm s293).sm s300).sm s307).sm s314).sm s320)) ea_nil)) ea_nil))) (ea_cons (eo_tup (ea_cons eo_str (ea_cons (eo_cb' (rc_reprD T.sm) (ea_cons (eo_var rfl ((((((((((((((r213.sm s225).sm s234).sm s243).sm s252).sm s258).sm s265).sm s272).sm s279).sm s286).sm s293).sm s300).sm s307).sm s314).sm s320)) ea_nil)) ea_nil))) (ea_cons (eo_tup (ea_cons eo_str (ea_cons (eo_cb' (rc_reprD T.sm) (ea_cons (eo_var rfl ((((((((((((r231.sm s243).sm s252).sm s258).sm s265).sm s272).sm s279).sm s286).sm s293).sm s300).sm s307).sm s314).sm s320)) ea_nil)) ea_nil))) ea_nil))))) h322 fun x323 v324 B325 H326 us329 W330 s331 r328 h327 => (q_asgS W330 (es_of (H := H) (eo_op2 rv_add (eo_var rfl r328) (eo_lst (ea_cons (eo_tup (ea_cons eo_str (ea_cons (eo_cb' rc_repr (ea_cons eo_str ea_nil)) ea_nil))) ea_nil)))) h327 fun x332 v333 B334 H335 us338 W339 s340 r337 h336 => (q_asgS W339 (es_of (H := H) (eo_op2 rv_add (eo_var rfl r337) (eo_lst (ea_cons (eo_tup (ea_cons eo_str (ea_cons (eo_cb' rc_repr (ea_cons eo_str ea_nil)) ea_nil))) (ea_cons (eo_tup (ea_cons eo_str (ea_cons (eo_cb' (rc_reprD T.sm) (ea_cons (eo_var rfl (((((((((((((r240.sm s252).sm s258).sm s265).sm s272).sm s279).sm s286).sm s293).sm s300).sm s307).sm s314).sm s320).sm s331).sm s340)) ea_nil)) ea_nil))) (ea_cons (eo_tup (ea_cons eo_str (ea_cons (eo_cb' (rc_reprD T.sm) (ea_cons (eo_var rfl ((((((((((((r249.sm s258).sm s265).sm s272).sm s279).sm s286).sm s293).sm s300).sm s307).sm s314).sm s320).sm s331).sm s340)) ea_nil)) ea_nil))) (ea_cons (eo_tup (ea_cons eo_str (ea_cons eo_str ea_nil))) ea_nil))))))) h336 fun x341 v342 B343 H344 us347 W348 s349 r346 h345 => (q_ifS W348 (ets_of (H := H) (et_test (eo_op2 rv_ne (eo_var rfl (((r321.sm s331).sm s340).sm s349)) (eo_op2 rv_add (eo_var rfl r346) (eo_lst (ea_cons (eo_tup (ea_cons eo_str (ea_cons (eo_cb' rc_repr (ea_cons (eo_tup (ea_cons eo_str ea_nil)) ea_nil)) ea_nil))) ea_nil)))))) h345 (fun B350 H351 us356 W357 s358 h352 => (q_retS W357 (es_of (H := H) eo_bl) h352 k)) (fun B353 H354 us359 W360 s361 h355 => (tn (q_ifS W360 (ets_or (ets_test (es_op2 rv_ne (es_callI (j := 1) rfl rfl (eas_of (H := H) ea_nil)) (es_of (H := H) (eo_var rfl (((((((((((((((((((((((r151.sm s166).sm s194).up g191).sm s207).sm s216).sm s225).sm s234).sm s243).sm s252).sm s258).sm s265).sm s272).sm s279).sm s286).sm s293).sm s300).sm s307).sm s314).sm s320).sm s331).sm s340).sm s349).sm s361))))) (ets_test (es_op2 rv_ne (es_callI (j := 2) rfl rfl (eas_of (H := H) ea_nil)) (es_of (H := H) (eo_var rfl (((((((((((((((((((((((r152.sm s166).sm s194).up g191).sm s207).sm s216).sm s225).sm s234).sm s243).sm s252).sm s258).sm s265).sm s272).sm s279).sm s286).sm s293).sm s300).sm s307).sm s314).sm s320).sm s331).sm s340).sm s349).sm s361)))))) h355 (fun B362 H363 us368 W369 s370 h364 => (q_retS W369 (es_of (H := H) eo_bl) h364 k)) (fun B365 H366 us371 W372 s373 h367 => (tn ⟨_, _, _, _, _, _, _, _, _, _, _, _, _, _, rfl, ((((((((((((((((((((((s194.trans g191.b).trans s207).trans s216).trans s225).trans s234).trans s243).trans s252).trans s258).trans s265).trans s272).trans s279).trans s286).trans s293).trans s300).trans s307).trans s314).trans s320).trans s331).trans s340).trans s349).trans s361).trans s373), (W372.take 3 (.inl (by decide))), h367⟩)))))))))))))))))))))))))), fun sg379 B380 H381 hR => (by obtain ⟨_, _, _, _, _, _, _, _, _, _, _, _, us377, rfl, s375, W378, h376⟩ := hR; have h382 : kL157 us377 = some R := h376; subst ekL158; exact (q_odds (i := 1) (o := 16) (j := 1) (C := 23) (CW := 0) W378 rfl rfl (by decide) (by simp only [List.length_cons]; omega) (es_propI (j := 1) rfl rfl) h382 fun ov383 B384 H385 us386 W387 s388 h389 => (q_ifS W387 (ets_or (ets_test (es_op2 rv_isNot (es_nox (exs_methI (j := 1) rfl rfl (eas_of (H := H) (ea_cons eo_str (ea_cons (eo_tup (ea_cons eo_str (ea_cons eo_str ea_nil))) ea_nil))))) (es_of (H := H) eo_non))) (ets_or (ets_test (es_op2 rv_isNot (es_nox (exs_methI (j := 1) rfl rfl (eas_of (H := H) (ea_cons eo_str ea_nil)))) (es_of (H := H) eo_non))) (ets_test (es_op2 rv_isNot (es_nox (exs_methI (j := 1) rfl rfl (eas_of (H := H) (ea_cons eo_str ea_nil)))) (es_of (H := H) eo_non))))) h389 (fun B390 H391 us396 W397 s398 h392 => (q_retS W397 (es_of (H := H) eo_bl) h392 k)) (fun B393 H394 us399 W400 s401 h395 => (tn (q_retS W400 (es_and (es_op2 rv_eq (es_ofN (en_lc (eis_of (H := H) (ei_rng1 (ea_cons eo_int ea_nil))) (fun _ => rfl) (fun u405 v406 B403 H404 g402 r407 => (ets_of (H := H) et_yes)) (fun u405 v406 B403 H404 g402 r407 => (es_methI (j := 1) rfl rfl (eas_of (H := H) ea_nil))))) (es_of (H := H) (eo_op2 rv_mul (eo_lst (ea_cons eo_non ea_nil)) eo_int))) (es_op2 rv_eq (es_callI (j := 1) rfl rfl (eas_of (H := H) ea_nil)) (es_of (H := H) (eo_var rfl ((((r151.sm s166).sm s375).sm s388).sm s401))))) h395 k))))))⟩)))⟩))⟩))
abbrev N_law : List Str := ["_law_script", "_law_spot"]
theorem sc_law : FnScope N_law ["_law_script"] (defScope s_law) := ⟨rfl, rfl, rfl, by decide +kernel, rfl, by decide +kernel, by decide +kernel⟩
theorem ok_law (T : Tx w K mg base a d) : FnG P w K mg base CX0 14 (a 50) (d 50) ["_law_script"] (spU (a1 m_law)) := by
  refine Fun.okG T.f_law sc_law (fun vs H Q E h => ?_) (fun cdv A outer s H vs Q E hgd hr h => ?_)
  · obtain ⟨B, p0, vp0, r, rfl, _⟩ := sp1 h
    rfl
  · obtain ⟨B, p0, vp0, r, rfl, sB, rp0, hM, k⟩ := sp1 h
    have nd := sc_law.nd
    obtain ⟨R, hM2, rfl⟩ := runS_some hM
    clear hM
    have k := fun v B2 H2 ps2 (W : Wh (bsU B H) B2 H2 ps2 R.2) r => k v B2 H2 W.pure r
    refine ⟨_, (pss_cons (ps_ret (pe_callB (cr_allK (K := K) rfl rfl) (by rfl) T.b_all bb_all (pa_cons (pe_lc (own := [("_law_spot", 1)]) (g := gName 1) (tt := tYes) (by rfl) nd (pi_range1 (by rfl) T.b_range (pa_cons (pe_callB (call_maxK (K := K) rfl rfl) (by rfl) T.b_max bb_max (pa_cons pe_int (pa_cons (pe_callB (call_min2 rfl) (by rfl) T.b_min bb_min (pa_cons (pe_callB (call_lenK (K := K) rfl) (by rfl) T.b_len bb_len (pa_cons (pv 0) pa_nil)) (pa_cons pe_int pa_nil))) pa_nil))) pa_nil)) (blkOk_by (own := [("_law_spot", 1)]) (N := N_law) (sc := defScope s_law) (by decide +kernel)) (fun _ _ _ _ _ => pg_name (i := 1) nd rfl (Or.inl rfl)) (fun _ _ _ _ _ => pts_nil) (fun _ _ _ _ _ => (pe_callG (ok_law_right T) hgd (hr.mono (by decide)) (by rfl) T.g_law_right T.f_law_right.kp T.bd_law_right .nil pass0 (pa_cons (pe_call (ok_law_purse T) (hr.mono (by decide)) (by rfl) T.g_law_purse T.f_law_purse.kp T.bd_law_purse .nil pass0 (pa_cons (pv 0) (pa_cons (pv 1) pa_nil))) pa_nil)))) pa_nil))) pss_nil), ?_⟩
    exact (q_retS (wh_pure sB) (es_cb rc_all (eas_cons (es_ofN (en_lc (eis_of (H := H) (ei_rng1 (ea_cons (eo_cb' rc_maxA (ea_cons eo_int (ea_cons (eo_cb' rc_min (ea_cons (eo_cb' rc_len (ea_cons (eo_var rfl rp0) ea_nil)) (ea_cons eo_int ea_nil))) ea_nil))) ea_nil))) (fun _ => rfl) (fun u4 v5 B2 H3 g1 r6 => (ets_of (H := H) et_yes)) (fun u4 v5 B2 H3 g1 r6 => (es_callF (H := H) (en_call (eas_of (H := H) (ea_cons (eo_var rfl (rp0.upA g1)) (ea_cons (eo_var rfl r6) ea_nil)))) ea_nil)))) eas_nil)) hM2 k)
end
end K42
set_option Elab.async false
set_option linter.all false
set_option maxRecDepth 100000
set_option maxHeartbeats 2000000
namespace K42
open PySem L2 Dn
/-- a purse -/
def Urn (u : U) : Prop := ∃ a b : Int, u = .frl [.int a, .int b]
theorem Urn.own {u : U} (h : Urn u) : u.own = true := by obtain ⟨a, b, rfl⟩ := h; rfl
theorem Urn.plc {u : U} (h : Urn u) : u.plc = true := by obtain ⟨a, b, rfl⟩ := h; rfl
theorem draw_ok {u : U} {n : Int} (hu : Urn u) (h0 : 0 < n) (h1 : n < 1073741824) : ∃ r u', b1 m_law_draw u [.int n] = some (.int r, u') ∧ Urn u' ∧ 0 ≤ r ∧ r < n := by
  obtain ⟨a, b, rfl⟩ := hu
  show ∃ r u', finS (m_law_draw (.int n) [.frl [.int a, .int b]]) = some (.int r, u') ∧ Urn u' ∧ 0 ≤ r ∧ r < n
  have e1 : ∀ b : Int, mulV (.int b) (.int 45991) = some (.int (b * 45991)) := fun b => mulV_r (by decide)
  have e3 : ∀ b : Int, modV (.int b) (.int 2147483647) = some (.int (b % 2147483647)) := fun b => modV_i (by decide)
  have e4 : ∀ b : Int, fdivV (.int b) (.int 1024) = some (.int (b / 1024)) := fun b => fdivV_i (by decide)
  have e5 : ∀ b : Int, modV (.int b) (.int n) = some (.int (b % n)) := fun b => modV_i h0
  have e6 : ∀ b : Int, divmodU [.int b, .int n] = some (.tup [.int (b / n), .int (b % n)]) := fun b => divmod_i ⟨h0, h1⟩
  have hr : ∀ i : Int, 0 ≤ i % n ∧ i % n < n := fun i => ⟨Int.emod_nonneg i (by omega), Int.emod_lt_of_pos i h0⟩
  by_cases ha : 0 < a
  · refine ⟨a % n, .frl [.int (a / n), .int b], ?_, ⟨_, _, rfl⟩, (hr a).1, (hr a).2⟩
    unfold m_law_draw
    simp [bindS, opS, lockO, U.own, U.pl, getV, atI, ixN, setLS, ifS, testS, callS, consS, ha, e6, unpS, unp2, finS, U.asB]
  · refine ⟨((b * 45991 + 40503) % 2147483647) / 1024 % n, .frl [.int a, .int ((b * 45991 + 40503) % 2147483647)], ?_, ⟨_, _, rfl⟩, (hr _).1, (hr _).2⟩
    unfold m_law_draw
    simp [bindS, opS, lockO, U.own, U.pl, getV, atI, ixN, setLS, ifS, testS, callS, consS, ha, e1, e3, e4, e5, unpS, unp2, finS, U.asB]
theorem draw_at {u : U} {t : List U} {n : Int} (hu : Urn u) (h0 : 0 < n) (h1 : n < 1073741824) : ∃ r u', callM 0 (b1 m_law_draw) [.int n] (u :: t) = some (.int r, u' :: t) ∧ Urn u' ∧ 0 ≤ r ∧ r < n := by
  obtain ⟨r, u', e, h⟩ := draw_ok hu h0 h1
  exact ⟨r, u', callM_s rfl hu.own e, h⟩
def txs (ss : List Str) : List U := ss.map U.str
abbrev tl (x : Str) : List Nat := x.cps.toList
abbrev Row := Str × List Str
def rowU (r : Row) : U := .tup [.str r.1, .tup (txs r.2)]
def rowsU (rs : List Row) : List U := rs.map rowU
abbrev names (rs : List Row) : List Str := rs.map (·.1)
abbrev srcs (rs : List Row) : List Str := rs.flatMap (·.2)
def cnt (rs : List Row) (n : Str) : Nat := (srcs rs).count n
def Word (w : Str) : Prop := 0 < (tl w).length ∧ (tl w).length ≤ 8 ∧ ∀ c ∈ tl w, 97 ≤ c ∧ c ≤ 122
inductive Web : List Row → Prop
  | one {w : Str} : Word w → Web [(w, [])]
  | snoc {rs : List Row} {w : Str} {ss : List Str} : Web rs → Word w → w ∉ names rs → ss ≠ [] → ss.length ≤ 2 → ss.Nodup → (∀ s ∈ ss, s ∈ names rs ∧ cnt rs s < 2) → Web (rs ++ [(w, ss)])
theorem cnt_snoc {rs : List Row} {w n : Str} {ss : List Str} : cnt (rs ++ [(w, ss)]) n = cnt rs n + ss.count n := by
  simp [cnt, srcs, List.flatMap_append, List.count_append]
theorem names_snoc {rs : List Row} {w : Str} {ss : List Str} : names (rs ++ [(w, ss)]) = names rs ++ [w] := by simp [names]
theorem Web.src {rs : List Row} (h : Web rs) : ∀ s ∈ srcs rs, s ∈ names rs := by
  induction h with
  | one _ => intro s hs; simp [srcs] at hs
  | snoc _ _ _ _ _ _ hs ih =>
    intro s h
    simp only [srcs, List.flatMap_append, List.mem_append, List.flatMap_cons, List.flatMap_nil, List.append_nil] at h
    rw [names_snoc, List.mem_append]
    rcases h with h | h
    · exact .inl (ih s h)
    · exact .inl (hs s h).1
theorem Web.nodup {rs : List Row} (h : Web rs) : (names rs).Nodup := by
  induction h with
  | one _ => simp [names]
  | snoc _ _ hn _ _ _ _ ih =>
    rw [names_snoc, List.nodup_append]
    exact ⟨ih, by simp, fun a ha b hb e => by simp at hb; subst hb; exact hn (e ▸ ha)⟩
theorem Web.two {rs : List Row} (h : Web rs) : ∀ n, cnt rs n ≤ 2 := by
  induction h with
  | one _ => intro n; simp [cnt, srcs]
  | @snoc rs w ss _ _ _ _ _ nd hs ih =>
    intro n
    rw [cnt_snoc]
    by_cases hn : n ∈ ss
    · have := (hs n hn).2
      have h1 : ss.count n ≤ 1 := List.nodup_iff_count.mp nd n
      omega
    · rw [List.count_eq_zero.mpr hn]; exact ih n
theorem Web.ne {rs : List Row} (h : Web rs) : rs ≠ [] := by cases h <;> simp
theorem Web.words {rs : List Row} (h : Web rs) : ∀ w ∈ names rs, Word w := by
  induction h with
  | one hw => intro w h; simp [names] at h; subst h; exact hw
  | snoc _ hw _ _ _ _ _ ih =>
    intro n h
    rw [names_snoc, List.mem_append] at h
    rcases h with h | h
    · exact ih n h
    · simp at h; subst h; exact hw
def room (rs : List Row) : List (Str × Int) := rs.map fun r => (r.1, 2 - (cnt rs r.1 : Int))
def dicI (kvs : List (Str × Int)) : List (Key × U) := kvs.map fun kv => (Sum.inr kv.1, U.int kv.2)
def freeL (rs : List Row) : List Str := (names rs).filter fun n => decide (cnt rs n < 2)
theorem txs_pl {ss : List Str} : U.pls (txs ss) = true := by
  induction ss with
  | nil => rfl
  | cons s ss ih => simp [txs, U.pls, U.pl] at ih ⊢; exact ih
theorem rows_pl {rs : List Row} : U.pls (rowsU rs) = true := by
  induction rs with
  | nil => rfl
  | cons s ss ih => simp [rowsU, U.pls, U.pl, rowU, txs_pl] at ih ⊢; exact ih
theorem txs_length {ss : List Str} : (txs ss).length = ss.length := by simp [txs]
theorem free_mem {rs : List Row} {n : Str} : n ∈ freeL rs ↔ n ∈ names rs ∧ cnt rs n < 2 := by simp [freeL, List.mem_filter]
theorem count_filter {n : Str} : ∀ l : List Str, l.count n + (l.filter fun x => decide (x ≠ n)).length = l.length
  | [] => rfl
  | x :: l => by
    have ih := count_filter (n := n) l
    by_cases e : x = n
    · subst e
      simp only [List.count_cons_self, List.filter_cons, ne_eq, not_true, decide_false, Bool.false_eq_true, if_false, List.length_cons] at ih ⊢
      omega
    · rw [List.count_cons_of_ne e, List.filter_cons, if_pos (by simpa using e), List.length_cons, List.length_cons]
      omega
theorem count_sum {l : List Str} : ∀ {ns : List Str}, ns.Nodup → (ns.map fun n => l.count n).sum ≤ l.length
  | [], _ => by simp
  | n :: ns, nd => by
    rw [List.nodup_cons] at nd
    have ih := count_sum (l := l.filter fun x => decide (x ≠ n)) nd.2
    have e : (ns.map fun m => (l.filter fun x => decide (x ≠ n)).count m) = ns.map fun m => l.count m := by
      apply List.map_congr_left
      intro m hm
      have : m ≠ n := fun z => nd.1 (z ▸ hm)
      rw [List.count_filter (by simpa using this)]
    rw [e] at ih
    have h2 := count_filter (n := n) l
    simp only [List.map_cons, List.sum_cons]
    omega
theorem Web.srcs_len {rs : List Row} (h : Web rs) : (srcs rs).length + 2 ≤ 2 * rs.length := by
  induction h with
  | one _ => simp [srcs]
  | snoc _ _ _ _ h2 _ _ ih =>
    simp only [srcs, List.flatMap_append, List.flatMap_cons, List.flatMap_nil, List.append_nil, List.length_append, List.length_singleton] at ih ⊢
    omega
theorem Web.free {rs : List Row} (h : Web rs) : freeL rs ≠ [] := fun z => by
  have h1 := count_sum (l := srcs rs) h.nodup
  have h2 : ∀ n ∈ names rs, 2 ≤ (srcs rs).count n := fun n hn => by
    have : ¬ n ∈ freeL rs := by rw [z]; simp
    rw [free_mem] at this
    have : ¬ cnt rs n < 2 := fun q => this ⟨hn, q⟩
    show 2 ≤ cnt rs n
    omega
  have h3 : 2 * (names rs).length ≤ ((names rs).map fun n => (srcs rs).count n).sum := by
    generalize names rs = ns at h2
    induction ns with
    | nil => simp
    | cons n ns ih =>
      have := ih fun m hm => h2 m (List.mem_cons_of_mem _ hm)
      have h4 := h2 n (List.mem_cons_self ..)
      simp only [List.length_cons, List.map_cons, List.sum_cons]
      omega
  have h4 : (names rs).length = rs.length := by simp [names]
  have h5 := h.srcs_len
  omega
theorem putI {n : Str} {v c : Int} : ∀ {kvs : List (Str × Int)}, (kvs.map (·.1)).Nodup → (n, v) ∈ kvs → putU (dicI kvs) (Sum.inr n) (.int c) = dicI (kvs.map fun kv => if kv.1 = n then (kv.1, c) else kv) := by
  intro kvs nd h
  have ha : ((dicI kvs).any fun kv => decide (kv.1 = Sum.inr n)) = true := by
    rw [List.any_eq_true]
    exact ⟨(Sum.inr n, .int v), List.mem_map.mpr ⟨_, h, rfl⟩, by simp⟩
  unfold putU
  rw [if_pos ha]
  simp only [dicI, List.map_map]
  apply List.map_congr_left
  intro kv _
  simp only [Function.comp_apply, Sum.inr.injEq]
  split <;> rfl
theorem withK_s {κ α : Type} {K : κ} {f : κ → α} : withK K f = f K := rfl
theorem nodup_le {α : Type} [DecidableEq α] : ∀ {ms ls : List α}, ms.Nodup → (∀ x ∈ ms, x ∈ ls) → ms.length ≤ ls.length
  | [], _, _, _ => by simp
  | m :: ms, ls, nd, h => by
    rw [List.nodup_cons] at nd
    have hm := h m (List.mem_cons_self ..)
    have ih := nodup_le (ms := ms) (ls := ls.erase m) nd.2 fun x hx => (List.mem_erase_of_ne fun (z : x = m) => nd.1 (z ▸ hx)).mpr (h x (List.mem_cons_of_mem _ hx))
    have := List.length_erase_of_mem hm
    have := List.length_pos_of_mem hm
    rw [List.length_cons]
    omega
theorem andS_s {F G : SM Bool} {us us1 : List U} {x : Bool} (h : F us = some (x, us1)) : andS F G us = if x = true then G us1 else some (false, us1) := by
  unfold andS
  rw [bindS_s h]
  cases x <;> rfl
theorem orS_s {F G : SM Bool} {us us1 : List U} {x : Bool} (h : F us = some (x, us1)) : orS F G us = if x = true then some (true, us1) else G us1 := by
  unfold orS
  rw [bindS_s h]
  cases x <;> rfl
theorem testS_s' {F : SM U} {us us1 : List U} {b : Bool} (h : F us = some (.bl b, us1)) : testS F us = some (b, us1) := by
  unfold testS
  rw [bindS_s h]
  rfl
theorem callS_s {m : List U → Option U} {F : SM (List U)} {us us1 l : List U} (h : F us = some (l, us1)) : callS m F us = (m l).map fun x => (x, us1) := by
  unfold callS
  rw [bindS_s h]
  rfl
theorem eqO_ss {n : Nat} {a b : Str} : eqO (n + 1) (.str a) (.str b) = some (a == b) := by simp [eqO, eqK]
theorem inO_tx {n : Nat} {s : Str} : ∀ {ss : List Str}, inO (n + 1) (.str s) (txs ss) = some (decide (s ∈ ss))
  | [] => rfl
  | x :: ss => by
    show (eqO (n + 1) (.str x) (.str s)).bind (fun a => (inO (n + 1) (.str s) (txs ss)).map fun b => a || b) = _
    rw [eqO_ss, inO_tx, Option.bind_some, Option.map_some]
    congr 1
    by_cases e : x = s
    · subst e; simp
    · have e2 : ¬ s = x := fun z => e z.symm
      simp [e, e2]
end K42
set_option Elab.async false
set_option linter.all false
set_option maxRecDepth 100000
set_option maxHeartbeats 2000000
namespace K42
open PySem L2 Dn
def partT (r : Row) : Str := Txt.join " " (r.1 :: r.2)
def textT (rs : List Row) : Str := Txt.join "; " (rs.map partT)
theorem Web.src_word {rs : List Row} (h : Web rs) {r : Row} (hr : r ∈ rs) : ∀ s ∈ r.2, Word s := fun s hs => h.words s (h.src s (List.mem_flatMap.mpr ⟨r, hr, hs⟩))
theorem Web.row_two {rs : List Row} (h : Web rs) : ∀ r ∈ rs, r.2.length ≤ 2 := by
  induction h with
  | one _ => intro r hr; simp at hr; subst hr; simp
  | snoc _ _ _ _ h2 _ _ ih =>
    intro r hr
    rcases List.mem_append.mp hr with hr | hr
    · exact ih r hr
    · simp at hr; subst hr; exact h2
theorem Word.len {w : Str} (h : Word w) : w.length ≤ 8 := by rw [TL.len_tl]; exact h.2.1
theorem sum_le {α : Type} {f : α → Nat} {b : Nat} : ∀ {l : List α}, (∀ a ∈ l, f a ≤ b) → (l.map f).sum ≤ l.length * b
  | [], _ => by simp
  | a :: l, h => by
    have ih := sum_le (f := f) (l := l) fun x hx => h x (List.mem_cons_of_mem _ hx)
    have h1 := h a (List.mem_cons_self ..)
    rw [List.map_cons, List.sum_cons, List.length_cons, Nat.add_mul, Nat.one_mul]
    omega
theorem part_sum {rs : List Row} (h : Web rs) {r : Row} (hr : r ∈ rs) : ((r.1 :: r.2).map (·.length)).sum + (r.1 :: r.2).length * (" " : Str).length ≤ 27 := by
  have h1 : ∀ s ∈ r.1 :: r.2, s.length ≤ 8 := fun s hs => by
    rcases List.mem_cons.mp hs with rfl | hs
    · exact (h.words _ (List.mem_map.mpr ⟨r, hr, rfl⟩)).len
    · exact (h.src_word hr s hs).len
  have h2 := sum_le (f := fun s : Str => s.length) h1
  have h3 := h.row_two r hr
  have h4 : (" " : Str).length = 1 := by decide +kernel
  rw [h4]
  simp only [List.length_cons] at h2 ⊢
  omega
theorem part_len {rs : List Row} (h : Web rs) {r : Row} (hr : r ∈ rs) : (partT r).length ≤ 27 := Nat.le_trans (join_length _ _) (part_sum h hr)
theorem text_sum {rs : List Row} (h : Web rs) (hl : rs.length ≤ 40) : ((rs.map partT).map (·.length)).sum + (rs.map partT).length * ("; " : Str).length ≤ 1160 := by
  have h2 := sum_le (f := fun r => (partT r).length) (l := rs) (b := 27) fun r hr => part_len h hr
  have h4 : ("; " : Str).length = 2 := by decide +kernel
  rw [h4, List.map_map, List.length_map]
  have e : (rs.map ((fun x => x.length) ∘ partT)) = rs.map fun r => (partT r).length := rfl
  rw [e]
  omega
theorem text_len {rs : List Row} (h : Web rs) (hl : rs.length ≤ 40) : (textT rs).length ≤ 1160 := Nat.le_trans (join_length _ _) (text_sum h hl)
theorem split_text {rs : List Row} (h : Web rs) (hl : rs.length ≤ 40) : splitV (.str (textT rs)) (.str "; ") = some (.lst (txs (rs.map partT))) := by
  have hk : ("; " : Str).length ≠ 0 := by decide +kernel
  have hlen := text_len h hl
  have hlim : lim = 100000 := rfl
  show (if ("; " : Str).length ≠ 0 ∧ (textT rs).length ≤ lim then some (U.lst ((Txt.split (textT rs) "; ").map U.str)) else none) = _
  rw [if_pos ⟨hk, by omega⟩]
  have e : Txt.split (textT rs) "; " = rs.map partT := by
    refine TL.split_join (s := 59) (S := [32]) (by decide +kernel) (by decide +kernel) ?_ fun p hp hc => ?_
    · simpa using h.ne
    · obtain ⟨r, hr, rfl⟩ := List.mem_map.mp hp
      have hc : 59 ∈ TL.tl (Txt.join " " (r.1 :: r.2)) := hc
      rw [TL.join_eq, TL.tl_join] at hc
      rcases mem_joinL hc with hc | ⟨p, hp, hc⟩
      · exact absurd hc (by decide +kernel)
      · obtain ⟨s, hs, rfl⟩ := List.mem_map.mp hp
        have hw : Word s := by
          rcases List.mem_cons.mp hs with rfl | hs
          · exact h.words _ (List.mem_map.mpr ⟨r, hr, rfl⟩)
          · exact h.src_word hr s hs
        have := hw.2.2 59 hc
        omega
  rw [e]
  rfl
theorem split_part {r : Row} (hw : ∀ s ∈ r.1 :: r.2, Word s) (hl : (partT r).length ≤ 27) : splitV (.str (partT r)) (.str " ") = some (.lst (txs (r.1 :: r.2))) := by
  have hk : (" " : Str).length ≠ 0 := by decide +kernel
  have hlim : lim = 100000 := rfl
  show (if (" " : Str).length ≠ 0 ∧ (partT r).length ≤ lim then some (U.lst ((Txt.split (partT r) " ").map U.str)) else none) = _
  rw [if_pos ⟨hk, by omega⟩]
  have e : Txt.split (partT r) " " = r.1 :: r.2 := by
    refine TL.split_join (s := 32) (S := []) (by decide +kernel) (by decide +kernel) (by simp) fun p hp hc => ?_
    have := (hw p hp).2.2 32 hc
    omega
  rw [e]
  rfl
def strDic (l : List (Str × U)) : List (Key × U) := l.map fun kv => (Sum.inr kv.1, kv.2)
theorem look_dic {n : Str} : ∀ (l : List (Str × U)), lookK (strDic l) (Sum.inr n) = l.lookup n
  | [] => rfl
  | (k, v) :: l => by
    have ih := look_dic (n := n) l
    by_cases e : k = n
    · subst e
      simp [lookK, strDic, List.lookup]
    · have e2 : decide ((Sum.inr k : Key) = Sum.inr n) = false := by simp [e]
      have e3 : (n == k) = false := by simpa using fun z => e z.symm
      simp only [lookK, strDic, List.map_cons, List.find?_cons, List.lookup_cons] at ih ⊢
      rw [e2, e3]
      exact ih
theorem lookup_isSome {β : Type} {n : Str} : ∀ {l : List (Str × β)}, (l.lookup n).isSome = decide (n ∈ l.map (·.1))
  | [] => by simp
  | (k, x) :: l => by
    rw [List.lookup_cons]
    by_cases e : n = k
    · subst e; simp
    · have e3 : (n == k) = false := by simpa using e
      rw [e3]
      have := lookup_isSome (n := n) (l := l)
      simp only [this, List.map_cons, List.mem_cons, e, false_or]
theorem in_dic {n : Str} {l : List (Str × U)} : inV2 (.str n) (.dic (strDic l)) = some (.bl (decide (n ∈ l.map (·.1)))) := by
  show ((((U.str n).key.map fun k => lookK (strDic l) k)).map Option.isSome).map U.bl = _
  simp only [U.key, Option.map_some, look_dic, lookup_isSome]
theorem letters : ("abcdefghijklmnopqrstuvwxyz" : Str).cps.toList = List.range' 97 26 := by decide +kernel
theorem is_name_ok {w : Str} (h : Word w) : m_is_name (.str w) = some (.bl true) := by
  unfold m_is_name
  have hl := h.len
  have hlim : lim = 100000 := rfl
  have e1 : callO lenV (consO (some (U.str w)) (some [])) = some (.int w.length) := by
    show (if w.length ≤ lim then some (U.int w.length) else none) = _
    rw [if_pos (by omega)]
  have h0 : 0 < w.length := by rw [TL.len_tl]; exact h.1
  have e2 : chainO leV leV (some (U.int 1)) (some (U.int w.length)) (some (U.int 8)) = some (.bl true) := by
    rw [chainO_s (leV_i (i := 1) (j := w.length))]
    have : decide ((1 : Int) ≤ w.length) = true := by simp; omega
    rw [this, if_pos rfl, leV_i]
    simp; omega
  have e3 : compO (fun u4 => (some true)) (fun u4 => (op2 inV2 (some u4) (some (U.str "abcdefghijklmnopqrstuvwxyz")))) (iterO U.signs (some (U.str w))) = some (.lst ((tl w).map fun c => U.bl true)) := by
    refine lcO_map (g := fun c => U.str ⟨#[c]⟩) (h := fun c => U.bl true) (tl w) (by have := h.2.1; omega) fun c hc => ?_
    show ((U.str ⟨#[c]⟩).sign.map fun c => decide (c ∈ ("abcdefghijklmnopqrstuvwxyz" : Str).cps.toList)).map U.bl = _
    rw [letters]
    have := h.2.2 c hc
    show some (U.bl (decide (c ∈ List.range' 97 26))) = _
    rw [decide_eq_true (by rw [List.mem_range']; exact ⟨c - 97, by omega, by omega⟩)]
  have e0 : isO isStrB (some (U.str w)) = some (.bl true) := rfl
  rw [e0, e1, e2, e3, andV_t, andV_t, consO_s, callO_s, all_map (p := fun _ => true)]
  simp
def orgL (rs : List Row) : List (Str × U) := rs.map fun r => (r.1, .tup (txs r.2))
theorem orgL_keys {rs : List Row} : (orgL rs).map (·.1) = names rs := by simp [orgL, names]
theorem len_dic {l : List (Key × U)} : callO lenV (consO (some (U.dic l)) (some [])) = some (.int l.length) := rfl
theorem len_lst {l : List U} : callO lenV (consO (some (U.lst l)) (some [])) = some (.int l.length) := rfl
theorem len_tup {l : List U} : callO lenV (consO (some (U.tup l)) (some [])) = some (.int l.length) := rfl
theorem eqV2_ii {i j : Int} : eqV2 (.int i) (.int j) = some (.bl (i == j)) := rfl
theorem eqV2_ss {i j : Str} : eqV2 (.str i) (.str j) = some (.bl (i == j)) := rfl
theorem hasT_false {ts : List Str} (nd : ts.Nodup) {i : Nat} (h : i < ts.length) : hasT ts i (ts.getD i Str.empty) = false := by
  have e : ts.getD i Str.empty = ts[i] := by simp [List.getD, h]
  rw [e]
  unfold hasT
  rw [List.any_eq_false]
  intro x hx he
  have he : x = ts[i] := by simpa using he
  subst he
  obtain ⟨j, hj, e2⟩ := List.mem_iff_getElem.mp hx
  rw [List.length_take] at hj
  rw [List.getElem_take] at e2
  exact (List.pairwise_iff_getElem.mp nd) j i (by omega) h (by omega) e2
theorem dnT_nodup {ts : List Str} (nd : ts.Nodup) : ∀ i, i ≤ ts.length → dnT ts i = i
  | 0, _ => rfl
  | i + 1, h => by
    show (if hasT ts i (ts.getD i Str.empty) = true then dnT ts i else dnT ts i + 1) = i + 1
    rw [hasT_false nd (by omega), dnT_nodup nd i (by omega)]
    simp
theorem strsU_txs {ss : List Str} : strsU (txs ss) = some ss := strsU_map ss
theorem are_sources_ok {pre : List Row} {ss : List Str} (h1 : ss ≠ []) (h2 : ss.length ≤ 2) (nd : ss.Nodup) (hs : ∀ s ∈ ss, s ∈ names pre) : m_are_sources (.lst (txs ss)) (.dic (strDic (orgL pre))) = some (.bl true) := by
  unfold m_are_sources
  have hlim : lim = 100000 := rfl
  have hpos := List.length_pos_iff.mpr h1
  have e1 : chainO leV leV (some (U.int 1)) (some (U.int ss.length)) (some (U.int 2)) = some (.bl true) := by
    rw [chainO_s (leV_i (i := 1) (j := ss.length))]
    have : decide ((1 : Int) ≤ ss.length) = true := by simp; omega
    rw [this, if_pos rfl, leV_i]
    simp; omega
  have e2 : compO (fun u4 => (some true)) (fun u4 => (andV (isO isStrB (some u4)) (op2 inV2 (some u4) (some (U.dic (strDic (orgL pre))))))) (iterO U.iter (some (U.lst (txs ss)))) = some (.lst (ss.map fun _ => U.bl true)) := by
    refine lcO_map (g := U.str) (h := fun _ => U.bl true) ss (by omega) fun s hs' => ?_
    have : isO isStrB (some (U.str s)) = some (.bl true) := rfl
    rw [this, andV_t, op2_s, in_dic, orgL_keys, decide_eq_true (hs s hs')]
  have e3 : op1 lenSetV (some (U.lst (txs ss))) = some (.int ss.length) := by
    show (strsU (txs ss)).bind (fun ts => if ts.length < 4000 then some (U.int (dnT ts ts.length : Nat)) else none) = _
    rw [strsU_txs, Option.bind_some, if_pos (by omega), dnT_nodup nd _ (Nat.le_refl _)]
  rw [len_lst, txs_length, e1, e2, e3, consO_s, callO_s, all_map (p := fun _ => true), op2_s, eqV2_ii, List.all_eq_true.mpr (fun _ _ => rfl)]
  simp
structure Next (pre : List Row) (w : Str) (ss : List Str) : Prop where
  word : Word w
  new : w ∉ names pre
  size : pre.length < 40
  first : pre = [] → ss = []
  later : pre ≠ [] → ss ≠ [] ∧ ss.length ≤ 2
  nd : ss.Nodup
  src : ∀ s ∈ ss, s ∈ names pre ∧ cnt pre s < 2
theorem Web.next {rs : List Row} (h : Web rs) : ∀ (pre : List Row) (r : Row) (suf : List Row), rs = pre ++ r :: suf → rs.length ≤ 40 → (pre = [] ∨ Web pre) ∧ Next pre r.1 r.2 := by
  induction h with
  | @one w hw =>
    intro pre r suf e hl
    cases pre with
    | nil =>
      cases e
      exact ⟨.inl rfl, hw, by simp [names], by simp, fun _ => rfl, fun z => absurd rfl z, by simp, fun s hs => by cases hs⟩
    | cons a pre => simp at e
  | @snoc rs w ss hr hw hn hne h2 nd hs ih =>
    intro pre r suf e hl
    rcases List.eq_nil_or_concat suf with rfl | ⟨suf', x, rfl⟩
    · have e2 : rs ++ [(w, ss)] = pre ++ [r] := e
      obtain ⟨rfl, e3⟩ := List.append_inj' e2 rfl
      cases e3
      rw [List.length_append, List.length_singleton] at hl
      exact ⟨.inr hr, hw, hn, by omega, fun z => absurd z hr.ne, fun _ => ⟨hne, h2⟩, nd, hs⟩
    · have e2 : rs ++ [(w, ss)] = (pre ++ r :: suf') ++ [x] := by rw [e]; simp
      obtain ⟨e3, _⟩ := List.append_inj' e2 rfl
      rw [List.length_append, List.length_singleton] at hl
      exact ih pre r suf' e3 (by omega)
theorem put_org {pre : List Row} {w : Str} {ss : List Str} (hn : w ∉ names pre) : putU (strDic (orgL pre)) (Sum.inr w) (.tup (txs ss)) = strDic (orgL (pre ++ [(w, ss)])) := by
  have ha : ¬ ((strDic (orgL pre)).any fun kv => decide (kv.1 = Sum.inr w)) = true := by
    rw [List.any_eq_true]
    rintro ⟨kv, hm, e⟩
    obtain ⟨⟨k, v⟩, hk, rfl⟩ := List.mem_map.mp hm
    obtain ⟨r, hr, e2⟩ := List.mem_map.mp hk
    cases e2
    simp at e
    exact hn (List.mem_map.mpr ⟨r, hr, e⟩)
  unfold putU
  rw [if_neg ha]
  simp [strDic, orgL]
theorem web_l1 {k : SM U} {rs : List Row} (h : Web rs) (hl : rs.length ≤ 40) : ∀ (suf pre : List Row), rs = pre ++ suf → m_web_in_l1 k (txs (suf.map partT)) [.dic (strDic (orgL pre))] = k [.dic (strDic (orgL rs))]
  | [], pre, e => by rw [List.append_nil] at e; subst e; rfl
  | r :: suf, pre, e => by
    obtain ⟨_, nx⟩ := h.next pre r suf e hl
    have hr : r ∈ rs := by rw [e]; simp
    have ih := web_l1 (k := k) h hl suf (pre ++ [r]) (by rw [e]; simp)
    rw [← ih]
    have hlim : lim = 100000 := rfl
    have hw : ∀ s ∈ r.1 :: r.2, Word s := fun s hs => by
      rcases List.mem_cons.mp hs with rfl | hs
      · exact nx.word
      · exact h.src_word hr s hs
    have e0 : op2 splitV (some (U.str (partT r))) (some (U.str " ")) = some (.lst (txs (r.1 :: r.2))) := split_part hw (part_len h hr)
    have g0 : op2 getV (some (U.lst (txs (r.1 :: r.2)))) (some (U.int 0)) = some (.str r.1) := get0n
    have cu : slO (some (U.lst (txs (r.1 :: r.2)))) (ptO (some (U.int 1))) (some none) = some (.lst (txs r.2)) := cut1n
    have e1 : callO (a1 m_is_name) (consO (some (U.str r.1)) (some [])) = some (.bl true) := is_name_ok nx.word
    have e2 : op2 inV2 (some (U.str r.1)) (some (U.dic (strDic (orgL pre)))) = some (.bl false) := by
      rw [op2_s, in_dic, orgL_keys]
      simp [nx.new]
    show bindS (pureS (op2 splitV (some (U.str (partT r))) (some (U.str " ")))) _ _ = _
    rw [e0, bindS_pure]
    have c1 : orS (pureS (notO (testO (callO (a1 m_is_name) (consO (op2 getV (some (U.lst (txs (r.1 :: r.2)))) (some (U.int 0))) (some [])))))) (lockT 0 fun u65 => (testO (op2 inV2 (op2 getV (some (U.lst (txs (r.1 :: r.2)))) (some (U.int 0))) (some u65)))) [.dic (strDic (orgL pre))] = some (false, [.dic (strDic (orgL pre))]) := by
      rw [g0, e1]
      rw [orS_s (x := false) (us1 := [.dic (strDic (orgL pre))]) rfl, if_neg Bool.false_ne_true]
      exact lockT_s rfl rfl (by rw [e2]; rfl)
    rw [ifS_s c1, if_neg Bool.false_ne_true]
    have c2 : orS (andS (lockT 0 fun u80 => (testO (op1 (empV false) (some u80)))) (pureS (testO (op2 gtV (callO lenV (consO (some (U.lst (txs (r.1 :: r.2)))) (some []))) (some (U.int 1)))))) (andS (lockT 0 fun u83 => (testO (op1 (empV true) (some u83)))) (notS (lockT 0 fun u86 => (testO (callO (a2 m_are_sources) (consO (slO (some (U.lst (txs (r.1 :: r.2)))) (ptO (some (U.int 1))) (some none)) (consO (some u86) (some [])))))))) [.dic (strDic (orgL pre))] = some (false, [.dic (strDic (orgL pre))]) := by
      have q1 : lockT 0 (fun u80 => (testO (op1 (empV false) (some u80)))) [.dic (strDic (orgL pre))] = some ((strDic (orgL pre)).isEmpty, [.dic (strDic (orgL pre))]) := lockT_s rfl rfl rfl
      have q2 : lockT 0 (fun u80 => (testO (op1 (empV true) (some u80)))) [.dic (strDic (orgL pre))] = some (!(strDic (orgL pre)).isEmpty, [.dic (strDic (orgL pre))]) := lockT_s rfl rfl rfl
      have hem : (strDic (orgL pre)).isEmpty = pre.isEmpty := by cases pre <;> rfl
      rw [hem] at q1 q2
      by_cases hp : pre = []
      · have hz := nx.first hp
        have l0 : testO (op2 gtV (callO lenV (consO (some (U.lst (txs (r.1 :: r.2)))) (some []))) (some (U.int 1))) = some false := by
          rw [hz]; rfl
        have hpe : pre.isEmpty = true := by rw [hp]; rfl
        rw [hpe] at q1 q2
        rw [orS_s (x := false) (us1 := [.dic (strDic (orgL pre))]) (by rw [andS_s q1, if_pos rfl, l0]; rfl), if_neg Bool.false_ne_true, andS_s q2]
        rfl
      · have hpe : pre.isEmpty = false := by cases pre with
          | nil => exact absurd rfl hp
          | cons _ _ => rfl
        rw [hpe] at q1 q2
        obtain ⟨hne, h2⟩ := nx.later hp
        have q3 : lockT 0 (fun u86 => (testO (callO (a2 m_are_sources) (consO (slO (some (U.lst (txs (r.1 :: r.2)))) (ptO (some (U.int 1))) (some none)) (consO (some u86) (some [])))))) [.dic (strDic (orgL pre))] = some (true, [.dic (strDic (orgL pre))]) := by
          refine lockT_s rfl rfl ?_
          rw [cu]
          show testO (m_are_sources (.lst (txs r.2)) (.dic (strDic (orgL pre)))) = _
          rw [are_sources_ok hne h2 nx.nd fun s hs => (nx.src s hs).1]
          rfl
        rw [orS_s (x := false) (us1 := [.dic (strDic (orgL pre))]) (by rw [andS_s q1]; rfl), if_neg Bool.false_ne_true, andS_s q2, if_pos (show (!false) = true from rfl)]
        unfold notS
        rw [bindS_s q3]
        rfl
    rw [ifS_s c2, if_neg Bool.false_ne_true, cu, g0]
    have c3 : callO (Dn.c1 tupleV) (consO (some (U.lst (txs r.2))) (some [])) = some (.tup (txs r.2)) := rfl
    rw [c3, bindS_pure, bindS_pure]
    have hul : (strDic (orgL pre)).length < lim := by
      have := nx.size
      simp [strDic, orgL]; omega
    have c4 : putS 0 (.str r.1) (.tup (txs r.2)) [.dic (strDic (orgL pre))] = some (.non, [.dic (strDic (orgL (pre ++ [r])))]) := by
      show ((U.str r.1).key.bind fun kk => if (strDic (orgL pre)).length < lim then some (U.non, [U.dic (strDic (orgL pre))].set 0 (.dic (putU (strDic (orgL pre)) kk (.tup (txs r.2))))) else none) = _
      simp only [U.key, Option.bind_some, if_pos hul, put_org nx.new]
      rfl
    rw [bindS_s c4]
    rfl
theorem lc2L_app {p : U → Option Bool} {ys : U → Option (List U)} {p1 : U → U → Option Bool} {f : U → U → Option U} {α : Type} {g : α → U} {h : α → List U} : ∀ (l : List α), (∀ a ∈ l, p (g a) = some true) → (∀ a ∈ l, ∃ zs, ys (g a) = some zs ∧ zs.length ≤ lim ∧ lcL (p1 (g a)) (f (g a)) zs = some (h a)) → lc2L p ys p1 f (l.map g) = some (l.flatMap h)
  | [], _, _ => rfl
  | a :: l, hp, hf => by
    have ih := lc2L_app (p := p) (ys := ys) (p1 := p1) (f := f) (g := g) (h := h) l (fun x hx => hp x (List.mem_cons_of_mem _ hx)) (fun x hx => hf x (List.mem_cons_of_mem _ hx))
    obtain ⟨zs, e1, e2, e3⟩ := hf a (List.mem_cons_self ..)
    have := hp a (List.mem_cons_self ..)
    simp [lc2L, this, e1, e2, e3, ih]
theorem lcL_id {ss : List U} : lcL (fun _ => some true) (fun u => some u) ss = some ss := by
  induction ss with
  | nil => rfl
  | cons s ss ih => simp [lcL, ih]
theorem rowsU_len {rs : List Row} : (rowsU rs).length = rs.length := by simp [rowsU]
theorem srcs_len {rs : List Row} (h2 : ∀ r ∈ rs, r.2.length ≤ 2) : (srcs rs).length ≤ 2 * rs.length := by
  induction rs with
  | nil => simp [srcs]
  | cons r rs ih =>
    have := ih fun x hx => h2 x (List.mem_cons_of_mem _ hx)
    have h1 := h2 r (List.mem_cons_self ..)
    simp only [srcs, List.flatMap_cons, List.length_append, List.length_cons] at this ⊢
    omega
theorem web_in_ok {rs : List Row} (h : Web rs) (hl : rs.length ≤ 40) : m_web_in (.str (textT rs)) = some (.tup (rowsU rs)) := by
  unfold m_web_in runS m_web_inS
  have hlim : lim = 100000 := rfl
  have t0 : notO (testO (isO isStrB (some (U.str (textT rs))))) = some false := rfl
  have e0 : op2 splitV (some (U.str (textT rs))) (some (U.str "; ")) = some (.lst (txs (rs.map partT))) := split_text h hl
  rw [t0, ifS_p, if_neg Bool.false_ne_true, bindS_pure, e0]
  unfold addS
  rw [withK_s, show iterO U.iter (some (U.lst (txs (rs.map partT)))) = some (txs (rs.map partT)) from rfl, bindS_pure]
  rw [show ([] ++ [U.dic []] : List U) = [U.dic (strDic (orgL []))] from rfl, web_l1 h hl rs [] rfl]
  have e1 : lockO 0 (fun u118 => (compOO (fun u124 => (some true)) (fun u124 => (iterO U.iter (some u124))) (fun u124 u127 => (some true)) (fun u124 u127 => (some u127)) (iterO U.vals (some u118)))) [.dic (strDic (orgL rs))] = some (.lst (txs (srcs rs)), [.dic (strDic (orgL rs))]) := by
    refine lockO_s rfl rfl ?_ (by simp [U.pl, txs_pl])
    have ev : iterO U.vals (some (U.dic (strDic (orgL rs)))) = some (rs.map fun r => U.tup (txs r.2)) := by
      show some ((strDic (orgL rs)).map fun kv => kv.2) = _
      simp [strDic, orgL]
    rw [ev]
    have := lc2L_app (p := fun u124 => (some true)) (ys := fun u124 => (iterO U.iter (some u124))) (p1 := fun u124 u127 => (some true)) (f := fun u124 u127 => (some u127)) (g := fun r : Row => U.tup (txs r.2)) (h := fun r => txs r.2) rs (fun _ _ => rfl) (fun r hr => ⟨txs r.2, rfl, by rw [txs_length]; have := h.row_two r hr; omega, lcL_id⟩)
    show (lc2L _ _ _ _ _).bind _ = _
    rw [this, Option.bind_some]
    have e2 : (rs.flatMap fun r => txs r.2) = txs (srcs rs) := by simp [txs, srcs, List.map_flatMap]
    rw [e2, if_pos (by rw [txs_length]; have := srcs_len h.row_two; omega)]
  rw [bindS_s e1]
  have e2 : opS gtV (lockO 0 fun u139 => (callO lenV (consO (some u139) (some [])))) (pureS (some (U.int 40))) [.dic (strDic (orgL rs))] = some (.bl (decide ((40 : Int) < rs.length)), [.dic (strDic (orgL rs))]) := by
    refine opS_s (a := .int rs.length) (lockO_s rfl rfl ?_ rfl) rfl gtV_i
    rw [len_dic]
    simp [strDic, orgL]
  have e3 : lockO 0 (fun u142 => (compO (fun u148 => (some true)) (fun u148 => (op2 gtV (op2 countV (some (U.lst (txs (srcs rs)))) (some u148)) (some (U.int 2)))) (iterO U.iter (some u142)))) [.dic (strDic (orgL rs))] = some (.lst ((names rs).map fun _ => U.bl false), [.dic (strDic (orgL rs))]) := by
    have hpl : (U.lst ((names rs).map fun _ => U.bl false)).pl = true := by
      show U.pls _ = true
      generalize names rs = ns
      induction ns with
      | nil => rfl
      | cons n ns ih => simp [U.pls, U.pl, ih]
    refine lockO_s rfl rfl ?_ hpl
    have hk : iterO U.iter (some (U.dic (strDic (orgL rs)))) = some ((names rs).map U.str) := by
      show some ((strDic (orgL rs)).map fun kv => kU kv.1) = _
      simp [strDic, orgL, names, kU]
    rw [hk, compO_s]
    refine lcO_map (g := U.str) (h := fun _ => U.bl false) (names rs) (by simp [names]; omega) fun n hn => ?_
    have ec : op2 countV (some (U.lst (txs (srcs rs)))) (some (U.str n)) = some (.int (cnt rs n)) := by
      show (strsU (txs (srcs rs))).map (fun ss => U.int (ss.count n : Nat)) = _
      rw [strsU_txs]; rfl
    rw [ec, op2_s, gtV_i]
    have := h.two n
    have : decide ((2 : Int) < cnt rs n) = false := by simp; omega
    rw [this]
  have e4 : orS (testS (opS gtV (lockO 0 fun u139 => (callO lenV (consO (some u139) (some [])))) (pureS (some (U.int 40))))) (testS (callS (c1 anyV) (consS (lockO 0 fun u142 => (compO (fun u148 => (some true)) (fun u148 => (op2 gtV (op2 countV (some (U.lst (txs (srcs rs)))) (some u148)) (some (U.int 2)))) (iterO U.iter (some u142)))) (pureS (some []))))) [.dic (strDic (orgL rs))] = some (false, [.dic (strDic (orgL rs))]) := by
    have hd : decide ((40 : Int) < rs.length) = false := by simp; omega
    rw [hd] at e2
    rw [orS_s (testS_s' e2), if_neg Bool.false_ne_true]
    refine testS_s' ?_
    rw [callS_s (consS_s e3 rfl), any_map (p := fun _ => false)]
    simp
  rw [ifS_s e4, if_neg Bool.false_ne_true]
  have e5 : lockO 0 (fun u163 => (op1 itemsV (some u163))) [.dic (strDic (orgL rs))] = some (.tup (rowsU rs), [.dic (strDic (orgL rs))]) := by
    refine lockO_s rfl rfl ?_ (by simp [U.pl, rows_pl])
    show some (U.tup ((strDic (orgL rs)).map fun kv => U.tup [kU kv.1, kv.2])) = _
    simp [strDic, orgL, rowsU, rowU, kU, Function.comp_def]
  rw [e5]
  rfl
abbrev Pr := Str × Str
def pairU (p : Pr) : U := .tup [.str p.1, .str p.2]
def linesT (rs : List Row) : List Pr := rs.flatMap fun r => r.2.map fun s => (s, r.1)
theorem linesT_fst {rs : List Row} : (linesT rs).map (·.1) = srcs rs := by
  simp only [linesT, srcs, List.map_flatMap, List.map_map]
  congr 1
  funext r
  simp [Function.comp_def]
theorem linesT_len {rs : List Row} (h2 : ∀ r ∈ rs, r.2.length ≤ 2) : (linesT rs).length ≤ 2 * rs.length := by
  induction rs with
  | nil => simp [linesT]
  | cons r rs ih =>
    have := ih fun x hx => h2 x (List.mem_cons_of_mem _ hx)
    have h1 := h2 r (List.mem_cons_self ..)
    simp only [linesT, List.flatMap_cons, List.length_append, List.length_map, List.length_cons] at this ⊢
    omega
theorem eq_pair {n : Nat} {a b : Pr} : eqO (n + 2) (pairU a) (pairU b) = some (decide (a = b)) := by
  show (allO (eqO (n + 1)) [.str a.1, .str a.2] [.str b.1, .str b.2]).map (fun c => c && true) = _
  simp only [allO, eqO_ss, Option.bind_some, Option.map_some, Bool.and_true]
  congr 1
  rw [Bool.eq_iff_iff]
  simp [Prod.ext_iff]
theorem inO_pairs {n : Nat} {p : Pr} : ∀ {ls : List Pr}, inO (n + 2) (pairU p) (ls.map pairU) = some (decide (p ∈ ls))
  | [] => rfl
  | x :: ls => by
    show (eqO (n + 2) (pairU x) (pairU p)).bind (fun a => (inO (n + 2) (pairU p) (ls.map pairU)).map fun b => a || b) = _
    rw [eq_pair, inO_pairs, Option.bind_some, Option.map_some]
    congr 1
    by_cases e : x = p
    · subst e; simp
    · have e2 : ¬ p = x := fun z => e z.symm
      simp [e, e2]
theorem notIn_pairs {p : Pr} {ls : List Pr} : notInV2 (pairU p) (.frl (ls.map pairU)) = some (.bl (!decide (p ∈ ls))) := by
  show (inO dep (pairU p) (ls.map pairU)).map (fun b => U.bl (!b)) = _
  rw [show dep = 38 + 2 from rfl, inO_pairs]
  rfl
def besB (a b : Pr) : Bool := decide (a ≠ b) && (decide (a.1 = b.1) || decide (a.2 = b.2))
theorem beside_ok {a b : Pr} : m_are_beside (pairU a) (pairU b) = some (.bl (besB a b)) := by
  unfold m_are_beside
  have e1 : op2 neV2 (some (pairU a)) (some (pairU b)) = some (.bl (!decide (a = b))) := by
    show (eqO dep (pairU a) (pairU b)).map (fun c => U.bl (!c)) = _
    rw [show dep = 38 + 2 from rfl, eq_pair]
    rfl
  have e2 : op2 eqV2 (op2 getV (some (pairU a)) (some (U.int 0))) (op2 getV (some (pairU b)) (some (U.int 0))) = some (.bl (a.1 == b.1)) := rfl
  have e3 : op2 eqV2 (op2 getV (some (pairU a)) (some (U.int 1))) (op2 getV (some (pairU b)) (some (U.int 1))) = some (.bl (a.2 == b.2)) := rfl
  rw [e1, e2, e3, orV_s, andV_s]
  congr 2
  unfold besB
  rw [Bool.eq_iff_iff]
  simp
def laterL (ls f : List Pr) (now : Pr) : List Pr := ls.filter fun l => besB l now && !decide (l ∈ f)
def walkL (ls : List Pr) : Nat → List Pr → Pr → List Pr
  | 0, f, _ => f
  | n + 1, f, now => match laterL ls f now with
    | [] => f
    | x :: _ => walkL ls n (f ++ [x]) x
def leftN (ls f : List Pr) : Nat := (ls.filter fun l => !decide (l ∈ f)).length
theorem left_snoc {ls f : List Pr} {x : Pr} (h : x ∈ ls) (hx : x ∉ f) : leftN ls (f ++ [x]) < leftN ls f := by
  unfold leftN
  have e : (ls.filter fun l => !decide (l ∈ f ++ [x])) = (ls.filter fun l => !decide (l ∈ f)).filter fun l => !decide (l = x) := by
    rw [List.filter_filter]
    apply List.filter_congr
    intro l _
    rw [Bool.eq_iff_iff]
    simp [and_comm]
  rw [e]
  refine List.length_filter_lt_length_iff_exists.mpr ⟨x, List.mem_filter.mpr ⟨h, by simpa using hx⟩, by simp⟩
theorem later_mem {ls f : List Pr} {now x : Pr} (h : x ∈ laterL ls f now) : x ∈ ls ∧ besB x now = true ∧ x ∉ f := by
  have := List.mem_filter.mp h
  simpa using this
theorem later_ok {ls f : List Pr} {now : Pr} (hl : ls.length ≤ lim) (hf : U.pls (f.map pairU) = true) : lockO 0 (fun u56 => (compO (fun u62 => (andO (testO (callO (a2 m_are_beside) (consO (some u62) (consO (some (pairU now)) (some []))))) (testO (op2 notInV2 (some u62) (some u56))))) (fun u62 => (some u62)) (iterO U.iter (some (U.tpd (ls.map pairU)))))) [.frl (f.map pairU)] = some (.lst ((laterL ls f now).map pairU), [.frl (f.map pairU)]) := by
  have hp : ∀ l : List Pr, U.pls (l.map pairU) = true := fun l => by
    induction l with
    | nil => rfl
    | cons x l ih => simp [U.pls, U.pl, pairU, ih]
  refine lockO_s rfl rfl ?_ (hp _)
  exact lcO_mf (p := fun u62 => (andO (testO (callO (a2 m_are_beside) (consO (some u62) (consO (some (pairU now)) (some []))))) (testO (op2 notInV2 (some u62) (some (U.frl (f.map pairU))))))) (f := fun u62 => (some u62)) (g := pairU) (q := fun l => besB l now && !decide (l ∈ f)) (h := pairU) ls hl (fun l _ => by
    show andO (testO (m_are_beside (pairU l) (pairU now))) (testO (notInV2 (pairU l) (.frl (f.map pairU)))) = _
    rw [beside_ok, notIn_pairs, testO_s, testO_s, andO_s]) (fun l _ _ => rfl)
theorem pairs_pl : ∀ l : List Pr, U.pls (l.map pairU) = true
  | [] => rfl
  | x :: l => by simp [U.pls, U.pl, pairU, pairs_pl l]
theorem walk_stop {ls f : List Pr} {k : U → SM U} {m : Nat} (hf : f.length ≤ 2000) : bindS (pureS (ifO (testO (op2 neV2 (some (U.lst (([] : List Pr).map pairU))) (lstO (some [])))) (op2 getV (some (U.lst (([] : List Pr).map pairU))) (some (U.int 0))) (some U.non))) (fun x74 => bindS (bindS (pureS (slO (some (U.lst (([] : List Pr).map pairU))) (some none) (ptO (some (U.int 1))))) fun y => extS 0 y) fun x => m_walk_from_w1 (U.tpd (ls.map pairU)) k (m + 1) x74) [U.frl (f.map pairU)] = k .non [U.frl (f.map pairU)] := by
  have hlim : lim = 100000 := rfl
  have c1 : ifO (testO (op2 neV2 (some (U.lst (([] : List Pr).map pairU))) (lstO (some [])))) (op2 getV (some (U.lst (([] : List Pr).map pairU))) (some (U.int 0))) (some U.non) = some .non := rfl
  have c2 : slO (some (U.lst (([] : List Pr).map pairU))) (some none) (ptO (some (U.int 1))) = some (.lst []) := rfl
  have c3 : extS 0 (.lst []) [.frl (f.map pairU)] = some (.non, [.frl (f.map pairU)]) := by
    show (if (f.map pairU).length + ([] : List U).length ≤ lim then some (U.non, [U.frl (f.map pairU)].set 0 (.frl (f.map pairU ++ []))) else none) = _
    rw [if_pos (by simp; omega)]
    simp
  rw [c1, bindS_pure, c2, bindS_pure, bindS_s c3]
  rfl
theorem walk_w1 {ls : List Pr} {k : U → SM U} (hl : ls.length ≤ 1000) : ∀ (n m : Nat) (f : List Pr) (now : Pr), leftN ls f ≤ n → n + 2 ≤ m → f.length + n ≤ 2000 →
    m_walk_from_w1 (.tpd (ls.map pairU)) k m (pairU now) [.frl (f.map pairU)] = k .non [.frl ((walkL ls n f now).map pairU)] := by
  have hlim : lim = 100000 := rfl
  intro n
  induction n with
  | zero =>
    intro m f now h0 hm hf
    obtain ⟨m, rfl⟩ : ∃ m', m = m' + 2 := ⟨m - 2, by omega⟩
    have hz : laterL ls f now = [] := by
      cases e : laterL ls f now with
      | nil => rfl
      | cons x r =>
        have := later_mem (e ▸ List.mem_cons_self .. : x ∈ laterL ls f now)
        have := left_snoc this.1 this.2.2
        omega
    have t1 : testO (op2 isNotV (some (pairU now)) (some U.non)) = some true := rfl
    show ifS (pureS (testO (op2 isNotV (some (pairU now)) (some U.non)))) _ _ _ = _
    rw [t1, ifS_p, if_pos rfl, bindS_s (later_ok (by omega) (pairs_pl f)), hz]
    exact walk_stop (by omega)
  | succ n ih =>
    intro m f now h0 hm hf
    obtain ⟨m, rfl⟩ : ∃ m', m = m' + 2 := ⟨m - 2, by omega⟩
    have t1 : testO (op2 isNotV (some (pairU now)) (some U.non)) = some true := rfl
    show ifS (pureS (testO (op2 isNotV (some (pairU now)) (some U.non)))) _ _ _ = _
    rw [t1, ifS_p, if_pos rfl, bindS_s (later_ok (by omega) (pairs_pl f))]
    cases e : laterL ls f now with
    | nil =>
      have : walkL ls (n + 1) f now = f := by
        show (match laterL ls f now with | [] => f | x :: _ => walkL ls n (f ++ [x]) x) = f
        rw [e]
      rw [this]
      exact walk_stop (by omega)
    | cons x r =>
      have hx := later_mem (e ▸ List.mem_cons_self .. : x ∈ laterL ls f now)
      have : walkL ls (n + 1) f now = walkL ls n (f ++ [x]) x := by
        show (match laterL ls f now with | [] => f | x :: _ => walkL ls n (f ++ [x]) x) = _
        rw [e]
      rw [this, ← ih (m + 1) (f ++ [x]) x (by have := left_snoc hx.1 hx.2.2; omega) (by omega) (by rw [List.length_append, List.length_singleton]; omega)]
      have c1 : ifO (testO (op2 neV2 (some (U.lst ((x :: r).map pairU))) (lstO (some [])))) (op2 getV (some (U.lst ((x :: r).map pairU))) (some (U.int 0))) (some U.non) = some (pairU x) := by
        have q : testO (op2 neV2 (some (U.lst ((x :: r).map pairU))) (lstO (some []))) = some true := rfl
        rw [q, ifO_t]
        exact get0n
      have c2 : slO (some (U.lst ((x :: r).map pairU))) (some none) (ptO (some (U.int 1))) = some (.lst [pairU x]) := by
        show some (U.lst (cutU _ _ _)) = _
        simp [cutU, HT.sIx]
      rw [c1, bindS_pure, c2, bindS_pure]
      have c3 : extS 0 (.lst [pairU x]) [.frl (f.map pairU)] = some (.non, [.frl ((f ++ [x]).map pairU)]) := by
        show (if (f.map pairU).length + [pairU x].length ≤ lim then some (U.non, [U.frl (f.map pairU)].set 0 (.frl (f.map pairU ++ [pairU x]))) else none) = _
        rw [if_pos (by simp; omega)]
        simp
      rw [bindS_s c3]
def walkF (ls : List Pr) (s : Pr) : List Pr := walkL ls ls.length [s] s
theorem left_le {ls f : List Pr} : leftN ls f ≤ ls.length := List.length_filter_le ..
theorem walk_ok {ls : List Pr} {s : Pr} (hl : ls.length ≤ 200) : m_walk_from (.tpd (ls.map pairU)) (pairU s) = some (.lst ((walkF ls s).map pairU)) := by
  unfold m_walk_from runS m_walk_fromS
  have e := walk_w1 (k := fun x40 => (bindS (takeS 0) fun x91 => (pureS (some x91)))) (ls := ls) (by omega) ls.length 300 [s] s left_le (by omega) (by simp; omega)
  show ((m_walk_from_w1 (.tpd (ls.map pairU)) _ 300 (pairU s) [.frl ([s].map pairU)]).map Prod.fst) = _
  rw [e]
  rfl
/-- what a walk keeps -/
theorem walkL_sub {ls : List Pr} : ∀ (n : Nat) (f : List Pr) (now : Pr), (∀ x ∈ f, x ∈ ls) → ∀ x ∈ walkL ls n f now, x ∈ ls
  | 0, f, now, h => h
  | n + 1, f, now, h => by
    unfold walkL
    split
    · exact h
    · rename_i x r e
      refine walkL_sub n (f ++ [x]) x fun y hy => ?_
      rcases List.mem_append.mp hy with hy | hy
      · exact h y hy
      · simp at hy; subst hy
        exact (later_mem (e ▸ List.mem_cons_self ..)).1
theorem walkL_pre {ls : List Pr} : ∀ (n : Nat) (f : List Pr) (now : Pr), ∃ g, walkL ls n f now = f ++ g
  | 0, f, now => ⟨[], by simp [walkL]⟩
  | n + 1, f, now => by
    unfold walkL
    split
    · exact ⟨[], by simp⟩
    · rename_i x r e
      obtain ⟨g, hg⟩ := walkL_pre (ls := ls) n (f ++ [x]) x
      exact ⟨x :: g, by rw [hg]; simp⟩
theorem walkF_pre {ls : List Pr} {s : Pr} : ∃ g, walkF ls s = s :: g := by
  obtain ⟨g, h⟩ := walkL_pre (ls := ls) ls.length [s] s
  exact ⟨g, h⟩
theorem walkF_sub {ls : List Pr} {s : Pr} (h : s ∈ ls) : ∀ x ∈ walkF ls s, x ∈ ls := walkL_sub _ _ _ fun x hx => by simp at hx; subst hx; exact h
theorem walkF_ne {ls : List Pr} {s : Pr} : walkF ls s ≠ [] := by obtain ⟨g, h⟩ := walkF_pre (ls := ls) (s := s); rw [h]; simp
end K42
set_option Elab.async false
set_option linter.all false
set_option maxRecDepth 100000
set_option maxHeartbeats 2000000
namespace K42
open PySem L2 Dn
theorem last_at {l : List Pr} (h : l ≠ []) : op2 getV (some (U.lst (l.map pairU))) (op1 negV (some (U.int 1))) = some (pairU (l.getLast h)) := by
  show atI (l.map pairU) (-1) = _
  have e : l.map pairU = l.dropLast.map pairU ++ [pairU (l.getLast h)] := by
    have := List.dropLast_concat_getLast h
    rw [show [pairU (l.getLast h)] = [l.getLast h].map pairU from rfl, ← List.map_append, this]
  rw [e]
  exact atI_neg1
theorem first_at {l : List Pr} (h : l ≠ []) : op2 getV (some (U.lst (l.map pairU))) (some (U.int 0)) = some (pairU (l.head h)) := by
  cases l with
  | nil => exact absurd rfl h
  | cons x l => exact get0n
def closedB (l : List Pr) (h : l ≠ []) : Bool := decide (2 < l.length) && besB (l.head h) (l.getLast h)
theorem closed_ok {l : List Pr} (h : l ≠ []) : m_is_closed (.lst (l.map pairU)) = some (.bl (closedB l h)) := by
  unfold m_is_closed
  rw [first_at h, last_at h]
  have e1 : op2 gtV (callO lenV (consO (some (U.lst (l.map pairU))) (some []))) (some (U.int 2)) = some (.bl (decide (2 < l.length))) := by
    show some (U.bl (decide ((2 : Int) < ((l.map pairU).length : Nat)))) = _
    rw [List.length_map]
    congr 2
    rw [decide_eq_decide]
    omega
  have e2 : callO (a2 m_are_beside) (consO (some (pairU (l.head h))) (consO (some (pairU (l.getLast h))) (some []))) = some (.bl (besB (l.head h) (l.getLast h))) := beside_ok
  rw [e1, e2, andV_s]
  rfl
theorem hit_pair {a b : Pr} : hitU (pairU a) (pairU b) = decide (b = a) := by
  unfold hitU
  rw [show dep = 38 + 2 from rfl, eq_pair]
  by_cases h : b = a <;> simp [h]
theorem findIdx_map' {a : Pr} : ∀ ls : List Pr, (ls.map pairU).findIdx (hitU (pairU a)) = ls.findIdx fun b => decide (b = a)
  | [] => rfl
  | x :: ls => by
    rw [List.map_cons, List.findIdx_cons, List.findIdx_cons, hit_pair, findIdx_map' ls]
def posL (ls : List Pr) (a : Pr) : Nat := ls.findIdx fun b => decide (b = a)
theorem idx_ok {ls : List Pr} {a : Pr} (h : a ∈ ls) : tidxV (.tpd (ls.map pairU)) (pairU a) = some (.int (posL ls a : Nat)) := by
  show (inO dep (pairU a) (ls.map pairU)).bind (fun b => if b = true then some (U.int ((ls.map pairU).findIdx (hitU (pairU a)) : Nat)) else none) = _
  rw [show dep = 38 + 2 from rfl, inO_pairs, decide_eq_true h, Option.bind_some, if_pos rfl, findIdx_map']
  rfl
def rowF (ls : List Pr) (s : Pr) : List Pr :=
  let row := walkF ls s
  if closedB row walkF_ne = true then row
  else
    let row2 := walkF ls (row.getLast walkF_ne)
    if posL ls (row2.head walkF_ne) ≤ posL ls (row2.getLast walkF_ne) then row2 else row2.reverse
theorem row_ok {ls : List Pr} {s : Pr} (hl : ls.length ≤ 200) (hs : s ∈ ls) : m_row_of (.tpd (ls.map pairU)) (pairU s) = some (.tup ((rowF ls s).map pairU)) := by
  unfold m_row_of
  have e1 : callO (a2 m_walk_from) (consO (some (U.tpd (ls.map pairU))) (consO (some (pairU s)) (some []))) = some (.lst ((walkF ls s).map pairU)) := walk_ok hl
  have e2 : callO (a1 m_is_closed) (consO (some (U.lst ((walkF ls s).map pairU))) (some [])) = some (.bl (closedB (walkF ls s) walkF_ne)) := closed_ok walkF_ne
  rw [e1, Option.bind_some, e2, testO_s, ifO_s]
  by_cases hc : closedB (walkF ls s) walkF_ne = true
  · rw [if_pos hc]
    have : rowF ls s = walkF ls s := by unfold rowF; simp only; rw [if_pos hc]
    rw [this]
    rfl
  · rw [if_neg hc, last_at walkF_ne]
    have hlast : (walkF ls s).getLast walkF_ne ∈ ls := walkF_sub hs _ (List.getLast_mem walkF_ne)
    generalize hz : (walkF ls s).getLast walkF_ne = z at hlast
    have e3 : callO (a2 m_walk_from) (consO (some (U.tpd (ls.map pairU))) (consO (some (pairU z)) (some []))) = some (.lst ((walkF ls z).map pairU)) := walk_ok hl
    rw [e3, Option.bind_some, first_at walkF_ne, last_at walkF_ne]
    have i1 := idx_ok (walkF_sub hlast _ (List.head_mem (walkF_ne (ls := ls) (s := z))))
    have i2 := idx_ok (walkF_sub hlast _ (List.getLast_mem (walkF_ne (ls := ls) (s := z))))
    rw [op2_s, op2_s, i1, i2, op2_s, leV_i, testO_s, ifO_s]
    have hrow : rowF ls s = if posL ls ((walkF ls z).head walkF_ne) ≤ posL ls ((walkF ls z).getLast walkF_ne) then walkF ls z else (walkF ls z).reverse := by
      subst hz
      unfold rowF
      simp only
      rw [if_neg hc]
    rw [hrow]
    by_cases hp : posL ls ((walkF ls z).head walkF_ne) ≤ posL ls ((walkF ls z).getLast walkF_ne)
    · rw [if_pos hp, if_pos (by simpa using hp)]
      rfl
    · rw [if_neg hp, if_neg (by simpa using hp)]
      show callO (c1 tupleV) (consO (some (U.lst ((walkF ls z).map pairU).reverse)) (some [])) = _
      rw [← List.map_reverse]
      rfl
theorem rowF_sub {ls : List Pr} {s : Pr} (hs : s ∈ ls) : ∀ x ∈ rowF ls s, x ∈ ls := by
  have h1 := walkF_sub hs
  have h2 := walkF_sub (h1 _ (List.getLast_mem (walkF_ne (ls := ls) (s := s))))
  unfold rowF
  simp only
  split
  · exact h1
  · split
    · exact h2
    · intro x hx
      exact h2 x (List.mem_reverse.mp hx)
def kyP (p : Pr) : List Key := [.inr p.1, .inr p.2]
theorem kyP_inj {a b : Pr} (h : kyP a = kyP b) : a = b := by
  simp [kyP] at h
  exact Prod.ext h.1 h.2
def metD (ms : List Pr) : List (List Key × U) := ms.map fun p => (kyP p, .bl true)
theorem look_met {ms : List Pr} {p : Pr} : (lookK (metD ms) (kyP p)).isSome = decide (p ∈ ms) := by
  unfold lookK metD
  rw [Option.isSome_map, Bool.eq_iff_iff, List.find?_isSome, decide_eq_true_eq]
  constructor
  · rintro ⟨kv, hm, e⟩
    obtain ⟨q, hq, rfl⟩ := List.mem_map.mp hm
    exact kyP_inj (of_decide_eq_true e) ▸ hq
  · exact fun h => ⟨_, List.mem_map.mpr ⟨p, h, rfl⟩, decide_eq_true rfl⟩
theorem notIn_met {ms : List Pr} {p : Pr} : notInV2 (pairU p) (.dit (metD ms)) = some (.bl (!decide (p ∈ ms))) := by
  show ((some (lookK (metD ms) (kyP p))).map Option.isSome).map (fun b => U.bl (!b)) = _
  rw [Option.map_some, Option.map_some, look_met]
def putM (ms : List Pr) (p : Pr) : List Pr := if p ∈ ms then ms else ms ++ [p]
theorem put_met {ms : List Pr} {p : Pr} : putU (metD ms) (kyP p) (.bl true) = metD (putM ms p) := by
  unfold putU putM
  by_cases h : p ∈ ms
  · have : ((metD ms).any fun kv => decide (kv.1 = kyP p)) = true := by
      rw [List.any_eq_true]
      exact ⟨(kyP p, .bl true), List.mem_map.mpr ⟨p, h, rfl⟩, by simp⟩
    rw [if_pos this, if_pos h]
    unfold metD
    rw [List.map_map]
    apply List.map_congr_left
    intro q _
    simp only [Function.comp_apply]
    split <;> rfl
  · have : ¬ ((metD ms).any fun kv => decide (kv.1 = kyP p)) = true := by
      rw [List.any_eq_true]
      rintro ⟨kv, hm, e⟩
      obtain ⟨q, hq, rfl⟩ := List.mem_map.mp hm
      simp at e
      exact h (kyP_inj e ▸ hq)
    rw [if_neg this, if_neg h]
    simp [metD]
def putsM (ms : List Pr) : List Pr → List Pr
  | [] => ms
  | p :: ps => putsM (putM ms p) ps
theorem putM_len {ms : List Pr} {p : Pr} {ls : List Pr} (nd : ms.Nodup) (h : ∀ x ∈ ms, x ∈ ls) (hp : p ∈ ls) : (putM ms p).Nodup ∧ ∀ x ∈ putM ms p, x ∈ ls := by
  unfold putM
  split
  · exact ⟨nd, h⟩
  · rename_i hn
    refine ⟨?_, fun x hx => ?_⟩
    · rw [List.nodup_append]
      exact ⟨nd, by simp, fun a ha b hb e => by simp at hb; subst hb; subst e; exact hn ha⟩
    · rcases List.mem_append.mp hx with hx | hx
      · exact h x hx
      · simp at hx; subst hx; exact hp
theorem putsM_facts {ls : List Pr} : ∀ (ps ms : List Pr), ms.Nodup → (∀ x ∈ ms, x ∈ ls) → (∀ x ∈ ps, x ∈ ls) → (putsM ms ps).Nodup ∧ (∀ x ∈ putsM ms ps, x ∈ ls)
  | [], ms, nd, h, _ => ⟨nd, h⟩
  | p :: ps, ms, nd, h, hp => by
    obtain ⟨a, b⟩ := putM_len nd h (hp p (List.mem_cons_self ..))
    exact putsM_facts ps (putM ms p) a b fun x hx => hp x (List.mem_cons_of_mem _ hx)
theorem nodup_len {ms ls : List Pr} (nd : ms.Nodup) (h : ∀ x ∈ ms, x ∈ ls) : ms.length ≤ ls.length := nodup_le nd h
theorem rows_in_l2 {p0 : U} {k : SM U} {f : U} {ls : List Pr} (hl : ls.length ≤ 200) : ∀ (ps ms : List Pr), ms.Nodup → (∀ x ∈ ms, x ∈ ls) → (∀ x ∈ ps, x ∈ ls) → m_rows_in_l2 p0 k (ps.map pairU) [f, .dit (metD ms)] = k [f, .dit (metD (putsM ms ps))]
  | [], ms, _, _, _ => rfl
  | p :: ps, ms, nd, h, hp => by
    have hlen : (metD ms).length < lim := by
      have := nodup_len nd h
      have hlim : lim = 100000 := rfl
      simp [metD]; omega
    have c : putS 1 (pairU p) (.bl true) [f, .dit (metD ms)] = some (.non, [f, .dit (metD (putM ms p))]) := by
      show ((some (kyP p)).bind fun kk => if (metD ms).length < lim then some (U.non, [f, .dit (metD ms)].set 1 (.dit (putU (metD ms) kk (.bl true)))) else none) = _
      rw [Option.bind_some, if_pos hlen, put_met]
      rfl
    obtain ⟨a, b⟩ := putM_len nd h (hp p (List.mem_cons_self ..))
    have ih := rows_in_l2 (p0 := p0) (k := k) (f := f) hl ps (putM ms p) a b fun x hx => hp x (List.mem_cons_of_mem _ hx)
    show bindS (pureS (some (U.bl true))) (fun y119 => bindS (pureS (some (pairU p))) fun k120 => bindS (putS 1 k120 y119) fun _ => m_rows_in_l2 p0 k (ps.map pairU)) [f, .dit (metD ms)] = _
    rw [bindS_pure, bindS_pure, bindS_s c, ih]
    rfl
def rowsL (ls : List Pr) : List Pr → List (List Pr) → List Pr → List (List Pr)
  | [], f, _ => f
  | l :: r, f, ms => if l ∈ ms then rowsL ls r f ms else rowsL ls r (f ++ [rowF ls l]) (putsM ms (rowF ls l))
abbrev rowTs (f : List (List Pr)) : List U := f.map fun r => U.tup (r.map pairU)
theorem rows_in_l1 {ls : List Pr} {k : SM U} (hl : ls.length ≤ 200) : ∀ (suf : List Pr) (f : List (List Pr)) (ms : List Pr), (∀ x ∈ suf, x ∈ ls) → ms.Nodup → (∀ x ∈ ms, x ∈ ls) → f.length + suf.length ≤ 300 →
    ∃ ms', m_rows_in_l1 (.tpd (ls.map pairU)) k (suf.map pairU) [.frl (rowTs f), .dit (metD ms)] = k [.frl (rowTs (rowsL ls suf f ms)), .dit (metD ms')]
  | [], f, ms, _, _, _, _ => ⟨ms, rfl⟩
  | l :: suf, f, ms, hs, nd, hm, hf => by
    have hlim : lim = 100000 := rfl
    rw [List.length_cons] at hf
    have hll := hs l (List.mem_cons_self ..)
    have hs' : ∀ x ∈ suf, x ∈ ls := fun x hx => hs x (List.mem_cons_of_mem _ hx)
    have c1 : lockT 1 (fun u50 => (testO (op2 notInV2 (some (pairU l)) (some u50)))) [.frl (rowTs f), .dit (metD ms)] = some (!decide (l ∈ ms), [.frl (rowTs f), .dit (metD ms)]) := lockT_s rfl rfl (by rw [op2_s, notIn_met]; rfl)
    show ∃ ms', ifS (lockT 1 fun u50 => (testO (op2 notInV2 (some (pairU l)) (some u50)))) _ _ _ = _
    rw [ifS_s c1]
    by_cases h : l ∈ ms
    · obtain ⟨ms', e⟩ := rows_in_l1 (k := k) hl suf f ms hs' nd hm (by omega)
      refine ⟨ms', ?_⟩
      rw [if_neg (by simp [h])]
      have : rowsL ls (l :: suf) f ms = rowsL ls suf f ms := by
        show (if l ∈ ms then _ else _) = _
        rw [if_pos h]
      rw [this, ← e]
    · rw [if_pos (by simp [h])]
      have e1 : callO (a2 m_row_of) (consO (some (U.tpd (ls.map pairU))) (consO (some (pairU l)) (some []))) = some (.tup ((rowF ls l).map pairU)) := row_ok hl hll
      rw [e1, bindS_pure, bindS_pure]
      have c2 : appS 0 (.tup ((rowF ls l).map pairU)) [.frl (rowTs f), .dit (metD ms)] = some (.non, [.frl (rowTs (f ++ [rowF ls l])), .dit (metD ms)]) := by
        show (if (rowTs f).length < lim then some (U.non, [U.frl (rowTs f), .dit (metD ms)].set 0 (.frl (rowTs f ++ [.tup ((rowF ls l).map pairU)]))) else none) = _
        rw [if_pos (by simp; omega)]
        simp
      rw [bindS_s c2]
      rw [withK_s, show iterO U.iter (some (U.tup ((rowF ls l).map pairU))) = some ((rowF ls l).map pairU) from rfl, bindS_pure]
      rw [rows_in_l2 hl (rowF ls l) ms nd hm (rowF_sub hll)]
      obtain ⟨a, b⟩ := putsM_facts (rowF ls l) ms nd hm (rowF_sub hll)
      obtain ⟨ms', e⟩ := rows_in_l1 (k := k) hl suf (f ++ [rowF ls l]) (putsM ms (rowF ls l)) hs' a b (by rw [List.length_append, List.length_singleton]; omega)
      refine ⟨ms', ?_⟩
      have : rowsL ls (l :: suf) f ms = rowsL ls suf (f ++ [rowF ls l]) (putsM ms (rowF ls l)) := by
        show (if l ∈ ms then _ else _) = _
        rw [if_neg h]
      rw [this, ← e]
def zigs (ls : List Pr) : List (List Pr) := rowsL ls ls [] []
theorem rows_in_ok {ls : List Pr} (hl : ls.length ≤ 200) : m_rows_in (.tpd (ls.map pairU)) = some (.tup (rowTs (zigs ls))) := by
  unfold m_rows_in runS m_rows_inS
  obtain ⟨ms', e⟩ := rows_in_l1 (ls := ls) (k := bindS (takeS 0) fun x140 => (pureS (callO (c1 tupleV) (consO (some x140) (some []))))) hl ls [] [] (fun x hx => hx) .nil (fun x hx => nomatch hx) (by simp; omega)
  show ((m_rows_in_l1 (.tpd (ls.map pairU)) _ (ls.map pairU) [.frl (rowTs []), .dit (metD [])]).map Prod.fst) = _
  rw [e]
  rfl
def webFs (rs : List Row) : List (Str × U) := webF (.str (textT rs)) (.tup (rowsU rs)) (.tup (txs (names rs))) (.tpd ((linesT rs).map pairU)) (.tup (rowTs (zigs (linesT rs))))
def webU (rs : List Row) : U := .obj 0 (webFs rs)
theorem names_len {rs : List Row} : (names rs).length = rs.length := by simp [names]
theorem heads_of {rs : List Row} (hl : rs.length ≤ 40) : callO (c1 tupleV) (consO (compO2 (fun u4 u7 => (some true)) (fun u4 u7 => (some u4)) (iterO U.iter (some (U.tup (rowsU rs))))) (some [])) = some (.tup (txs (names rs))) := by
  have hlim : lim = 100000 := rfl
  have : compO2 (fun u4 u7 => (some true)) (fun u4 u7 => (some u4)) (iterO U.iter (some (U.tup (rowsU rs)))) = some (.lst (txs (names rs))) := by
    have := lcO_mf (p := fun u => (unp2 u).bind fun _ => some true) (f := fun u => (unp2 u).bind fun ab => some ab.1) (g := rowU) (q := fun _ => true) (h := fun r => U.str r.1) rs (by omega) (fun _ _ => rfl) (fun _ _ _ => rfl)
    rw [List.filter_eq_self.mpr (fun _ _ => rfl)] at this
    rw [show txs (names rs) = rs.map fun r => U.str r.1 by simp [txs, names]]
    exact this
  rw [this]
  rfl
theorem pairs_of {rs : List Row} (h : Web rs) (hl : rs.length ≤ 40) : callO (c1 tpdV) (consO (compOO (fun uu => (unp2 uu).bind fun ab => (fun u13 u16 => (some true)) ab.1 ab.2) (fun uu => (unp2 uu).bind fun ab => (fun u13 u16 => (iterO U.iter (some u16))) ab.1 ab.2) (fun uu u19 => (unp2 uu).bind fun ab => (fun u13 u16 => (some true)) ab.1 ab.2) (fun uu u19 => (unp2 uu).bind fun ab => (fun u13 u16 => (tupO (consO (some u19) (consO (some u13) (some []))))) ab.1 ab.2) (iterO U.iter (some (U.tup (rowsU rs))))) (some [])) = some (.tpd ((linesT rs).map pairU)) := by
  have hlim : lim = 100000 := rfl
  have e := lc2L_app (p := fun uu => (unp2 uu).bind fun ab => (fun u13 u16 => (some true)) ab.1 ab.2) (ys := fun uu => (unp2 uu).bind fun ab => (fun u13 u16 => (iterO U.iter (some u16))) ab.1 ab.2) (p1 := fun uu u19 => (unp2 uu).bind fun ab => (fun u13 u16 => (some true)) ab.1 ab.2) (f := fun uu u19 => (unp2 uu).bind fun ab => (fun u13 u16 => (tupO (consO (some u19) (consO (some u13) (some []))))) ab.1 ab.2) (g := rowU) (h := fun r => (r.2.map fun s => (s, r.1)).map pairU) rs (fun _ _ => rfl) (fun r hr => ⟨txs r.2, rfl, by rw [txs_length]; have := h.row_two r hr; omega, by
    have := lcL_mf (p := fun u19 => some true) (f := fun u19 => (tupO (consO (some u19) (consO (some (U.str r.1)) (some []))))) (g := U.str) (q := fun _ => true) (h := fun s => pairU (s, r.1)) r.2 (fun _ _ => rfl) (fun _ _ _ => rfl)
    rw [List.filter_eq_self.mpr (fun _ _ => rfl)] at this
    rw [List.map_map]
    exact this⟩)
  have e2 : compOO (fun uu => (unp2 uu).bind fun ab => (fun u13 u16 => (some true)) ab.1 ab.2) (fun uu => (unp2 uu).bind fun ab => (fun u13 u16 => (iterO U.iter (some u16))) ab.1 ab.2) (fun uu u19 => (unp2 uu).bind fun ab => (fun u13 u16 => (some true)) ab.1 ab.2) (fun uu u19 => (unp2 uu).bind fun ab => (fun u13 u16 => (tupO (consO (some u19) (consO (some u13) (some []))))) ab.1 ab.2) (iterO U.iter (some (U.tup (rowsU rs)))) = some (.lst ((linesT rs).map pairU)) := by
    show (lc2L _ _ _ _ (rs.map rowU)).bind _ = _
    rw [e, Option.bind_some]
    have e3 : (rs.flatMap fun r => (r.2.map fun s => (s, r.1)).map pairU) = (linesT rs).map pairU := by simp only [linesT, List.map_flatMap]
    rw [e3, if_pos (by rw [List.length_map]; have := linesT_len h.row_two; omega)]
  rw [e2]
  rfl
theorem init_ok {rs : List Row} (h : Web rs) (hl : rs.length ≤ 40) : m_Web_init (.str (textT rs)) = some (webFs rs) := by
  unfold m_Web_init
  have e1 : callO (a1 m_web_in) (consO (some (U.str (textT rs))) (some [])) = some (.tup (rowsU rs)) := web_in_ok h hl
  have e2 : testO (op2 isV (some (U.tup (rowsU rs))) (some U.non)) = some false := rfl
  have e6 : a1 m_rows_in [.tpd ((linesT rs).map pairU)] = some (.tup (rowTs (zigs (linesT rs)))) := rows_in_ok (by have := linesT_len h.row_two; omega)
  rw [e1, Option.bind_some, e2, Option.bind_some, if_neg Bool.false_ne_true, heads_of hl, Option.bind_some, pairs_of h hl, Option.bind_some]
  show (a1 m_rows_in [.tpd ((linesT rs).map pairU)]).map _ = _
  rw [e6]
  rfl
theorem make_ok {rs : List Row} (h : Web rs) (hl : rs.length ≤ 40) : callO (mkF 0 m_Web_init) (consO (some (U.str (textT rs))) (some [])) = some (webU rs) := by
  show (m_Web_init (.str (textT rs))).map (U.obj 0) = _
  rw [init_ok h hl]
  rfl
end K42
set_option Elab.async false
set_option linter.all false
set_option maxRecDepth 100000
set_option maxHeartbeats 2000000
namespace K42
open PySem L2 Dn
theorem f_written {rs : List Row} : op1 (fldV 0 "written") (some (webU rs)) = some (.str (textT rs)) := by
  show List.lookup ("written" : Str) (webFs rs) = _
  simp only [webFs, webF, List.lookup_cons, beq_self_eq_true]
theorem f_rows {rs : List Row} : op1 (fldV 0 "rows") (some (webU rs)) = some (.tup (rowsU rs)) := by
  have q_written : (("rows" : Str) == ("written" : Str)) = false := by decide +kernel
  show List.lookup ("rows" : Str) (webFs rs) = _
  simp only [webFs, webF, List.lookup_cons, beq_self_eq_true, q_written]
theorem f_heads {rs : List Row} : op1 (fldV 0 "heads") (some (webU rs)) = some (.tup (txs (names rs))) := by
  have q_written : (("heads" : Str) == ("written" : Str)) = false := by decide +kernel
  have q_rows : (("heads" : Str) == ("rows" : Str)) = false := by decide +kernel
  show List.lookup ("heads" : Str) (webFs rs) = _
  simp only [webFs, webF, List.lookup_cons, beq_self_eq_true, q_written, q_rows]
theorem f_pairs {rs : List Row} : op1 (fldV 0 "pairs") (some (webU rs)) = some (.tpd ((linesT rs).map pairU)) := by
  have q_written : (("pairs" : Str) == ("written" : Str)) = false := by decide +kernel
  have q_rows : (("pairs" : Str) == ("rows" : Str)) = false := by decide +kernel
  have q_heads : (("pairs" : Str) == ("heads" : Str)) = false := by decide +kernel
  show List.lookup ("pairs" : Str) (webFs rs) = _
  simp only [webFs, webF, List.lookup_cons, beq_self_eq_true, q_written, q_rows, q_heads]
theorem p_names {rs : List Row} : op1 (propV 0 (a1 m_Web_names)) (some (webU rs)) = some (.tup (txs (names rs))) := f_heads
def endsT (rs : List Row) : List Str := (names rs).filter fun n => !decide (n ∈ srcs rs)
theorem in_tup {s : Str} {ss : List Str} : inV2 (.str s) (.tup (txs ss)) = some (.bl (decide (s ∈ ss))) := by
  show (inO dep (.str s) (txs ss)).map U.bl = _
  rw [show dep = 39 + 1 from rfl, inO_tx]
  rfl
theorem notIn_lst {s : Str} {ss : List Str} : notInV2 (.str s) (.lst (txs ss)) = some (.bl (!decide (s ∈ ss))) := by
  show (inO dep (.str s) (txs ss)).map (fun b => U.bl (!b)) = _
  rw [show dep = 39 + 1 from rfl, inO_tx]
  rfl
theorem notIn_tup {s : Str} {ss : List Str} : notInV2 (.str s) (.tup (txs ss)) = some (.bl (!decide (s ∈ ss))) := by
  show (inO dep (.str s) (txs ss)).map (fun b => U.bl (!b)) = _
  rw [show dep = 39 + 1 from rfl, inO_tx]
  rfl
/-- the copies of a source -/
def copsT (rs : List Row) (n : Str) : List Str := ((linesT rs).filter fun p => decide (p.1 = n)).map (·.2)
theorem check_ok {rs : List Row} {n : Str} (hn : n ∈ names rs) : m_check_copy (webU rs) (.str n) = some .non := by
  unfold m_check_copy
  rw [f_heads, op2_s, notIn_tup, decide_eq_true hn]
  rfl
theorem copies_of {rs : List Row} (h : Web rs) (hl : rs.length ≤ 40) {n : Str} (hn : n ∈ names rs) : m_Web_copies (webU rs) (.str n) = some (.tup (txs (copsT rs n))) := by
  have hlim : lim = 100000 := rfl
  unfold m_Web_copies
  rw [f_pairs, show callO (a2 m_check_copy) (consO (some (webU rs)) (consO (some (U.str n)) (some []))) = some .non from check_ok hn, Option.bind_some]
  have e1 : compO2 (fun u11 u14 => (testO (op2 eqV2 (some u11) (some (U.str n))))) (fun u11 u14 => (some u14)) (iterO U.iter (some (U.tpd ((linesT rs).map pairU)))) = some (.lst (txs (copsT rs n))) := by
    have := lcO_mf (p := fun u => (unp2 u).bind fun ab => (testO (op2 eqV2 (some ab.1) (some (U.str n))))) (f := fun u => (unp2 u).bind fun ab => some ab.2) (g := pairU) (q := fun p => decide (p.1 = n)) (h := fun p => U.str p.2) (linesT rs) (by have := linesT_len h.row_two; omega) (fun p _ => by
      show testO (eqV2 (.str p.1) (.str n)) = _
      rw [eqV2_ss, testO_s]; congr 1) (fun _ _ _ => rfl)
    rw [show txs (copsT rs n) = ((linesT rs).filter fun p => decide (p.1 = n)).map fun p => U.str p.2 by simp [txs, copsT]]
    exact this
  rw [e1]
  rfl
theorem Word.small {w : Str} (h : Word w) : ∀ c ∈ w.cps.toList, c < 16 ^ 8 := fun c hc => Nat.lt_of_le_of_lt (h.2.2 c hc).2 (by decide)
theorem join_small {a : Str} {ss : List Str} (ha : ∀ c ∈ a.cps.toList, c < 16 ^ 8) (h : ∀ s ∈ ss, ∀ c ∈ s.cps.toList, c < 16 ^ 8) : ∀ c ∈ (Txt.join a ss).cps.toList, c < 16 ^ 8 := fun c hc => by
  have hc : c ∈ TL.tl (Txt.join a ss) := hc
  rw [TL.join_eq, TL.tl_join] at hc
  rcases mem_joinL hc with hc | ⟨p, hp, hc⟩
  · exact ha c hc
  · obtain ⟨s, hs, rfl⟩ := List.mem_map.mp hp
    exact h s hs c hc
theorem text_small {rs : List Row} (h : Web rs) : ∀ c ∈ (textT rs).cps.toList, c < 16 ^ 8 := by
  refine join_small (by decide +kernel) fun p hp => ?_
  obtain ⟨r, hr, rfl⟩ := List.mem_map.mp hp
  refine join_small (by decide +kernel) fun s hs => ?_
  rcases List.mem_cons.mp hs with rfl | hs
  · exact (h.words _ (List.mem_map.mpr ⟨r, hr, rfl⟩)).small
  · exact (h.src_word hr s hs).small
theorem cut_ints {ns : List Int} {lo hi : Option Int} : cutU (ns.map U.int) lo hi = ((ns.drop (HT.sIx ns.length 0 lo)).take (HT.sIx ns.length ns.length hi - HT.sIx ns.length 0 lo)).map U.int := by
  unfold cutU
  rw [List.length_map, List.map_take, List.map_drop]
theorem lcSL_const {p : U → SM Bool} {f : U → SM U} {v : U} (hp : ∀ x us, p x us = some (true, us)) : ∀ (xs : List U) (us : List U), (∀ x ∈ xs, f x us = some (v, us)) → lcSL p f xs us = some (xs.map fun _ => v, us)
  | [], us, _ => rfl
  | x :: xs, us, h => by
    have ih := lcSL_const hp xs us fun y hy => h y (List.mem_cons_of_mem _ hy)
    unfold lcSL
    rw [bindS_s (hp x us)]
    simp only [if_true]
    rw [bindS_s (h x (List.mem_cons_self ..)), bindS_s ih]
    rfl
theorem ends_of {rs : List Row} (h : Web rs) (hl : rs.length ≤ 40) : m_Web_ends (webU rs) = some (.tup (txs (endsT rs))) := by
  have hlim : lim = 100000 := rfl
  unfold m_Web_ends
  rw [f_pairs, f_heads]
  have e1 : compO2 (fun u10 u13 => (some true)) (fun u10 u13 => (some u10)) (iterO U.iter (some (U.tpd ((linesT rs).map pairU)))) = some (.lst (txs (srcs rs))) := by
    have := lcO_mf (p := fun u => (unp2 u).bind fun _ => some true) (f := fun u => (unp2 u).bind fun ab => some ab.1) (g := pairU) (q := fun _ => true) (h := fun p => U.str p.1) (linesT rs) (by have := linesT_len h.row_two; omega) (fun _ _ => rfl) (fun _ _ _ => rfl)
    rw [List.filter_eq_self.mpr (fun _ _ => rfl)] at this
    rw [← linesT_fst, show txs ((linesT rs).map (·.1)) = (linesT rs).map fun p => U.str p.1 by simp [txs]]
    exact this
  rw [e1]
  have e2 : compO (fun u4 => (testO (op2 notInV2 (some u4) (some (U.lst (txs (srcs rs))))))) (fun u4 => (some u4)) (iterO U.iter (some (U.tup (txs (names rs))))) = some (.lst (txs (endsT rs))) :=
    lcO_mf (p := fun u4 => (testO (op2 notInV2 (some u4) (some (U.lst (txs (srcs rs))))))) (f := fun u4 => (some u4)) (g := U.str) (q := fun n => !decide (n ∈ srcs rs)) (h := U.str) (names rs) (by rw [names_len]; omega) (fun n _ => by rw [op2_s, notIn_lst]; rfl) (fun _ _ _ => rfl)
  rw [e2]
  rfl
theorem p_ends {rs : List Row} (h : Web rs) (hl : rs.length ≤ 40) : op1 (propV 0 (a1 m_Web_ends)) (some (webU rs)) = some (.tup (txs (endsT rs))) := ends_of h hl
theorem purse_l1 {c : U} {k : U → SM U} : ∀ (ns : List Int) (s : Int), ∃ s', m_law_purse_l1 c k (ns.map U.int) (.int s) [] = k (.int s') []
  | [], s => ⟨s, rfl⟩
  | n :: ns, s => by
    obtain ⟨s', e⟩ := purse_l1 (c := c) (k := k) ns ((s * 40692 + n % 2147483647 + 101) % 2147483647)
    refine ⟨s', ?_⟩
    rw [← e]
    have e1 : op2 mulV (some (U.int s)) (some (U.int 40692)) = some (.int (s * 40692)) := mulV_r (by decide)
    show bindS (pureS (op2 modV (callO (c1 intV) (consO (op2 addV (op2 addV (op2 mulV (some (U.int s)) (some (U.int 40692))) (op2 modV (callO (c1 intV) (consO (some (U.int n)) (some []))) (some (U.int 2147483647)))) (some (U.int 101))) (some []))) (some (U.int 2147483647)))) (fun x56 => (m_law_purse_l1 c k (ns.map U.int) (x56))) [] = _
    rw [consO_s, callO_s, intV_i, e1, op2_s, modV_i (by decide), op2_s, addV_i, op2_s, addV_i, consO_s, callO_s, intV_i, op2_s, modV_i (by decide), bindS_pure]
theorem purse_ok {ns : List Int} {t : Nat} (hl : ns.length ≤ 63) : ∃ u, m_law_purse (.frl (ns.map U.int)) (.int t) = some u ∧ Urn u := by
  have el : callO lenV (consO (some (U.frl (ns.map U.int))) (some [])) = some (.int ns.length) := by simp [lenV]
  obtain ⟨c, ec⟩ : ∃ c : Int, ifO (testO (op2 ltV (some (U.int t)) (callO lenV (consO (some (U.frl (ns.map U.int))) (some []))))) (op2 getV (some (U.frl (ns.map U.int))) (some (U.int t))) (op2 mulV (some (U.int 6373)) (op2 addV (some (U.int t)) (some (U.int 5)))) = some (.int c) := by
    rw [el, op2_s, ltV_i, testO_s, ifO_s]
    split
    · rename_i ht
      have ht : (t : Int) < ns.length := by simpa using ht
      have ht2 : t < ns.length := by omega
      have : op2 getV (some (U.frl (ns.map U.int))) (some (U.int t)) = some (.int ns[t]) := atI_nat' (by simp [ht2])
      rw [this]
      exact ⟨_, rfl⟩
    · rw [op2_s, addV_i, op2_s, mulV_l (by decide)]
      exact ⟨_, rfl⟩
  have es : slO (some (U.frl (ns.map U.int))) (some none) (ptO (some (U.int 5))) = some (.lst (((ns.drop (HT.sIx ns.length 0 none)).take (HT.sIx ns.length ns.length (some 5) - HT.sIx ns.length 0 none)).map U.int)) := by
    show some (U.lst (cutU (ns.map U.int) none (some 5))) = _
    rw [cut_ints]
  have hms : ((ns.drop (HT.sIx ns.length 0 none)).take (HT.sIx ns.length ns.length (some 5) - HT.sIx ns.length 0 none)).length ≤ 63 := by
    rw [List.length_take, List.length_drop]; omega
  generalize (ns.drop (HT.sIx ns.length 0 none)).take (HT.sIx ns.length ns.length (some 5) - HT.sIx ns.length 0 none) = ms at es hms
  have hlim : lim = 100000 := rfl
  have ea : op2 addV (some (U.lst (ms.map U.int))) (lstO (consO (some (U.int c)) (some []))) = some (.lst ((ms ++ [c]).map U.int)) := by
    show (if (ms.map U.int).length + [U.int c].length ≤ lim then some (U.lst (ms.map U.int ++ [.int c])) else none) = _
    rw [if_pos (by simp; omega)]
    simp
  have ep : op2 powV (some (U.int 10)) (some (U.int 18)) = some (.int (10 ^ 18)) := by
    show (if (0 : Int) ≤ 18 ∧ (18 : Int) ≤ 1000000 ∧ (10 : Int).natAbs < 2 ^ 64 then some (U.int (10 ^ (18 : Int).toNat)) else none) = _
    rw [if_pos (by decide)]
    rfl
  obtain ⟨g, eg⟩ : ∃ g : Int, ifO (testO (op2 geV (callO (c1 absU) (consO (some (U.int c)) (some []))) (some (U.int (10 ^ 18))))) (callO (c1 absU) (consO (some (U.int c)) (some []))) (some (U.int 0)) = some (.int g) := by
    have : ∃ z : Int, callO (c1 absU) (consO (some (U.int c)) (some [])) = some (.int z) := ⟨_, rfl⟩
    obtain ⟨z, ez⟩ := this
    rw [ez, op2_s, geV_i, testO_s, ifO_s]
    split
    · exact ⟨_, rfl⟩
    · exact ⟨_, rfl⟩
  obtain ⟨s', e2⟩ := purse_l1 (c := .int c) (k := fun x68 => (nlstS (pureS (consO (ifO (testO (op2 geV (callO (c1 absU) (consO (some (U.int c)) (some []))) (op2 powV (some (U.int 10)) (some (U.int 18))))) (callO (c1 absU) (consO (some (U.int c)) (some []))) (some (U.int 0))) (consO (some x68) (some [])))))) (ms ++ [c]) (941 + t)
  refine ⟨.frl [.int g, .int s'], ?_, ⟨_, _, rfl⟩⟩
  have e4 : m_law_purseS (.frl (ns.map U.int)) (.int t) [] = some (.frl [.int g, .int s'], []) := by
    refine Eq.trans ?_ (e2.trans ?_)
    · unfold m_law_purseS
      rw [ec, bindS_pure, op2_s, addV_i, bindS_pure, withK_s, es, ea]
      rfl
    · show nlstS _ _ = _
      rw [ep, eg]
      rfl
  show (m_law_purseS (.frl (ns.map U.int)) (.int t) []).map Prod.fst = _
  rw [e4]
  rfl
end K42
set_option Elab.async false
set_option linter.all false
set_option maxRecDepth 100000
set_option maxHeartbeats 2000000
namespace K42
open PySem L2 Dn
def shU (cur : List Row) (past : List (List Row)) : U := .obj 23 [("now_kept", webU cur), ("past", .tup (past.map webU))]
theorem join_one {a s : Str} : Txt.join a [s] = s := by
  apply TL.ext_tl
  rw [TL.join_eq, TL.tl_join]
  rfl
theorem cut_lastU {α : Type} {f : α → U} {l : List α} {x : α} : cutU ((l ++ [x]).map f) none (some (-1)) = l.map f := by
  unfold cutU
  rw [HT.sIx_none, List.drop_zero, Nat.sub_zero]
  have : HT.sIx ((l ++ [x]).map f).length ((l ++ [x]).map f).length (some (-1)) = l.length := by
    show (if (-1 : Int) < 0 then ((-1 : Int) + (((l ++ [x]).map f).length : Int)).toNat else min (-1 : Int).toNat ((l ++ [x]).map f).length) = _
    rw [if_pos (by decide), List.length_map, List.length_append, List.length_singleton]
    omega
  rw [this, List.map_append, List.take_append_of_le_length (by simp), List.take_of_length_le (by simp)]
theorem cut_last {α : Type} {f : α → U} {l : List α} {x : α} : sliceV (.tup ((l ++ [x]).map f)) none (some (-1)) = some (.tup (l.map f)) := by
  show some (U.tup (cutU _ _ _)) = _
  rw [cut_lastU]
section
variable {cur new : List Row} {past : List (List Row)} {us : List U} {u : U} {p1 p2 : U}
theorem sh_isO : (shU cur past).isO = true := rfl
theorem sh_isC : (shU cur past).isC 23 = true := rfl
theorem sh_now : fldV 23 "now_kept" (shU cur past) = some (webU cur) := by
  show List.lookup ("now_kept" : Str) [("now_kept", webU cur), ("past", .tup (past.map webU))] = _
  simp only [List.lookup_cons, beq_self_eq_true]
theorem sh_past : fldV 23 "past" (shU cur past) = some (.tup (past.map webU)) := by
  have q : (("past" : Str) == ("now_kept" : Str)) = false := by decide +kernel
  show List.lookup ("past" : Str) [("now_kept", webU cur), ("past", .tup (past.map webU))] = _
  simp only [List.lookup_cons, beq_self_eq_true, q]
theorem now_s : fldIS 0 23 "now_kept" (shU cur past :: us) = some (webU cur, shU cur past :: us) := by
  unfold fldIS
  rw [List.getElem?_cons_zero, Option.bind_some, sh_now]
  rfl
theorem past_s : fldIS 0 23 "past" (shU cur past :: us) = some (.tup (past.map webU), shU cur past :: us) := by
  unfold fldIS
  rw [List.getElem?_cons_zero, Option.bind_some, sh_past]
  rfl
theorem put_now : Dn.putI 0 23 "now_kept" (webU new) (shU cur past :: us) = some (.non, shU new past :: us) := by
  show (if (23 : Nat) = 23 ∧ [(("now_kept" : Str), webU cur), ("past", .tup (past.map webU))].length < 1000 then some (U.non, U.obj 23 (putUF "now_kept" (webU new) [("now_kept", webU cur), ("past", .tup (past.map webU))]) :: us) else none) = _
  rw [if_pos ⟨rfl, by simp⟩]
  simp only [putUF, if_true]
  rfl
theorem put_past {ps : List (List Row)} : Dn.putI 0 23 "past" (.tup (ps.map webU)) (shU cur past :: us) = some (.non, shU cur ps :: us) := by
  have q : ¬ (("now_kept" : Str) = ("past" : Str)) := by decide +kernel
  show (if (23 : Nat) = 23 ∧ [(("now_kept" : Str), webU cur), ("past", .tup (past.map webU))].length < 1000 then some (U.non, U.obj 23 (putUF "past" (.tup (ps.map webU)) [("now_kept", webU cur), ("past", .tup (past.map webU))]) :: us) else none) = _
  rw [if_pos ⟨rfl, by simp⟩]
  simp only [putUF, if_neg q, if_true]
  rfl
theorem starS_s {F : SM U} {G : SM (List U)} {us1 us2 : List U} {x : U} {xs l : List U} (h : F us = some (x, us1)) (h2 : G us1 = some (l, us2)) (h3 : x.sitems = some xs) : starS F G us = some (xs ++ l, us2) := by
  unfold starS
  rw [bindS_s h, bindS_s h2, h3]
  rfl
theorem tupS_s {F : SM (List U)} {us1 : List U} {xs : List U} (h : F us = some (xs, us1)) (hl : xs.length ≤ lim) : tupS F us = some (.tup xs, us1) := by
  unfold tupS
  rw [bindS_s h, if_pos hl]
  rfl
theorem become_s (hp : past.length ≤ 1000) : m_Shelf_become (webU new) [shU cur past] = some (.non, [shU new (past ++ [cur])]) := by
  have hlim : lim = 100000 := rfl
  have e : tupS (starS (fldIS 0 23 "past") (consS (fldIS 0 23 "now_kept") (pureS (some [])))) [shU cur past] = some (.tup ((past ++ [cur]).map webU), [shU cur past]) := by
    have : (past ++ [cur]).map webU = past.map webU ++ [webU cur] := by simp
    rw [this]
    exact tupS_s (starS_s past_s (consS_s now_s rfl) rfl) (by simp; omega)
  unfold m_Shelf_become
  rw [bindS_s e, bindS_s put_past, bindS_pure, bindS_s put_now]
  rfl
theorem become_at (hp : past.length ≤ 1000) : callI 0 23 (bI1 m_Shelf_become) [webU new] [shU cur past] = some (.non, [shU new (past ++ [cur])]) := by
  show (finI (m_Shelf_become (webU new) [shU cur past])).map _ = _
  rw [become_s hp]
  rfl
theorem finI_s {x y : U} {r : List U} (h : y.isO = true) : finI (some (x, y :: r)) = some (x, y) := by
  show (if y.isO = true then some (x, y) else none) = _
  rw [if_pos h]
theorem callI_s {j C : Nat} {m : U → List U → Option (U × U)} {xs : List U} {r u' : U} (h : us[j]? = some u) (hu : u.isC C = true) (hm : m u xs = some (r, u')) : callI j C m xs us = some (r, us.set j u') := by
  simp [callI, h, hu, hm]
/-- a method whose argument may be an error -/
theorem becX_err {nm : Str} {C : Nat} {fs : List (Str × U)} {F : SM U} (h : F [shU cur past] = some (.rsd C fs, [shU cur past])) : bindXS (methIX 0 23 "become" (bI1 m_Shelf_become) F) outXS (fun _ => pureS (some U.non)) [shU cur past] = some (.rsd C fs, [shU cur past]) := by
  have e : methIX 0 23 "become" (bI1 m_Shelf_become) F [shU cur past] = some (.rsd C fs, [shU cur past]) := by
    show bindXS F (fun C fs => pureS (some (.rsd C fs))) (fun x => callI 0 23 (bI1 m_Shelf_become) [x]) [shU cur past] = _
    unfold bindXS
    rw [bindS_s h]
    rfl
  unfold bindXS
  rw [bindS_s e]
  rfl
theorem becX_ok {F : SM U} (hp : past.length ≤ 1000) (h : F [shU cur past] = some (webU new, [shU cur past])) : bindXS (methIX 0 23 "become" (bI1 m_Shelf_become) F) outXS (fun _ => pureS (some U.non)) [shU cur past] = some (.non, [shU new (past ++ [cur])]) := by
  have e : methIX 0 23 "become" (bI1 m_Shelf_become) F [shU cur past] = some (.non, [shU new (past ++ [cur])]) := by
    show bindXS F (fun C fs => pureS (some (.rsd C fs))) (fun x => callI 0 23 (bI1 m_Shelf_become) [x]) [shU cur past] = _
    unfold bindXS
    rw [bindS_s h]
    exact become_at hp
  unfold bindXS
  rw [bindS_s e]
  rfl
theorem with_s {r : U} (e : x_Web_with_copy (webU cur) p1 p2 = some r) : methXS 0 "with_copy" (a3 x_Web_with_copy) (fldIS 0 23 "now_kept") (pureS (consO (some p1) (consO (some p2) (some [])))) [shU cur past] = some (r, [shU cur past]) := by
  unfold methXS
  rw [bindS_s now_s, if_pos (show (webU cur).isM 0 "with_copy" = true from rfl)]
  show (x_Web_with_copy (webU cur) p1 p2).map _ = _
  rw [e]
  rfl
theorem without_s {r : U} (e : x_Web_without (webU cur) p1 = some r) : methXS 0 "without" (a2 x_Web_without) (fldIS 0 23 "now_kept") (pureS (consO (some p1) (some []))) [shU cur past] = some (r, [shU cur past]) := by
  unfold methXS
  rw [bindS_s now_s, if_pos (show (webU cur).isM 0 "without" = true from rfl)]
  show (x_Web_without (webU cur) p1).map _ = _
  rw [e]
  rfl
theorem put_err {C : Nat} {fs : List (Str × U)} (e : x_Web_with_copy (webU cur) p1 p2 = some (.rsd C fs)) : bI2 x_Shelf_put (shU cur past) [p1, p2] = some (.rsd C fs, shU cur past) := by
  show finI (x_Shelf_put p1 p2 [shU cur past]) = _
  unfold x_Shelf_put
  rw [becX_err (nm := Str.empty) (with_s e)]
  exact finI_s sh_isO
theorem put_new (hp : past.length ≤ 1000) (e : x_Web_with_copy (webU cur) p1 p2 = some (webU new)) : bI2 x_Shelf_put (shU cur past) [p1, p2] = some (.non, shU new (past ++ [cur])) := by
  show finI (x_Shelf_put p1 p2 [shU cur past]) = _
  unfold x_Shelf_put
  rw [becX_ok hp (with_s e)]
  exact finI_s sh_isO
theorem take_err {C : Nat} {fs : List (Str × U)} (e : x_Web_without (webU cur) p1 = some (.rsd C fs)) : bI1 x_Shelf_take (shU cur past) [p1] = some (.rsd C fs, shU cur past) := by
  show finI (x_Shelf_take p1 [shU cur past]) = _
  unfold x_Shelf_take
  rw [becX_err (nm := Str.empty) (without_s e)]
  exact finI_s sh_isO
theorem take_new (hp : past.length ≤ 1000) (e : x_Web_without (webU cur) p1 = some (webU new)) : bI1 x_Shelf_take (shU cur past) [p1] = some (.non, shU new (past ++ [cur])) := by
  show finI (x_Shelf_take p1 [shU cur past]) = _
  unfold x_Shelf_take
  rw [becX_ok hp (without_s e)]
  exact finI_s sh_isO
theorem isnil_s : testS (opS eqV2 (fldIS 0 23 "past") (pureS (tupO (some [])))) [shU cur past] = some (past.isEmpty, [shU cur past]) := by
  refine testS_s' (opS_s past_s rfl ?_)
  cases past with
  | nil => rfl
  | cons a l => rfl
theorem undo_tail {old : List Row} (hp : past.length ≤ 1000) : (bindS (opS getV (fldIS 0 23 "past") (pureS (op1 negV (some (U.int 1))))) fun y19 => bindS (Dn.putI 0 23 "now_kept" y19) fun _ => (bindS (slS (fldIS 0 23 "past") (pureS (some none)) (pureS (ptO (op1 negV (some (U.int 1)))))) fun y26 => bindS (Dn.putI 0 23 "past" y26) fun _ => (pureS (some U.non)))) [shU cur (past ++ [old])] = some (.non, [shU old past]) := by
  have e1 : opS getV (fldIS 0 23 "past") (pureS (op1 negV (some (U.int 1)))) [shU cur (past ++ [old])] = some (webU old, [shU cur (past ++ [old])]) := by
    refine opS_s past_s rfl ?_
    rw [List.map_append]
    exact atI_neg1
  have e2 : slS (fldIS 0 23 "past") (pureS (some none)) (pureS (ptO (op1 negV (some (U.int 1))))) [shU old (past ++ [old])] = some (.tup (past.map webU), [shU old (past ++ [old])]) := by
    unfold slS
    rw [bindS_s past_s, bindS_s (show pureS (some none) [shU old (past ++ [old])] = some (none, [shU old (past ++ [old])]) from rfl), bindS_s (show pureS (ptO (op1 negV (some (U.int 1)))) [shU old (past ++ [old])] = some (some (-1), [shU old (past ++ [old])]) from rfl)]
    show (sliceV (.tup ((past ++ [old]).map webU)) none (some (-1))).map _ = _
    rw [cut_last]
    rfl
  rw [bindS_s e1, bindS_s put_now, bindS_s e2, bindS_s put_past]
  rfl
theorem undo_m {old : List Row} (hp : past.length ≤ 1000) : bI0 m_Shelf_undo (shU cur (past ++ [old])) [] = some (.non, shU old past) := by
  show finI (m_Shelf_undo [shU cur (past ++ [old])]) = _
  unfold m_Shelf_undo
  rw [ifS_s isnil_s, if_neg (by simp), undo_tail hp]
  exact finI_s sh_isO
theorem init_s {w : Str} (hw : Word w) : mkI 23 (bI1 m_Shelf___init__) [.str w] = some (shU [(w, [])] []) := by
  have e0 : textT [(w, [])] = w := by
    show Txt.join "; " [Txt.join " " [w]] = w
    rw [join_one, join_one]
  have e1 : callO (mkF 0 m_Web_init) (consO (some (U.str w)) (some [])) = some (webU [(w, [])]) := by
    have := make_ok (rs := [(w, [])]) (.one hw) (by simp)
    rwa [e0] at this
  have e2 : m_Shelf___init__ (.str w) [.obj 23 []] = some (.non, [shU [(w, [])] []]) := by
    unfold m_Shelf___init__
    rw [show callO (a1 m_is_name) (consO (some (U.str w)) (some [])) = some (.bl true) from is_name_ok hw, testO_s, notO_s, ifS_p, if_neg (by decide), e1, bindS_pure]
    rw [bindS_s (show Dn.putI 0 23 "now_kept" (webU [(w, [])]) [U.obj 23 []] = some (.non, [U.obj 23 [("now_kept", webU [(w, [])])]]) from rfl)]
    have q : ¬ (("now_kept" : Str) = ("past" : Str)) := by decide +kernel
    rw [show tupO (some ([] : List U)) = some (.tup []) from rfl, bindS_pure]
    rw [bindS_s (show Dn.putI 0 23 "past" (.tup []) [U.obj 23 [("now_kept", webU [(w, [])])]] = some (.non, [shU [(w, [])] []]) by
      show (if (23 : Nat) = 23 ∧ [(("now_kept" : Str), webU [(w, [])])].length < 1000 then some (U.non, [U.obj 23 (putUF "past" (.tup []) [("now_kept", webU [(w, [])])])]) else none) = _
      rw [if_pos ⟨rfl, by simp⟩]
      simp only [putUF, if_neg q]
      rfl)]
    rfl
  show ((finI (m_Shelf___init__ (.str w) [.obj 23 []])).bind fun r => mkE r.1 r.2) = _
  rw [e2, finI_s sh_isO]
  rfl
end
end K42
set_option Elab.async false
set_option linter.all false
set_option maxRecDepth 100000
set_option maxHeartbeats 2000000
namespace K42
open PySem L2 Dn
theorem are_sourcesT {ss ns : List Str} (h1 : ss ≠ []) (h2 : ss.length ≤ 2) (nd : ss.Nodup) (hs : ∀ s ∈ ss, s ∈ ns) : m_are_sources (.tup (txs ss)) (.tup (txs ns)) = some (.bl true) := by
  unfold m_are_sources
  have hlim : lim = 100000 := rfl
  have hpos := List.length_pos_iff.mpr h1
  have e1 : chainO leV leV (some (U.int 1)) (some (U.int ss.length)) (some (U.int 2)) = some (.bl true) := by
    rw [chainO_s (leV_i (i := 1) (j := ss.length))]
    have : decide ((1 : Int) ≤ ss.length) = true := by simp; omega
    rw [this, if_pos rfl, leV_i]
    simp; omega
  have e2 : compO (fun u4 => (some true)) (fun u4 => (andV (isO isStrB (some u4)) (op2 inV2 (some u4) (some (U.tup (txs ns)))))) (iterO U.iter (some (U.tup (txs ss)))) = some (.lst (ss.map fun _ => U.bl true)) := by
    refine lcO_map (g := U.str) (h := fun _ => U.bl true) ss (by omega) fun s hs' => ?_
    have : isO isStrB (some (U.str s)) = some (.bl true) := rfl
    rw [this, andV_t, op2_s, in_tup, decide_eq_true (hs s hs')]
  have e3 : op1 lenSetV (some (U.tup (txs ss))) = some (.int ss.length) := by
    show (strsU (txs ss)).bind (fun ts => if ts.length < 4000 then some (U.int (dnT ts ts.length : Nat)) else none) = _
    rw [strsU_txs, Option.bind_some, if_pos (by omega), dnT_nodup nd _ (Nat.le_refl _)]
  rw [len_tup, txs_length, e1, e2, e3, consO_s, callO_s, all_map (p := fun _ => true), op2_s, eqV2_ii, List.all_eq_true.mpr (fun _ _ => rfl)]
  simp
theorem web_text_ok {rs : List Row} (h : Web rs) (hl : rs.length ≤ 40) : m_web_text (.lst (rowsU rs)) = some (.str (textT rs)) := by
  unfold m_web_text
  have hlim : lim = 100000 := rfl
  have e : compO2 (fun u4 u7 => (some true)) (fun u4 u7 => (op2 joinV (some (U.str " ")) (lstO (consO (some u4) (starO (some u7) (some [])))))) (iterO U.iter (some (U.lst (rowsU rs)))) = some (.lst ((rs.map partT).map U.str)) := by
    have := lcO_mf (p := fun u => (unp2 u).bind fun _ => some true) (f := fun u => (unp2 u).bind fun ab => op2 joinV (some (U.str " ")) (lstO (consO (some ab.1) (starO (some ab.2) (some []))))) (g := rowU) (q := fun _ => true) (h := fun r => U.str (partT r)) rs (by omega) (fun _ _ => rfl) (fun r hr _ => by
      have h2 := h.row_two r hr
      show op2 joinV (some (U.str " ")) (lstO (some (.str r.1 :: (txs r.2 ++ [])))) = _
      rw [List.append_nil, lstO_s (by rw [List.length_cons, txs_length]; omega), op2_s]
      exact join_lst (Nat.le_trans (part_sum h hr) (by decide)))
    rw [List.filter_eq_self.mpr (fun _ _ => rfl)] at this
    rw [List.map_map]
    exact this
  rw [e, op2_s]
  exact join_lst (Nat.le_trans (text_sum h hl) (by decide))
theorem copsT_len {rs : List Row} {s : Str} : (copsT rs s).length = cnt rs s := by
  unfold copsT cnt
  rw [List.length_map, ← linesT_fst, List.count_eq_countP, List.countP_map, List.countP_eq_length_filter]
  congr 1
abbrev TV : U → Option U := toldV okX (a1 m_law_sort) (a2 m_law_attribute) "returned"
theorem sort_3 {v : U} : m_law_sort (.exc 3 [("given", v)]) = some (.str "InvalidName") := by kernel_rfl
theorem sort_7 {v : U} : m_law_sort (.exc 7 [("given", v)]) = some (.str "UnknownName") := by kernel_rfl
theorem sort_10 {v : U} : m_law_sort (.exc 10 [("given", v)]) = some (.str "InvalidSources") := by kernel_rfl
theorem sort_17 {v : U} : m_law_sort (.exc 17 [("given", v)]) = some (.str "FullSource") := by kernel_rfl
section
variable {cur : List Row} (h : Web cur) (hl : cur.length ≤ 39)
include h hl
theorem xw_head {w : Str} {ss : List Str} (hw : Word w) (hn : w ∉ names cur) : x_Web_with_copy (webU cur) (.str w) (.tup (txs ss)) = (ifO (orO (some false) (notO (testO (m_are_sources (.tup (txs ss)) (.tup (txs (names cur))))))) (callO (rs1 10 "given") (consO (some (.tup (txs ss))) (some []))) (x_Web_with_copy_l1 (webU cur) (.str w) (.tup (txs ss)) (callO (mkF 0 m_Web_init) (consO (callO (a1 m_web_text) (consO (lstO (starO (op1 (fldV 0 "rows") (some (webU cur))) (consO (tupO (consO (some (.str w)) (consO (some (.tup (txs ss))) (some [])))) (some [])))) (some []))) (some []))) (txs ss))) := by
  have : (((cur.length : Nat) : Int) == 40) = false := by
    rw [beq_eq_false_iff_ne]
    omega
  have e4 : op2 eqV2 (callO lenV (consO (op1 (fldV 0 "heads") (some (webU cur))) (some []))) (some (U.int 40)) = some (.bl false) := by
    rw [f_heads, len_tup, txs_length, names_len, op2_s, eqV2_ii, this]
  unfold x_Web_with_copy
  rw [e4, show callO (a1 m_is_name) (consO (some (U.str w)) (some [])) = some (.bl true) from is_name_ok hw, testO_s, notO_s, f_heads, op2_s, in_tup, decide_eq_false hn, testO_s, orO_s]
  rfl
theorem xl1 {p1 p2 : U} {k : Option U} : ∀ ss : List Str, (∀ s ∈ ss, s ∈ names cur) → x_Web_with_copy_l1 (webU cur) p1 p2 k (txs ss) = match ss.filter (fun s => decide (cnt cur s = 2)) with
    | [] => k
    | s :: _ => some (.rsd 17 [("given", .str s)])
  | [], _ => rfl
  | s :: ss, hs => by
    have h1 := hs s (List.mem_cons_self ..)
    have ih := xl1 (p1 := p1) (p2 := p2) (k := k) ss fun x hx => hs x (List.mem_cons_of_mem _ hx)
    show ifO (testO (op2 eqV2 (callO lenV (consO (methO 0 "copies" (a2 m_Web_copies) (some (webU cur)) (consO (some (U.str s)) (some []))) (some []))) (some (U.int 2)))) (callO (rs1 17 "given") (consO (some (.str s)) (some []))) (x_Web_with_copy_l1 (webU cur) p1 p2 k (txs ss)) = _
    rw [show methO 0 "copies" (a2 m_Web_copies) (some (webU cur)) (consO (some (U.str s)) (some [])) = some (.tup (txs (copsT cur s))) from copies_of h (by omega) h1, len_tup, txs_length, copsT_len, op2_s, eqV2_ii, testO_s]
    by_cases q : cnt cur s = 2
    · rw [q, List.filter_cons_of_pos (by simp [q])]
      rfl
    · have : (((cnt cur s : Nat) : Int) == 2) = false := by
        rw [beq_eq_false_iff_ne]
        omega
      rw [this, ifO_f, ih, List.filter_cons_of_neg (by simp [q])]
theorem xw_full {w s : Str} {ss r : List Str} (hw : Word w) (hn : w ∉ names cur) (h1 : ss ≠ []) (h2 : ss.length ≤ 2) (nd : ss.Nodup) (hs : ∀ s ∈ ss, s ∈ names cur) (hf : ss.filter (fun s => decide (cnt cur s = 2)) = s :: r) :
    x_Web_with_copy (webU cur) (.str w) (.tup (txs ss)) = some (.rsd 17 [("given", .str s)]) := by
  rw [xw_head h hl hw hn, are_sourcesT h1 h2 nd hs, xl1 h hl ss hs, hf]
  rfl
theorem xw_ok {w : Str} {ss : List Str} (hw : Word w) (hn : w ∉ names cur) (h1 : ss ≠ []) (h2 : ss.length ≤ 2) (nd : ss.Nodup) (hs : ∀ s ∈ ss, s ∈ names cur) (hf : ss.filter (fun s => decide (cnt cur s = 2)) = []) :
    Web (cur ++ [(w, ss)]) ∧ x_Web_with_copy (webU cur) (.str w) (.tup (txs ss)) = some (webU (cur ++ [(w, ss)])) := by
  have hlim : lim = 100000 := rfl
  have hc : ∀ s ∈ ss, s ∈ names cur ∧ cnt cur s < 2 := fun s hs' => by
    refine ⟨hs s hs', ?_⟩
    have := h.two s
    have q : cnt cur s ≠ 2 := fun z => by
      have : s ∈ ss.filter (fun s => decide (cnt cur s = 2)) := List.mem_filter.mpr ⟨hs', by simp [z]⟩
      rw [hf] at this
      cases this
    omega
  have hw2 : Web (cur ++ [(w, ss)]) := .snoc h hw hn h1 h2 nd hc
  refine ⟨hw2, ?_⟩
  have hl2 : (cur ++ [(w, ss)]).length ≤ 40 := by rw [List.length_append, List.length_singleton]; omega
  rw [xw_head h hl hw hn, are_sourcesT h1 h2 nd hs, xl1 h hl ss hs, hf]
  show callO (mkF 0 m_Web_init) (consO (callO (a1 m_web_text) (consO (lstO (starO (op1 (fldV 0 "rows") (some (webU cur))) (consO (tupO (consO (some (.str w)) (consO (some (.tup (txs ss))) (some [])))) (some [])))) (some []))) (some [])) = _
  rw [f_rows, consO_s, consO_s, tupO_s (by simp; omega)]
  rw [show starO (some (U.tup (rowsU cur))) (consO (some (U.tup [U.str w, U.tup (txs ss)])) (some [])) = some (rowsU (cur ++ [(w, ss)])) by
    show some (rowsU cur ++ [rowU (w, ss)]) = _
    simp [rowsU]]
  rw [lstO_s (by rw [rowsU_len]; omega), show callO (a1 m_web_text) (consO (some (U.lst (rowsU (cur ++ [(w, ss)])))) (some [])) = some (.str (textT (cur ++ [(w, ss)]))) from web_text_ok hw2 hl2]
  exact make_ok hw2 hl2
end
end K42
set_option Elab.async false
set_option linter.all false
set_option maxRecDepth 100000
set_option maxHeartbeats 2000000
namespace K42
open PySem L2 Dn
theorem tup_idx {w : Str} {ss : List Str} : op2 getV (some (U.tup (txs (w :: ss)))) (some (U.int 0)) = some (.str w) := by
  show atI (.str w :: txs ss) ((0 : Nat) : Int) = _
  exact atI_nat' rfl
theorem count_drop {c s : Str} : ∀ rs : List Row, cnt (rs.filter fun r => decide (r.1 ≠ c)) s ≤ cnt rs s
  | [] => Nat.le_refl _
  | r :: rs => by
    have ih := count_drop (c := c) (s := s) rs
    have e : ∀ l : List Row, cnt (r :: l) s = r.2.count s + cnt l s := fun l => by simp [cnt, srcs, List.count_append]
    by_cases q : r.1 ≠ c
    · rw [List.filter_cons_of_pos (by simpa using q), e, e]
      omega
    · rw [List.filter_cons_of_neg (by simpa using q), e]
      omega
theorem drop_names {c n : Str} {rs : List Row} : n ∈ names (rs.filter fun r => decide (r.1 ≠ c)) ↔ n ∈ names rs ∧ n ≠ c := by
  simp only [names, List.mem_map, List.mem_filter, decide_eq_true_eq]
  constructor
  · rintro ⟨r, ⟨h1, h2⟩, rfl⟩
    exact ⟨⟨r, h1, rfl⟩, h2⟩
  · rintro ⟨⟨r, h1, rfl⟩, h2⟩
    exact ⟨r, ⟨h1, h2⟩, rfl⟩
theorem Web.drop {cur : List Row} (h : Web cur) {c : Str} : c ∉ srcs cur → (∀ r0 l, cur = r0 :: l → r0.1 ≠ c) → Web (cur.filter fun r => decide (r.1 ≠ c)) := by
  induction h with
  | @one w hw =>
    intro _ hh
    rw [List.filter_cons_of_pos (by simpa using hh _ _ rfl)]
    exact .one hw
  | @snoc pre w ss hp hw hn h1 h2 nd hs ih =>
    intro hc hh
    have hc1 : c ∉ srcs pre ∧ c ∉ ss := by
      simp only [srcs, List.flatMap_append, List.mem_append, List.flatMap_cons, List.flatMap_nil, List.append_nil, not_or] at hc
      exact hc
    have hp2 := ih hc1.1 fun r0 l e => by
      subst e
      exact hh r0 (l ++ [(w, ss)]) rfl
    rw [List.filter_append]
    by_cases q : w ≠ c
    · rw [List.filter_cons_of_pos (by simpa using q), List.filter_nil]
      refine .snoc hp2 hw (fun z => hn (drop_names.mp z).1) h1 h2 nd fun s hs' => ⟨drop_names.mpr ⟨(hs s hs').1, fun z => hc1.2 (z ▸ hs')⟩, Nat.lt_of_le_of_lt (count_drop pre) (hs s hs').2⟩
    · rw [List.filter_cons_of_neg (by simpa using q), List.filter_nil, List.append_nil]
      exact hp2
section
variable {cur : List Row} (h : Web cur) (hl : cur.length ≤ 40)
include h hl
theorem ends_mem {c : Str} (hc : c ∈ names cur) : c ∈ endsT cur ↔ c ∉ srcs cur := by
  simp [endsT, List.mem_filter, hc]
theorem first_n : ∃ f l, names cur = f :: l ∧ ∀ r0 r, cur = r0 :: r → r0.1 = f := by
  cases cur with
  | nil => exact absurd rfl h.ne
  | cons r0 r => exact ⟨r0.1, names r, rfl, fun a b e => by cases e; rfl⟩
theorem wox_check {c : Str} (hc : c ∈ names cur) : callO (a2 x_check_copy) (consO (some (webU cur)) (consO (some (U.str c)) (some []))) = some .non := by
  show x_check_copy (webU cur) (.str c) = _
  unfold x_check_copy
  rw [f_heads, op2_s, notIn_tup, decide_eq_true hc]
  rfl
theorem drop_c {c : Str} {x : Option U} (hx : iterO U.iter x = some (rowsU cur)) : compO (fun u21 => (testO (op2 neV2 (op2 getV (some u21) (some (U.int 0))) (some (.str c))))) (fun u21 => (some u21)) (iterO U.iter x) = some (.lst (rowsU (cur.filter fun r => decide (r.1 ≠ c)))) := by
  have hlim : lim = 100000 := rfl
  rw [hx]
  exact lcO_mf (p := fun u21 => (testO (op2 neV2 (op2 getV (some u21) (some (U.int 0))) (some (.str c))))) (f := fun u21 => (some u21)) (g := rowU) (q := fun r => decide (r.1 ≠ c)) (h := rowU) cur (by omega) (fun r _ => by
    show testO (op2 neV2 (some (.str r.1)) (some (.str c))) = _
    show some (!(r.1 == c)) = _
    congr 1
    rw [Bool.eq_iff_iff]
    simp) (fun _ _ _ => rfl)
theorem wo_bad {c : Str} (hc : c ∈ names cur) (hb : c ∈ srcs cur ∨ ∀ f l, names cur = f :: l → c = f) : x_Web_without (webU cur) (.str c) = some (.rsd 3 [("given", .str c)]) := by
  obtain ⟨f, l, e1, e2⟩ := first_n h hl
  unfold x_Web_without
  rw [wox_check h hl hc]
  show ifO (orO (testO (op2 notInV2 (some (.str c)) (op1 (propV 0 (a1 m_Web_ends)) (some (webU cur))))) (testO (op2 eqV2 (some (.str c)) (op2 getV (op1 (fldV 0 "heads") (some (webU cur))) (some (U.int 0)))))) (callO (rs1 3 "given") (consO (some (.str c)) (some []))) _ = _
  rw [p_ends h (by omega), op2_s, notIn_tup, f_heads, e1, testO_s]
  have e3 : testO (op2 eqV2 (some (U.str c)) (op2 getV (some (U.tup (txs (f :: l)))) (some (U.int 0)))) = some (c == f) := by rw [tup_idx]; rfl
  rw [e3, orO_s]
  have : (!decide (c ∈ endsT cur) || c == f) = true := by
    rcases hb with hb | hb
    · rw [decide_eq_false (fun z => (ends_mem h hl hc).mp z hb)]; rfl
    · rw [hb f l e1]; simp
  rw [this]
  rfl
theorem wox_ok {c : Str} (hc : c ∈ names cur) (hs : c ∉ srcs cur) (hf : ∀ f l, names cur = f :: l → c ≠ f) : Web (cur.filter fun r => decide (r.1 ≠ c)) ∧ x_Web_without (webU cur) (.str c) = some (webU (cur.filter fun r => decide (r.1 ≠ c))) := by
  obtain ⟨f, l, e1, e2⟩ := first_n h hl
  have hw := h.drop hs fun r0 r e => by
    rw [e2 r0 r e]
    exact (hf f l e1).symm
  refine ⟨hw, ?_⟩
  have hl2 : (cur.filter fun r => decide (r.1 ≠ c)).length ≤ 40 := Nat.le_trans (List.length_filter_le ..) (by omega)
  unfold x_Web_without
  rw [wox_check h hl hc]
  show ifO (orO (testO (op2 notInV2 (some (.str c)) (op1 (propV 0 (a1 m_Web_ends)) (some (webU cur))))) (testO (op2 eqV2 (some (.str c)) (op2 getV (op1 (fldV 0 "heads") (some (webU cur))) (some (U.int 0)))))) (callO (rs1 3 "given") (consO (some (.str c)) (some []))) (callO (mkF 0 m_Web_init) (consO (callO (a1 m_web_text) (consO (compO (fun u21 => (testO (op2 neV2 (op2 getV (some u21) (some (U.int 0))) (some (.str c))))) (fun u21 => (some u21)) (iterO U.iter (op1 (fldV 0 "rows") (some (webU cur))))) (some []))) (some []))) = _
  rw [p_ends h (by omega), op2_s, notIn_tup, f_heads, e1, testO_s]
  have e3 : testO (op2 eqV2 (some (U.str c)) (op2 getV (some (U.tup (txs (f :: l)))) (some (U.int 0)))) = some (c == f) := by rw [tup_idx]; rfl
  rw [e3, orO_s]
  have : (!decide (c ∈ endsT cur) || c == f) = false := by
    rw [decide_eq_true ((ends_mem h hl hc).mpr hs)]
    have := hf f l e1
    simpa using this
  rw [this, ifO_f, drop_c h hl (by rw [f_rows]; rfl)]
  rw [show callO (a1 m_web_text) (consO (some (U.lst (rowsU (cur.filter fun r => decide (r.1 ≠ c))))) (some [])) = some (.str (textT (cur.filter fun r => decide (r.1 ≠ c)))) from web_text_ok hw hl2]
  exact make_ok hw hl2
end
theorem Sh.int {n : Nat} (h : n ≤ 40) : Sh (.int n) (.int n) 0 200 := by
  have : ∀ n ∈ List.range 41, (decide ((PyData.int (n : Nat)).weight ≤ 200) && (PyData.int (n : Nat)).leavesShort 8 && decide (n.log2 < 1920)) = true := by decide +kernel
  have h2 := this n (List.mem_range.mpr (by omega))
  rw [Bool.and_eq_true, Bool.and_eq_true, decide_eq_true_eq, decide_eq_true_eq] at h2
  exact ⟨by simp [U.py], by simp [PyData.showable]; exact h2.2, by simp [PyData.hasDict], by simp [PyData.depth], h2.1.2, h2.1.1⟩
theorem str_w {rs : List Row} : callO (c1 (ownTxV 0 (a1 m_Web___str__))) (consO (some (webU rs)) (some [])) = some (.str (textT rs)) := by
  show (m_Web___str__ (webU rs)).bind (fun r => r.asS.map U.str) = _
  unfold m_Web___str__
  rw [f_written]
  rfl
end K42
set_option Elab.async false
set_option linter.all false
set_option maxRecDepth 100000
set_option maxHeartbeats 2000000
namespace K42
open PySem L2 Dn
def wordB (w : Str) : Bool := decide (0 < (tl w).length) && decide ((tl w).length ≤ 8) && (tl w).all fun c => decide (97 ≤ c) && decide (c ≤ 122)
theorem wordB_ok {w : Str} (h : wordB w = true) : Word w := by
  simp only [wordB, Bool.and_eq_true, decide_eq_true_eq, List.all_eq_true] at h
  exact ⟨h.1.1, h.1.2, fun c hc => h.2 c hc⟩
section
variable {cur : List Row}
def shotS (cur : List Row) (n : Nat) : Str := (PyData.list [.str (textT cur), .int n]).shown
theorem shot_m {past : List (List Row)} (h : Web cur) (hl : cur.length ≤ 40) (hp : past.length ≤ 40) : bI0 m_law_shot (shU cur past) [] = some (.str (shotS cur past.length), shU cur past) := by
  have hlim : lim = 100000 := rfl
  have w1 : callI 0 23 (bI0 m_Shelf_web) [] [shU cur past] = some (webU cur, [shU cur past]) := by
    refine callI_s rfl sh_isC ?_
    show finI (m_Shelf_web [shU cur past]) = _
    unfold m_Shelf_web
    rw [now_s]
    exact finI_s sh_isO
  have w2 : callI 0 23 (bI0 m_Shelf_changes) [] [shU cur past] = some (.int past.length, [shU cur past]) := by
    refine callI_s rfl sh_isC ?_
    show finI (m_Shelf_changes [shU cur past]) = _
    unfold m_Shelf_changes
    rw [callS_s (consS_s past_s rfl)]
    show finI (some (U.int ((past.map webU).length : Nat), [shU cur past])) = _
    rw [List.length_map]
    exact finI_s sh_isO
  have w4 : callS (c1 (ownTxV 0 (a1 m_Web___str__))) (consS (callI 0 23 (bI0 m_Shelf_web) []) (pureS (some []))) [shU cur past] = some (.str (textT cur), [shU cur past]) := by
    rw [callS_s (consS_s w1 rfl)]
    have := str_w (rs := cur)
    rw [consO_s, callO_s] at this
    rw [this]
    rfl
  have e1 : lstS (consS (callS (c1 (ownTxV 0 (a1 m_Web___str__))) (consS (callI 0 23 (bI0 m_Shelf_web) []) (pureS (some [])))) (consS (callI 0 23 (bI0 m_Shelf_changes) []) (pureS (some [])))) [shU cur past] = some (.lst [.str (textT cur), .int past.length], [shU cur past]) := by
    unfold lstS
    rw [bindS_s (consS_s w4 (consS_s w2 rfl))]
    rfl
  have sT : Sh (.str (textT cur)) (.str (textT cur)) 2 1160 := (Sh.str (text_small h) (text_len h (by omega))).mono (by omega) (Nat.le_refl _)
  have sI : Sh (.int past.length) (.int past.length) 2 200 := (Sh.int hp).mono (by omega) (Nat.le_refl _)
  have r1 := (Sh.lst (Shs.cons sT (Shs.cons sI Shs.nil))).repr (by omega) (by omega)
  show finI (m_law_shot [shU cur past]) = _
  unfold m_law_shot
  rw [callS_s (consS_s e1 rfl)]
  rw [consO_s, callO_s] at r1
  rw [r1]
  exact finI_s sh_isO
end
def XS : List U := [.non, .int 0, .str "", .str "A", .str "a1", .str "abcdefghi", .tup [.str "a"], .lst [], .dic [], .bl true, .str "a b", .str "a; b a"]
def YS : List U := [.non, .int 0, .str "", .str "A", .str "a", .str "e", .str "abcdefghi", .tup [.str "a"], .lst [], .dic [], .bl true, .str "new "]
def ZS : List U := [.non, .str "a", .tup [], .tup [.str "q"], .tup [.str "d", .str "d"], .lst [.str "d"], .tup [.str "d", .str "q"], .tup [.str "d", .str "e", .str "b"], .tup [.non], .dic [], .int 0]
def WS : List U := [.non, .int 0, .str "", .str "q", .tup [.str "e"], .lst [.str "e"], .dic [], .bl true, .str "E", .str "e "]
def VS : List U := [.str "a", .str "b", .str "c"]
def rD (v : U) : Str := match callO (c1 reprD) (consO (some v) (some [])) with
  | some (.str s) => s
  | _ => Str.empty
theorem rD_XS : ∀ v ∈ XS, callO (c1 reprD) (consO (some v) (some [])) = some (.str (rD v)) := List.forall_mem_cons.mpr ⟨by kernel_rfl, List.forall_mem_cons.mpr ⟨by kernel_rfl, List.forall_mem_cons.mpr ⟨by kernel_rfl, List.forall_mem_cons.mpr ⟨by kernel_rfl, List.forall_mem_cons.mpr ⟨by kernel_rfl, List.forall_mem_cons.mpr ⟨by kernel_rfl, List.forall_mem_cons.mpr ⟨by kernel_rfl, List.forall_mem_cons.mpr ⟨by kernel_rfl, List.forall_mem_cons.mpr ⟨by kernel_rfl, List.forall_mem_cons.mpr ⟨by kernel_rfl, List.forall_mem_cons.mpr ⟨by kernel_rfl, List.forall_mem_cons.mpr ⟨by kernel_rfl, fun _ h => nomatch h⟩⟩⟩⟩⟩⟩⟩⟩⟩⟩⟩⟩
theorem rD_YS : ∀ v ∈ YS, callO (c1 reprD) (consO (some v) (some [])) = some (.str (rD v)) := List.forall_mem_cons.mpr ⟨by kernel_rfl, List.forall_mem_cons.mpr ⟨by kernel_rfl, List.forall_mem_cons.mpr ⟨by kernel_rfl, List.forall_mem_cons.mpr ⟨by kernel_rfl, List.forall_mem_cons.mpr ⟨by kernel_rfl, List.forall_mem_cons.mpr ⟨by kernel_rfl, List.forall_mem_cons.mpr ⟨by kernel_rfl, List.forall_mem_cons.mpr ⟨by kernel_rfl, List.forall_mem_cons.mpr ⟨by kernel_rfl, List.forall_mem_cons.mpr ⟨by kernel_rfl, List.forall_mem_cons.mpr ⟨by kernel_rfl, List.forall_mem_cons.mpr ⟨by kernel_rfl, fun _ h => nomatch h⟩⟩⟩⟩⟩⟩⟩⟩⟩⟩⟩⟩
theorem rD_ZS : ∀ v ∈ ZS, callO (c1 reprD) (consO (some v) (some [])) = some (.str (rD v)) := List.forall_mem_cons.mpr ⟨by kernel_rfl, List.forall_mem_cons.mpr ⟨by kernel_rfl, List.forall_mem_cons.mpr ⟨by kernel_rfl, List.forall_mem_cons.mpr ⟨by kernel_rfl, List.forall_mem_cons.mpr ⟨by kernel_rfl, List.forall_mem_cons.mpr ⟨by kernel_rfl, List.forall_mem_cons.mpr ⟨by kernel_rfl, List.forall_mem_cons.mpr ⟨by kernel_rfl, List.forall_mem_cons.mpr ⟨by kernel_rfl, List.forall_mem_cons.mpr ⟨by kernel_rfl, List.forall_mem_cons.mpr ⟨by kernel_rfl, fun _ h => nomatch h⟩⟩⟩⟩⟩⟩⟩⟩⟩⟩⟩
theorem rD_WS : ∀ v ∈ WS, callO (c1 reprD) (consO (some v) (some [])) = some (.str (rD v)) := List.forall_mem_cons.mpr ⟨by kernel_rfl, List.forall_mem_cons.mpr ⟨by kernel_rfl, List.forall_mem_cons.mpr ⟨by kernel_rfl, List.forall_mem_cons.mpr ⟨by kernel_rfl, List.forall_mem_cons.mpr ⟨by kernel_rfl, List.forall_mem_cons.mpr ⟨by kernel_rfl, List.forall_mem_cons.mpr ⟨by kernel_rfl, List.forall_mem_cons.mpr ⟨by kernel_rfl, List.forall_mem_cons.mpr ⟨by kernel_rfl, List.forall_mem_cons.mpr ⟨by kernel_rfl, fun _ h => nomatch h⟩⟩⟩⟩⟩⟩⟩⟩⟩⟩
theorem rD_VS : ∀ v ∈ VS, callO (c1 reprD) (consO (some v) (some [])) = some (.str (rD v)) := List.forall_mem_cons.mpr ⟨by kernel_rfl, List.forall_mem_cons.mpr ⟨by kernel_rfl, List.forall_mem_cons.mpr ⟨by kernel_rfl, fun _ h => nomatch h⟩⟩⟩
theorem rD_c : callO (c1 reprD) (consO (some (.str "c")) (some [])) = some (.str (rD (.str "c"))) := by kernel_rfl
theorem rD_a : callO (c1 reprD) (consO (some (.str "a")) (some [])) = some (.str (rD (.str "a"))) := by kernel_rfl
theorem rD_q : callO (c1 reprD) (consO (some (.tup [.str "q"])) (some [])) = some (.str (rD (.tup [.str "q"]))) := by kernel_rfl
theorem rV_c : callO (c1 reprV) (consO (some (.str "c")) (some [])) = some (.str (rD (.str "c"))) := by kernel_rfl
theorem rV_a : callO (c1 reprV) (consO (some (.str "a")) (some [])) = some (.str (rD (.str "a"))) := by kernel_rfl
theorem rV_q : callO (c1 reprV) (consO (some (.tup [.str "q"])) (some [])) = some (.str (rD (.tup [.str "q"]))) := by kernel_rfl
def bR0 : List Row := [("a", [])]
def bR1 : List Row := bR0 ++ [(("b" : Str), [("a" : Str)])]
def bR2 : List Row := bR1 ++ [(("c" : Str), [("a" : Str)])]
def bR3 : List Row := bR2 ++ [(("d" : Str), [("b" : Str), "c"])]
def bR : List Row := bR3 ++ [(("e" : Str), [("c" : Str)])]
def bP : List (List Row) := ((([] ++ [bR0]) ++ [bR1]) ++ [bR2]) ++ [bR3]
theorem e_make : ∀ v ∈ XS, callO (mkX 23 x_Shelf_init) (consO (some v) (some [])) = some (.rsd 3 [("given", v)]) := List.forall_mem_cons.mpr ⟨by kernel_rfl, List.forall_mem_cons.mpr ⟨by kernel_rfl, List.forall_mem_cons.mpr ⟨by kernel_rfl, List.forall_mem_cons.mpr ⟨by kernel_rfl, List.forall_mem_cons.mpr ⟨by kernel_rfl, List.forall_mem_cons.mpr ⟨by kernel_rfl, List.forall_mem_cons.mpr ⟨by kernel_rfl, List.forall_mem_cons.mpr ⟨by kernel_rfl, List.forall_mem_cons.mpr ⟨by kernel_rfl, List.forall_mem_cons.mpr ⟨by kernel_rfl, List.forall_mem_cons.mpr ⟨by kernel_rfl, List.forall_mem_cons.mpr ⟨by kernel_rfl, fun _ h => nomatch h⟩⟩⟩⟩⟩⟩⟩⟩⟩⟩⟩⟩
theorem e_name {z : U} : ∀ v ∈ YS, x_Web_with_copy (webU bR) v z = some (.rsd 3 [("given", v)]) := List.forall_mem_cons.mpr ⟨by kernel_rfl, List.forall_mem_cons.mpr ⟨by kernel_rfl, List.forall_mem_cons.mpr ⟨by kernel_rfl, List.forall_mem_cons.mpr ⟨by kernel_rfl, List.forall_mem_cons.mpr ⟨by kernel_rfl, List.forall_mem_cons.mpr ⟨by kernel_rfl, List.forall_mem_cons.mpr ⟨by kernel_rfl, List.forall_mem_cons.mpr ⟨by kernel_rfl, List.forall_mem_cons.mpr ⟨by kernel_rfl, List.forall_mem_cons.mpr ⟨by kernel_rfl, List.forall_mem_cons.mpr ⟨by kernel_rfl, List.forall_mem_cons.mpr ⟨by kernel_rfl, fun _ h => nomatch h⟩⟩⟩⟩⟩⟩⟩⟩⟩⟩⟩⟩
theorem e_src : ∀ v ∈ ZS, x_Web_with_copy (webU bR) (.str "new") v = some (.rsd 10 [("given", v)]) := List.forall_mem_cons.mpr ⟨by kernel_rfl, List.forall_mem_cons.mpr ⟨by kernel_rfl, List.forall_mem_cons.mpr ⟨by kernel_rfl, List.forall_mem_cons.mpr ⟨by kernel_rfl, List.forall_mem_cons.mpr ⟨by kernel_rfl, List.forall_mem_cons.mpr ⟨by kernel_rfl, List.forall_mem_cons.mpr ⟨by kernel_rfl, List.forall_mem_cons.mpr ⟨by kernel_rfl, List.forall_mem_cons.mpr ⟨by kernel_rfl, List.forall_mem_cons.mpr ⟨by kernel_rfl, List.forall_mem_cons.mpr ⟨by kernel_rfl, fun _ h => nomatch h⟩⟩⟩⟩⟩⟩⟩⟩⟩⟩⟩
theorem e_unk : ∀ v ∈ WS, x_Web_without (webU bR) v = some (.rsd 7 [("given", v)]) := List.forall_mem_cons.mpr ⟨by kernel_rfl, List.forall_mem_cons.mpr ⟨by kernel_rfl, List.forall_mem_cons.mpr ⟨by kernel_rfl, List.forall_mem_cons.mpr ⟨by kernel_rfl, List.forall_mem_cons.mpr ⟨by kernel_rfl, List.forall_mem_cons.mpr ⟨by kernel_rfl, List.forall_mem_cons.mpr ⟨by kernel_rfl, List.forall_mem_cons.mpr ⟨by kernel_rfl, List.forall_mem_cons.mpr ⟨by kernel_rfl, List.forall_mem_cons.mpr ⟨by kernel_rfl, fun _ h => nomatch h⟩⟩⟩⟩⟩⟩⟩⟩⟩⟩
def nmO (k : Nat) : Option U := op2 addV (op2 addV (some (U.str "n")) (op2 getV (some (U.str "abcdefghij")) (op2 fdivV (some (.int (k : Nat))) (some (U.int 10))))) (op2 getV (some (U.str "abcdefghij")) (op2 modV (some (.int (k : Nat))) (some (U.int 10))))
def nmF (k : Nat) : Str := match nmO k with
  | some (.str s) => s
  | _ => Str.empty
theorem nmF_ok : ∀ k : Nat, k < 39 → nmO k = some (.str (nmF k))
  | 0, _ => by kernel_rfl
  | 1, _ => by kernel_rfl
  | 2, _ => by kernel_rfl
  | 3, _ => by kernel_rfl
  | 4, _ => by kernel_rfl
  | 5, _ => by kernel_rfl
  | 6, _ => by kernel_rfl
  | 7, _ => by kernel_rfl
  | 8, _ => by kernel_rfl
  | 9, _ => by kernel_rfl
  | 10, _ => by kernel_rfl
  | 11, _ => by kernel_rfl
  | 12, _ => by kernel_rfl
  | 13, _ => by kernel_rfl
  | 14, _ => by kernel_rfl
  | 15, _ => by kernel_rfl
  | 16, _ => by kernel_rfl
  | 17, _ => by kernel_rfl
  | 18, _ => by kernel_rfl
  | 19, _ => by kernel_rfl
  | 20, _ => by kernel_rfl
  | 21, _ => by kernel_rfl
  | 22, _ => by kernel_rfl
  | 23, _ => by kernel_rfl
  | 24, _ => by kernel_rfl
  | 25, _ => by kernel_rfl
  | 26, _ => by kernel_rfl
  | 27, _ => by kernel_rfl
  | 28, _ => by kernel_rfl
  | 29, _ => by kernel_rfl
  | 30, _ => by kernel_rfl
  | 31, _ => by kernel_rfl
  | 32, _ => by kernel_rfl
  | 33, _ => by kernel_rfl
  | 34, _ => by kernel_rfl
  | 35, _ => by kernel_rfl
  | 36, _ => by kernel_rfl
  | 37, _ => by kernel_rfl
  | 38, _ => by kernel_rfl
  | i + 39, h => absurd h (by omega)
end K42
set_option Elab.async false
set_option linter.all false
set_option maxRecDepth 100000
set_option maxHeartbeats 2000000
namespace K42
open PySem L2 Dn
theorem told_at {F : SM U} {us us' : List U} {r T : U} (e : F us = some (r, us')) (t : TV r = some T) : toldS okX (a1 m_law_sort) (a2 m_law_attribute) "returned" F us = some (T, us') := by
  unfold toldS
  rw [bindS_s e]
  show (TV r).map _ = _
  rw [t]
  rfl
theorem methI_s {j C : Nat} {nm : Str} {m : U → List U → Option (U × U)} {F : SM (List U)} {us : List U} {u r u' : U} {xs : List U} (h : us[j]? = some u) (hm : u.isM C nm = true) (hF : F us = some (xs, us)) (hc : u.isC C = true) (hr : m u xs = some (r, u')) : methI j C nm m F us = some (r, us.set j u') := by
  unfold methI
  rw [h, Option.bind_some, if_pos hm, bindS_s hF]
  exact callI_s h hc hr
def putB (cur : List Row) (w : Str) (ss : List Str) : Bool := wordB w && !decide (w ∈ names cur) && !ss.isEmpty && decide (ss.length ≤ 2) && decide ss.Nodup && ss.all (fun s => decide (s ∈ names cur)) && (ss.filter fun s => decide (cnt cur s = 2)).isEmpty && decide (cur.length ≤ 39)
theorem put_c {cur : List Row} {past : List (List Row)} {w : Str} {ss : List Str} (h : Web cur) (hp : past.length ≤ 1000) (hb : putB cur w ss = true) : Web (cur ++ [(w, ss)]) ∧ bI2 x_Shelf_put (shU cur past) [.str w, .tup (txs ss)] = some (.non, shU (cur ++ [(w, ss)]) (past ++ [cur])) := by
  unfold putB at hb
  simp only [Bool.and_eq_true, Bool.not_eq_true', decide_eq_false_iff_not, decide_eq_true_eq, List.all_eq_true, List.isEmpty_iff] at hb
  obtain ⟨⟨⟨⟨⟨⟨⟨h1, h2⟩, h3⟩, h4⟩, h5⟩, h6⟩, h7⟩, h8⟩ := hb
  have q := xw_ok h h8 (wordB_ok h1) h2 (by rintro rfl; simp at h3) h4 h5 h6 h7
  exact ⟨q.1, put_new hp q.2⟩
theorem nox_non {F : SM U} {us us1 : List U} (h : F us = some (.non, us1)) : noX F us = some (.non, us1) := by
  unfold noX bindXS
  rw [bindS_s h]
  rfl
theorem l1_step {k : SM U} {l : List U} {w : Str} {ss : List Str} {u : U} {cur : List Row} {past : List (List Row)} {t : List U} (h : Web cur) (hp : past.length ≤ 1000) (hb : putB cur w ss = true) : m_law_right_l1 k (.tup [.str w, .tup (txs ss)] :: l) (u :: shU cur past :: t) = m_law_right_l1 k l (u :: shU (cur ++ [(w, ss)]) (past ++ [cur]) :: t) := by
  show bindS (noX (methI 1 23 "put" (bI2 x_Shelf_put) (pureS (some [.str w, .tup (txs ss)])))) (fun _ => m_law_right_l1 k l) (u :: shU cur past :: t) = _
  rw [bindS_s (nox_non (methI_s (j := 1) rfl rfl rfl sh_isC (put_c h hp hb).2))]
  rfl
theorem b0_web : Web bR0 := .one (wordB_ok (by decide +kernel))
theorem b1_ok : putB bR0 "b" ["a"] = true := by decide +kernel
theorem b2_ok : putB bR1 "c" ["a"] = true := by decide +kernel
theorem b3_ok : putB bR2 "d" ["b", "c"] = true := by decide +kernel
theorem b4_ok : putB bR3 "e" ["c"] = true := by decide +kernel
theorem b1_web : Web bR1 := (put_c (past := []) b0_web (by simp) b1_ok).1
theorem b2_web : Web bR2 := (put_c (past := []) b1_web (by simp) b2_ok).1
theorem b3_web : Web bR3 := (put_c (past := []) b2_web (by simp) b3_ok).1
theorem bR_web : Web bR := (put_c (past := []) b3_web (by simp) b4_ok).1
theorem l1_all {k : SM U} {u : U} {t : List U} : m_law_right_l1 k [.tup [.str "b", .tup [.str "a"]], .tup [.str "c", .tup [.str "a"]], .tup [.str "d", .tup [.str "b", .str "c"]], .tup [.str "e", .tup [.str "c"]]] (u :: shU bR0 [] :: t) = k (u :: shU bR bP :: t) := by
  refine (l1_step (ss := ["a"]) b0_web (by simp) b1_ok).trans ?_
  refine (l1_step (ss := ["a"]) b1_web (by simp) b2_ok).trans ?_
  refine (l1_step (ss := ["b", "c"]) b2_web (by simp) b3_ok).trans ?_
  refine (l1_step (ss := ["c"]) b3_web (by simp) b4_ok).trans ?_
  rfl
def laF : Nat → Str
  | 0 => "a"
  | k + 1 => nmF k
def fR : Nat → List Row
  | 0 => bR0
  | k + 1 => fR k ++ [(nmF k, [laF k])]
def fP : Nat → List (List Row)
  | 0 => []
  | k + 1 => fP k ++ [fR k]
theorem f_all : ((List.range 39).all fun k => putB (fR k) (nmF k) [laF k]) = true := by decide +kernel
theorem f_at {k : Nat} (h : k < 39) : putB (fR k) (nmF k) [laF k] = true := List.all_eq_true.mp f_all k (List.mem_range.mpr h)
theorem fP_len : ∀ k : Nat, (fP k).length = k
  | 0 => rfl
  | k + 1 => by rw [fP, List.length_append, List.length_singleton, fP_len k]
theorem fR_web : ∀ k : Nat, k ≤ 39 → Web (fR k)
  | 0, _ => b0_web
  | k + 1, h => (put_c (past := []) (fR_web k (by omega)) (by simp) (f_at (by omega))).1
theorem fR_last : ∀ k : Nat, ∃ ns, names (fR k) = ns ++ [laF k]
  | 0 => ⟨[], rfl⟩
  | k + 1 => ⟨names (fR k), names_snoc⟩
theorem web_m {cur : List Row} {past : List (List Row)} : bI0 m_Shelf_web (shU cur past) [] = some (webU cur, shU cur past) := by
  show finI (m_Shelf_web [shU cur past]) = _
  unfold m_Shelf_web
  rw [now_s]
  exact finI_s sh_isO
theorem l2_step {k : Nat} (h : k < 39) {K : SM U} {l : List U} {u b : U} : m_law_right_l2 K (.int (k : Nat) :: l) [u, b, shU (fR k) (fP k)] = m_law_right_l2 K l [u, b, shU (fR (k + 1)) (fP (k + 1))] := by
  obtain ⟨ns, en⟩ := fR_last k
  have e1 : callI 2 23 (bI0 m_Shelf_web) [] [u, b, shU (fR k) (fP k)] = some (webU (fR k), [u, b, shU (fR k) (fP k)]) := callI_s (us := [u, b, shU (fR k) (fP k)]) rfl sh_isC web_m
  have e2 : op1S (propV 0 (a1 m_Web_names)) (callI 2 23 (bI0 m_Shelf_web) []) [u, b, shU (fR k) (fP k)] = some (.tup (txs (names (fR k))), [u, b, shU (fR k) (fP k)]) := by
    unfold op1S
    rw [bindS_s e1]
    show (propV 0 (a1 m_Web_names) (webU (fR k))).map _ = _
    rw [show propV 0 (a1 m_Web_names) (webU (fR k)) = some (.tup (txs (names (fR k)))) from p_names]
    rfl
  have e3 : opS getV (op1S (propV 0 (a1 m_Web_names)) (callI 2 23 (bI0 m_Shelf_web) [])) (pureS (op1 negV (some (U.int 1)))) [u, b, shU (fR k) (fP k)] = some (.str (laF k), [u, b, shU (fR k) (fP k)]) := by
    refine opS_s e2 rfl ?_
    rw [en, txs, List.map_append]
    exact atI_neg1
  have e4 : tupS (consS (opS getV (op1S (propV 0 (a1 m_Web_names)) (callI 2 23 (bI0 m_Shelf_web) [])) (pureS (op1 negV (some (U.int 1))))) (pureS (some []))) [u, b, shU (fR k) (fP k)] = some (.tup (txs [laF k]), [u, b, shU (fR k) (fP k)]) := tupS_s (consS_s e3 rfl) (by decide : 1 ≤ lim)
  have e5 := put_c (past := fP k) (fR_web k (by omega)) (by rw [fP_len]; omega) (f_at h)
  show bindS (noX (methI 2 23 "put" (bI2 x_Shelf_put) (consS (pureS (nmO k)) (consS (tupS (consS (opS getV (op1S (propV 0 (a1 m_Web_names)) (callI 2 23 (bI0 m_Shelf_web) [])) (pureS (op1 negV (some (U.int 1))))) (pureS (some [])))) (pureS (some [])))))) (fun _ => m_law_right_l2 K l) [u, b, shU (fR k) (fP k)] = _
  rw [nmF_ok k h, bindS_s (nox_non (methI_s (j := 2) (us := [u, b, shU (fR k) (fP k)]) rfl rfl (consS_s (a := .str (nmF k)) (us1 := [u, b, shU (fR k) (fP k)]) rfl (consS_s e4 rfl)) sh_isC e5.2))]
  rfl
theorem l2_all {K : SM U} {u b : U} : ∀ (m k : Nat), k + m = 39 → m_law_right_l2 K ((List.range' k m).map fun i => U.int (i : Nat)) [u, b, shU (fR k) (fP k)] = K [u, b, shU (fR 39) (fP 39)]
  | 0, k, h => by
    have : k = 39 := by omega
    subst this
    rfl
  | m + 1, k, h => by
    rw [List.range'_succ, List.map_cons]
    exact (l2_step (by omega)).trans (l2_all m (k + 1) (by omega))
theorem tvD {C : Nat} {k : Str} {v : U} (ho : okX C = true) (hs : m_law_sort (.exc C [("given", v)]) = some (.str k)) (ha : m_law_attribute (.exc C [("given", v)]) (.str k) = callO (c1 reprD) (consO (some v) (some []))) (e : callO (c1 reprD) (consO (some v) (some [])) = some (.str (rD v))) :
    TV (.rsd C [("given", v)]) = some (.tup [.str k, .str (rD v)]) := by
  show (if okX C = true then (m_law_sort (.exc C [("given", v)])).bind fun w => (m_law_attribute (.exc C [("given", v)]) w).map fun x => U.tup [w, x] else none) = _
  rw [if_pos ho, hs, Option.bind_some, ha, e]
  rfl
theorem aD_3 {v : U} : m_law_attribute (.exc 3 [("given", v)]) (.str "InvalidName") = callO (c1 reprD) (consO (some v) (some [])) := by kernel_rfl
theorem aD_7 {v : U} : m_law_attribute (.exc 7 [("given", v)]) (.str "UnknownName") = callO (c1 reprD) (consO (some v) (some [])) := by kernel_rfl
theorem aD_10 {v : U} : m_law_attribute (.exc 10 [("given", v)]) (.str "InvalidSources") = callO (c1 reprD) (consO (some v) (some [])) := by kernel_rfl
theorem aD_17 {v : U} : m_law_attribute (.exc 17 [("given", v)]) (.str "FullSource") = callO (c1 reprD) (consO (some v) (some [])) := by kernel_rfl
def tw (k s : Str) : U := .tup [.str k, .str s]
theorem sort_16 {v : U} : m_law_sort (.exc 16 [("number", v)]) = some (.str "TooMany") := by kernel_rfl
theorem attr_16 : m_law_attribute (.exc 16 [("number", .int 40)]) (.str "TooMany") = some (.str "40") := by kernel_rfl
theorem tv_16 : TV (.rsd 16 [("number", .int 40)]) = some (tw "TooMany" "40") := by
  show (if okX 16 = true then (m_law_sort (.exc 16 [("number", .int 40)])).bind fun w => (m_law_attribute (.exc 16 [("number", .int 40)]) w).map fun x => U.tup [w, x] else none) = _
  rw [if_pos (by decide), sort_16, Option.bind_some, attr_16]
  rfl
theorem new_word : Word "new" := wordB_ok (by decide +kernel)
theorem e_dc : x_Web_with_copy (webU bR) (.str "new") (.tup [.str "d", .str "c"]) = some (.rsd 17 [("given", .str "c")]) := xw_full (ss := ["d", "c"]) (r := []) bR_web (by decide) new_word (by decide +kernel) (by decide) (by decide) (by decide +kernel) (by decide +kernel) (by decide +kernel)
theorem e_ac : x_Web_with_copy (webU bR) (.str "new") (.tup [.str "a", .str "c"]) = some (.rsd 17 [("given", .str "a")]) := xw_full (ss := ["a", "c"]) (r := ["c"]) bR_web (by decide) new_word (by decide +kernel) (by decide) (by decide) (by decide +kernel) (by decide +kernel) (by decide +kernel)
theorem e_take : ∀ v ∈ VS, x_Web_without (webU bR) v = some (.rsd 3 [("given", v)]) := List.forall_mem_cons.mpr ⟨wo_bad bR_web (by decide) (by decide +kernel) (.inl (by decide +kernel)), List.forall_mem_cons.mpr ⟨wo_bad bR_web (by decide) (by decide +kernel) (.inl (by decide +kernel)), List.forall_mem_cons.mpr ⟨wo_bad bR_web (by decide) (by decide +kernel) (.inl (by decide +kernel)), fun _ h => nomatch h⟩⟩⟩
theorem e_many : x_Web_with_copy (webU (fR 39)) (.str "new") (.tup [.str "a"]) = some (.rsd 16 [("number", .int 40)]) := by kernel_rfl
theorem e_q : x_Web_with_copy (webU (fR 39)) (.str "new") (.tup [.str "q"]) = some (.rsd 10 [("given", .tup [.str "q"])]) := by kernel_rfl
end K42
set_option Elab.async false
set_option linter.all false
set_option maxRecDepth 100000
set_option maxHeartbeats 2000000
namespace K42
open PySem L2 Dn
theorem l3_cons {x145 : U} {x146 : U} {kL157 : SM U} {u184 : U} {l185 : List U} : m_law_right_l3 x145 x146 kL157 (u184 :: l185) = (bindS (opS getV (pureS (lstO (consO (some U.non) (consO (some (U.int 0)) (consO (some (U.str "")) (consO (some (U.str "A")) (consO (some (U.str "a1")) (consO (some (U.str "abcdefghi")) (consO (tupO (consO (some (U.str "a")) (some []))) (consO (lstO (some [])) (consO (some (U.dic [])) (consO (some (U.bl true)) (consO (some (U.str "a b")) (consO (some (U.str "a; b a")) (some []))))))))))))))) (bindS (pureS (consO (some (U.int 12)) (some []))) fun xs => callM 0 (b1 m_law_draw) xs)) fun x199 => (bindS (opS getV (pureS (lstO (consO (some U.non) (consO (some (U.int 0)) (consO (some (U.str "")) (consO (some (U.str "A")) (consO (some (U.str "a")) (consO (some (U.str "e")) (consO (some (U.str "abcdefghi")) (consO (tupO (consO (some (U.str "a")) (some []))) (consO (lstO (some [])) (consO (some (U.dic [])) (consO (some (U.bl true)) (consO (some (U.str "new ")) (some []))))))))))))))) (bindS (pureS (consO (some (U.int 12)) (some []))) fun xs => callM 0 (b1 m_law_draw) xs)) fun x208 => (bindS (pureS (lstO (consO (some U.non) (consO (some (U.str "a")) (consO (tupO (some [])) (consO (tupO (consO (some (U.str "q")) (some []))) (consO (tupO (consO (some (U.str "d")) (consO (some (U.str "d")) (some [])))) (consO (lstO (consO (some (U.str "d")) (some []))) (consO (tupO (consO (some (U.str "d")) (consO (some (U.str "q")) (some [])))) (consO (tupO (consO (some (U.str "d")) (consO (some (U.str "e")) (consO (some (U.str "b")) (some []))))) (consO (tupO (consO (some U.non) (some []))) (consO (some (U.dic [])) (consO (some (U.int 0)) (some [])))))))))))))) fun x217 => (bindS (opS getV (pureS (some x217)) (bindS (pureS (consO (some (U.int 11)) (some []))) fun xs => callM 0 (b1 m_law_draw) xs)) fun x226 => (bindS (opS getV (pureS (lstO (consO (some U.non) (consO (some (U.int 0)) (consO (some (U.str "")) (consO (some (U.str "q")) (consO (tupO (consO (some (U.str "e")) (some []))) (consO (lstO (consO (some (U.str "e")) (some []))) (consO (some (U.dic [])) (consO (some (U.bl true)) (consO (some (U.str "E")) (consO (some (U.str "e ")) (some []))))))))))))) (bindS (pureS (consO (some (U.int 10)) (some []))) fun xs => callM 0 (b1 m_law_draw) xs)) fun x235 => (bindS (opS getV (pureS (lstO (consO (some (U.str "a")) (consO (some (U.str "b")) (consO (some (U.str "c")) (some [])))))) (bindS (pureS (consO (some (U.int 3)) (some []))) fun xs => callM 0 (b1 m_law_draw) xs)) fun x244 => (bindS (nlstS (pureS (consO ((callO (mkX 23 x_Shelf_init) (consO (some x199) (some []))).bind (toldV okX (a1 m_law_sort) (a2 m_law_attribute) "returned")) (some [])))) fun u => addS u (bindS (bindS (toldS okX (a1 m_law_sort) (a2 m_law_attribute) "returned" (methI 1 23 "put" (bI2 x_Shelf_put) (pureS (consO (some x208) (consO (some x226) (some [])))))) fun y => appS 3 y) fun _ => (bindS (bindS (toldS okX (a1 m_law_sort) (a2 m_law_attribute) "returned" (methI 1 23 "put" (bI2 x_Shelf_put) (pureS (consO (some (U.str "new")) (consO (some x226) (some [])))))) fun y => appS 3 y) fun _ => (bindS (bindS (toldS okX (a1 m_law_sort) (a2 m_law_attribute) "returned" (methI 1 23 "put" (bI2 x_Shelf_put) (pureS (consO (some (U.str "new")) (consO (tupO (consO (some (U.str "d")) (consO (some (U.str "c")) (some [])))) (some [])))))) fun y => appS 3 y) fun _ => (bindS (bindS (toldS okX (a1 m_law_sort) (a2 m_law_attribute) "returned" (methI 1 23 "put" (bI2 x_Shelf_put) (pureS (consO (some (U.str "new")) (consO (tupO (consO (some (U.str "a")) (consO (some (U.str "c")) (some [])))) (some [])))))) fun y => appS 3 y) fun _ => (bindS (bindS (toldS okX (a1 m_law_sort) (a2 m_law_attribute) "returned" (methI 1 23 "take" (bI1 x_Shelf_take) (pureS (consO (some x235) (some []))))) fun y => appS 3 y) fun _ => (bindS (bindS (toldS okX (a1 m_law_sort) (a2 m_law_attribute) "returned" (methI 1 23 "take" (bI1 x_Shelf_take) (pureS (consO (some x244) (some []))))) fun y => appS 3 y) fun _ => (bindS (bindS (toldS okX (a1 m_law_sort) (a2 m_law_attribute) "returned" (methI 2 23 "put" (bI2 x_Shelf_put) (pureS (consO (some (U.str "new")) (consO (tupO (consO (some (U.str "a")) (some []))) (some [])))))) fun y => appS 3 y) fun _ => (bindS (bindS (toldS okX (a1 m_law_sort) (a2 m_law_attribute) "returned" (methI 2 23 "put" (bI2 x_Shelf_put) (pureS (consO (some (U.str "new")) (consO (tupO (consO (some (U.str "q")) (some []))) (some [])))))) fun y => appS 3 y) fun _ => (bindS (takeS 3) fun x316 => (bindS (pureS (lstO (consO (tupO (consO (some (U.str "InvalidName")) (consO (callO (c1 reprD) (consO (some x199) (some []))) (some [])))) (consO (tupO (consO (some (U.str "InvalidName")) (consO (callO (c1 reprD) (consO (some x208) (some []))) (some [])))) (consO (tupO (consO (some (U.str "InvalidSources")) (consO (callO (c1 reprD) (consO (some x226) (some []))) (some [])))) (some [])))))) fun x323 => (bindS (pureS (op2 addV (some x323) (lstO (consO (tupO (consO (some (U.str "FullSource")) (consO (callO (c1 reprV) (consO (some (U.str "c")) (some []))) (some [])))) (some []))))) fun x332 => (bindS (pureS (op2 addV (some x332) (lstO (consO (tupO (consO (some (U.str "FullSource")) (consO (callO (c1 reprV) (consO (some (U.str "a")) (some []))) (some [])))) (consO (tupO (consO (some (U.str "UnknownName")) (consO (callO (c1 reprD) (consO (some x235) (some []))) (some [])))) (consO (tupO (consO (some (U.str "InvalidName")) (consO (callO (c1 reprD) (consO (some x244) (some []))) (some [])))) (consO (tupO (consO (some (U.str "TooMany")) (consO (some (U.str "40")) (some [])))) (some [])))))))) fun x341 => (ifS (pureS (testO (op2 neV2 (some x316) (op2 addV (some x341) (lstO (consO (tupO (consO (some (U.str "InvalidSources")) (consO (callO (c1 reprV) (consO (tupO (consO (some (U.str "q")) (some []))) (some []))) (some [])))) (some []))))))) (pureS (some (U.bl false))) (ifS (orS (testS (opS neV2 (bindS (pureS (some [])) fun xs => callI 1 23 (bI0 m_law_shot) xs) (pureS (some x145)))) (testS (opS neV2 (bindS (pureS (some [])) fun xs => callI 2 23 (bI0 m_law_shot) xs) (pureS (some x146))))) (pureS (some (U.bl false))) (cutS' 3 (m_law_right_l3 x145 x146 kL157 l185))))))))))))))))))))))) := rfl
theorem pick_s {XS : List U} {n : Int} {u : U} {t : List U} (hu : Urn u) (hn : (XS.length : Int) = n) (h0 : 0 < n) (h1 : n < 1000) : ∃ x u', opS getV (pureS (some (U.lst XS))) (bindS (pureS (consO (some (U.int n)) (some []))) fun xs => callM 0 (b1 m_law_draw) xs) (u :: t) = some (x, u' :: t) ∧ Urn u' ∧ x ∈ XS := by
  obtain ⟨r, u', e, hu', h2, h3⟩ := draw_at (t := t) (n := n) hu h0 (by omega)
  obtain ⟨x, ex, hx⟩ := atI_int (xs := XS) h2 (by omega)
  exact ⟨x, u', opS_s rfl e ex, hu', List.mem_of_getElem? hx⟩
theorem app_s {F : SM U} {T a b c : U} {L : List U} {G : U → SM U} (e : toldS okX (a1 m_law_sort) (a2 m_law_attribute) "returned" F [a, b, c, .frl L] = some (T, [a, b, c, .frl L])) (hl : L.length < 100) : bindS (bindS (toldS okX (a1 m_law_sort) (a2 m_law_attribute) "returned" F) fun y => appS 3 y) G [a, b, c, .frl L] = G .non [a, b, c, .frl (L ++ [T])] := by
  have e2 : bindS (toldS okX (a1 m_law_sort) (a2 m_law_attribute) "returned" F) (fun y => appS 3 y) [a, b, c, .frl L] = some (.non, [a, b, c, .frl (L ++ [T])]) := by
    rw [bindS_s e]
    show (if L.length < lim then some (U.non, [a, b, c, U.frl L].set 3 (.frl (L ++ [T]))) else none) = _
    rw [if_pos (show L.length < lim by have : lim = 100000 := rfl; omega)]
    rfl
  exact bindS_s e2
theorem eq_tw {n : Nat} {k s : Str} : eqO (n + 2) (tw k s) (tw k s) = some true := by
  show ((eqO (n + 1) (.str k) (.str k)).bind fun a => (((eqO (n + 1) (.str s) (.str s)).bind fun a => (some true).map fun b => a && b)).map fun b => a && b).map _ = _
  rw [eqO_ss, eqO_ss]
  simp
theorem allO_tw {n : Nat} : ∀ ps : List (Str × Str), allO (eqO (n + 2)) (ps.map fun p => tw p.1 p.2) (ps.map fun p => tw p.1 p.2) = some true
  | [] => rfl
  | p :: ps => by
    show (eqO (n + 2) (tw p.1 p.2) (tw p.1 p.2)).bind (fun a => (allO (eqO (n + 2)) (ps.map fun p => tw p.1 p.2) (ps.map fun p => tw p.1 p.2)).map fun b => a && b) = _
    rw [eq_tw, allO_tw]
    rfl
theorem ne_tws (ps : List (Str × Str)) : testO (op2 neV2 (some (U.lst (ps.map fun p => tw p.1 p.2))) (some (U.lst (ps.map fun p => tw p.1 p.2)))) = some false := by
  show testO ((if (ps.map fun p => tw p.1 p.2).length = (ps.map fun p => tw p.1 p.2).length then allO (eqO 39) (ps.map fun p => tw p.1 p.2) (ps.map fun p => tw p.1 p.2) else some false).map fun b => U.bl (!b)) = _
  rw [if_pos rfl, show (39 : Nat) = 37 + 2 from rfl, allO_tw]
  rfl
theorem ne_ss {s : Str} : neV2 (.str s) (.str s) = some (.bl false) := by
  show (eqO (39 + 1) (.str s) (.str s)).map _ = _
  rw [eqO_ss]
  simp
theorem eq_ss {s : Str} : eqV2 (.str s) (.str s) = some (.bl true) := by
  rw [eqV2_ss]
  simp
abbrev BU : U := shU bR bP
abbrev FU : U := shU (fR 39) (fP 39)
abbrev S1 : Str := shotS bR 4
abbrev S2 : Str := shotS (fR 39) 39
theorem fR_len : (fR 39).length = 40 := by decide +kernel
theorem shot_1 {u : U} {t : List U} : (bindS (pureS (some [])) fun xs => callI 1 23 (bI0 m_law_shot) xs) (u :: BU :: t) = some (.str S1, u :: BU :: t) := by
  rw [bindS_pure]
  exact callI_s (j := 1) (us := u :: BU :: t) rfl sh_isC (shot_m bR_web (by decide) (by decide))
theorem shot_2 {u b : U} {t : List U} : (bindS (pureS (some [])) fun xs => callI 2 23 (bI0 m_law_shot) xs) (u :: b :: FU :: t) = some (.str S2, u :: b :: FU :: t) := by
  rw [bindS_pure]
  have := shot_m (past := fP 39) (fR_web 39 (by omega)) (by rw [fR_len]; omega) (by rw [fP_len]; omega)
  rw [fP_len] at this
  exact callI_s (j := 2) (us := u :: b :: FU :: t) rfl sh_isC this
theorem turn {u : U} (hu : Urn u) : ∃ u', Urn u' ∧ ∀ (k : SM U) (q : U) (l : List U), m_law_right_l3 (.str S1) (.str S2) k (q :: l) [u, BU, FU] = m_law_right_l3 (.str S1) (.str S2) k l [u', BU, FU] := by
  obtain ⟨x, u1, ex, hu1, hx⟩ := pick_s (XS := XS) (n := 12) (t := [BU, FU]) hu rfl (by decide) (by decide)
  obtain ⟨y, u2, ey, hu2, hy⟩ := pick_s (XS := YS) (n := 12) (t := [BU, FU]) hu1 rfl (by decide) (by decide)
  obtain ⟨z, u3, ez, hu3, hz⟩ := pick_s (XS := ZS) (n := 11) (t := [BU, FU]) hu2 rfl (by decide) (by decide)
  obtain ⟨w, u4, ew, hu4, hw⟩ := pick_s (XS := WS) (n := 10) (t := [BU, FU]) hu3 rfl (by decide) (by decide)
  obtain ⟨v, u5, ev, hu5, hv⟩ := pick_s (XS := VS) (n := 3) (t := [BU, FU]) hu4 rfl (by decide) (by decide)
  refine ⟨u5, hu5, fun k q l => ?_⟩
  refine (congrFun l3_cons _).trans ?_
  refine (bindS_s ex).trans ?_
  refine (bindS_s ey).trans ?_
  refine (bindS_s (x := .lst ZS) (us1 := [u2, BU, FU]) rfl).trans ?_
  refine (bindS_s ez).trans ?_
  refine (bindS_s ew).trans ?_
  refine (bindS_s ev).trans ?_
  have t1 : TV (.rsd 3 [("given", x)]) = some (tw "InvalidName" (rD x)) := tvD (by decide) sort_3 aD_3 (rD_XS x hx)
  have eN : nlstS (pureS (consO ((callO (mkX 23 x_Shelf_init) (consO (some x) (some []))).bind (toldV okX (a1 m_law_sort) (a2 m_law_attribute) "returned")) (some []))) [u5, BU, FU] = some (.frl [tw "InvalidName" (rD x)], [u5, BU, FU]) := by
    rw [e_make x hx, Option.bind_some]
    show nlstS (pureS (consO (TV (.rsd 3 [("given", x)])) (some []))) [u5, BU, FU] = _
    rw [t1]
    rfl
  refine (bindS_s eN).trans ?_
  refine (app_s (L := [tw "InvalidName" (rD x)]) (a := u5) (b := BU) (c := FU) (told_at (methI_s (j := 1) (u := BU) rfl rfl (xs := [y, z]) rfl sh_isC (put_err (e_name y hy))) (tvD (by decide) sort_3 aD_3 (rD_YS y hy))) (by simp)).trans ?_
  refine (app_s (L := [tw "InvalidName" (rD x)] ++ [tw "InvalidName" (rD y)]) (a := u5) (b := BU) (c := FU) (told_at (methI_s (j := 1) (u := BU) rfl rfl (xs := [.str "new", z]) rfl sh_isC (put_err (e_src z hz))) (tvD (by decide) sort_10 aD_10 (rD_ZS z hz))) (by simp)).trans ?_
  refine (app_s (L := [tw "InvalidName" (rD x)] ++ [tw "InvalidName" (rD y)] ++ [tw "InvalidSources" (rD z)]) (a := u5) (b := BU) (c := FU) (told_at (methI_s (j := 1) (u := BU) rfl rfl (xs := [.str "new", .tup [.str "d", .str "c"]]) rfl sh_isC (put_err e_dc)) (tvD (by decide) sort_17 aD_17 rD_c)) (by simp)).trans ?_
  refine (app_s (L := [tw "InvalidName" (rD x)] ++ [tw "InvalidName" (rD y)] ++ [tw "InvalidSources" (rD z)] ++ [tw "FullSource" (rD (.str "c"))]) (a := u5) (b := BU) (c := FU) (told_at (methI_s (j := 1) (u := BU) rfl rfl (xs := [.str "new", .tup [.str "a", .str "c"]]) rfl sh_isC (put_err e_ac)) (tvD (by decide) sort_17 aD_17 rD_a)) (by simp)).trans ?_
  refine (app_s (L := [tw "InvalidName" (rD x)] ++ [tw "InvalidName" (rD y)] ++ [tw "InvalidSources" (rD z)] ++ [tw "FullSource" (rD (.str "c"))] ++ [tw "FullSource" (rD (.str "a"))]) (a := u5) (b := BU) (c := FU) (told_at (methI_s (j := 1) (u := BU) rfl rfl (xs := [w]) rfl sh_isC (take_err (e_unk w hw))) (tvD (by decide) sort_7 aD_7 (rD_WS w hw))) (by simp)).trans ?_
  refine (app_s (L := [tw "InvalidName" (rD x)] ++ [tw "InvalidName" (rD y)] ++ [tw "InvalidSources" (rD z)] ++ [tw "FullSource" (rD (.str "c"))] ++ [tw "FullSource" (rD (.str "a"))] ++ [tw "UnknownName" (rD w)]) (a := u5) (b := BU) (c := FU) (told_at (methI_s (j := 1) (u := BU) rfl rfl (xs := [v]) rfl sh_isC (take_err (e_take v hv))) (tvD (by decide) sort_3 aD_3 (rD_VS v hv))) (by simp)).trans ?_
  refine (app_s (L := [tw "InvalidName" (rD x)] ++ [tw "InvalidName" (rD y)] ++ [tw "InvalidSources" (rD z)] ++ [tw "FullSource" (rD (.str "c"))] ++ [tw "FullSource" (rD (.str "a"))] ++ [tw "UnknownName" (rD w)] ++ [tw "InvalidName" (rD v)]) (a := u5) (b := BU) (c := FU) (told_at (methI_s (j := 2) (u := FU) rfl rfl (xs := [.str "new", .tup [.str "a"]]) rfl sh_isC (put_err e_many)) tv_16) (by simp)).trans ?_
  refine (app_s (L := [tw "InvalidName" (rD x)] ++ [tw "InvalidName" (rD y)] ++ [tw "InvalidSources" (rD z)] ++ [tw "FullSource" (rD (.str "c"))] ++ [tw "FullSource" (rD (.str "a"))] ++ [tw "UnknownName" (rD w)] ++ [tw "InvalidName" (rD v)] ++ [tw "TooMany" "40"]) (a := u5) (b := BU) (c := FU) (told_at (methI_s (j := 2) (u := FU) rfl rfl (xs := [.str "new", .tup [.str "q"]]) rfl sh_isC (put_err e_q)) (tvD (by decide) sort_10 aD_10 rD_q)) (by simp)).trans ?_
  refine (bindS_s (x := .lst [tw "InvalidName" (rD x), tw "InvalidName" (rD y), tw "InvalidSources" (rD z), tw "FullSource" (rD (.str "c")), tw "FullSource" (rD (.str "a")), tw "UnknownName" (rD w), tw "InvalidName" (rD v), tw "TooMany" "40", tw "InvalidSources" (rD (.tup [.str "q"]))]) (us1 := [u5, BU, FU, .non]) rfl).trans ?_
  have d1 : pureS (lstO (consO (tupO (consO (some (U.str "InvalidName")) (consO (callO (c1 reprD) (consO (some x) (some []))) (some [])))) (consO (tupO (consO (some (U.str "InvalidName")) (consO (callO (c1 reprD) (consO (some y) (some []))) (some [])))) (consO (tupO (consO (some (U.str "InvalidSources")) (consO (callO (c1 reprD) (consO (some z) (some []))) (some [])))) (some []))))) [u5, BU, FU, .non] = some (U.lst [tw "InvalidName" (rD x), tw "InvalidName" (rD y), tw "InvalidSources" (rD z)], [u5, BU, FU, .non]) := by
    rw [rD_XS x hx, rD_YS y hy, rD_ZS z hz]
    rfl
  refine (bindS_s d1).trans ?_
  have d2 : pureS (op2 addV (some (U.lst [tw "InvalidName" (rD x), tw "InvalidName" (rD y), tw "InvalidSources" (rD z)])) (lstO (consO (tupO (consO (some (U.str "FullSource")) (consO (callO (c1 reprV) (consO (some (U.str "c")) (some []))) (some [])))) (some [])))) [u5, BU, FU, .non] = some (U.lst [tw "InvalidName" (rD x), tw "InvalidName" (rD y), tw "InvalidSources" (rD z), tw "FullSource" (rD (.str "c"))], [u5, BU, FU, .non]) := by
    rw [rV_c]
    rfl
  refine (bindS_s d2).trans ?_
  have d3 : pureS (op2 addV (some (U.lst [tw "InvalidName" (rD x), tw "InvalidName" (rD y), tw "InvalidSources" (rD z), tw "FullSource" (rD (.str "c"))])) (lstO (consO (tupO (consO (some (U.str "FullSource")) (consO (callO (c1 reprV) (consO (some (U.str "a")) (some []))) (some [])))) (consO (tupO (consO (some (U.str "UnknownName")) (consO (callO (c1 reprD) (consO (some w) (some []))) (some [])))) (consO (tupO (consO (some (U.str "InvalidName")) (consO (callO (c1 reprD) (consO (some v) (some []))) (some [])))) (consO (tupO (consO (some (U.str "TooMany")) (consO (some (U.str "40")) (some [])))) (some []))))))) [u5, BU, FU, .non] = some (U.lst [tw "InvalidName" (rD x), tw "InvalidName" (rD y), tw "InvalidSources" (rD z), tw "FullSource" (rD (.str "c")), tw "FullSource" (rD (.str "a")), tw "UnknownName" (rD w), tw "InvalidName" (rD v), tw "TooMany" "40"], [u5, BU, FU, .non]) := by
    rw [rV_a, rD_WS w hw, rD_VS v hv]
    rfl
  refine (bindS_s d3).trans ?_
  have d4 : pureS (testO (op2 neV2 (some (U.lst [tw "InvalidName" (rD x), tw "InvalidName" (rD y), tw "InvalidSources" (rD z), tw "FullSource" (rD (.str "c")), tw "FullSource" (rD (.str "a")), tw "UnknownName" (rD w), tw "InvalidName" (rD v), tw "TooMany" "40", tw "InvalidSources" (rD (.tup [.str "q"]))])) (op2 addV (some (U.lst [tw "InvalidName" (rD x), tw "InvalidName" (rD y), tw "InvalidSources" (rD z), tw "FullSource" (rD (.str "c")), tw "FullSource" (rD (.str "a")), tw "UnknownName" (rD w), tw "InvalidName" (rD v), tw "TooMany" "40"])) (lstO (consO (tupO (consO (some (U.str "InvalidSources")) (consO (callO (c1 reprV) (consO (tupO (consO (some (U.str "q")) (some []))) (some []))) (some [])))) (some [])))))) [u5, BU, FU, .non] = some (false, [u5, BU, FU, .non]) := by
    have e1 : callO (c1 reprV) (consO (tupO (consO (some (U.str "q")) (some []))) (some [])) = some (.str (rD (.tup [.str "q"]))) := rV_q
    rw [e1]
    exact congrArg (Option.map fun x => (x, [u5, BU, FU, U.non])) (ne_tws [("InvalidName", rD x), ("InvalidName", rD y), ("InvalidSources", rD z), ("FullSource", rD (.str "c")), ("FullSource", rD (.str "a")), ("UnknownName", rD w), ("InvalidName", rD v), ("TooMany", "40"), ("InvalidSources", rD (.tup [.str "q"]))])
  refine (ifS_s d4).trans ((if_neg (by decide)).trans ?_)
  have d5 : orS (testS (opS neV2 (bindS (pureS (some [])) fun xs => callI 1 23 (bI0 m_law_shot) xs) (pureS (some (.str S1))))) (testS (opS neV2 (bindS (pureS (some [])) fun xs => callI 2 23 (bI0 m_law_shot) xs) (pureS (some (.str S2))))) [u5, BU, FU, .non] = some (false, [u5, BU, FU, .non]) := by
    rw [orS_s (testS_s' (opS_s shot_1 rfl ne_ss)), if_neg (by decide)]
    exact testS_s' (opS_s shot_2 rfl ne_ss)
  refine (ifS_s d5).trans ((if_neg (by decide)).trans ?_)
  rfl
theorem turns : ∀ (l : List U) (u : U), Urn u → ∃ u', Urn u' ∧ ∀ k : SM U, m_law_right_l3 (.str S1) (.str S2) k l [u, BU, FU] = k [u', BU, FU]
  | [], u, hu => ⟨u, hu, fun k => rfl⟩
  | q :: l, u, hu => by
    obtain ⟨u1, h1, e1⟩ := turn hu
    obtain ⟨u2, h2, e2⟩ := turns l u1 h1
    exact ⟨u2, h2, fun k => (e1 k q l).trans (e2 k)⟩
end K42
set_option Elab.async false
set_option linter.all false
set_option maxRecDepth 100000
set_option maxHeartbeats 2000000
namespace K42
open PySem L2 Dn
def bN : List Row := bR ++ [(("new" : Str), [("d" : Str), "e"])]
theorem bN_ok : putB bR "new" ["d", "e"] = true := by decide +kernel
theorem bN_web : Web bN := (put_c (past := []) bR_web (by simp) bN_ok).1
theorem take_N : x_Web_without (webU bN) (.str "new") = some (webU bR) := by
  have q := (wox_ok (c := "new") bN_web (by decide) (by decide +kernel) (by decide +kernel) (fun f l e z => by
    subst z
    have : (names bN).head? = some "new" := by rw [e]; rfl
    exact absurd this (by decide +kernel))).2
  rwa [show (bN.filter fun r => decide (r.1 ≠ ("new" : Str))) = bR by decide +kernel] at q
theorem take_E : x_Web_without (webU bR) (.str "e") = some (webU bR3) := by
  have q := (wox_ok (c := "e") bR_web (by decide) (by decide +kernel) (by decide +kernel) (fun f l e z => by
    subst z
    have : (names bR).head? = some "e" := by rw [e]; rfl
    exact absurd this (by decide +kernel))).2
  rwa [show (bR.filter fun r => decide (r.1 ≠ ("e" : Str))) = bR3 by decide +kernel] at q
abbrev P1 : List (List Row) := bP ++ [bR]
abbrev P2 : List (List Row) := P1 ++ [bN]
abbrev P3 : List (List Row) := P2 ++ [bR]
theorem m_put {u f : U} : noX (methI 1 23 "put" (bI2 x_Shelf_put) (pureS (consO (some (U.str "new")) (consO (tupO (consO (some (U.str "d")) (consO (some (U.str "e")) (some [])))) (some []))))) [u, BU, f] = some (.non, [u, shU bN P1, f]) :=
  nox_non (methI_s (j := 1) (us := [u, BU, f]) rfl rfl (xs := [.str "new", .tup [.str "d", .str "e"]]) rfl sh_isC (put_c (ss := ["d", "e"]) bR_web (by decide) bN_ok).2)
theorem m_takeN {u f : U} : noX (methI 1 23 "take" (bI1 x_Shelf_take) (pureS (consO (some (U.str "new")) (some [])))) [u, shU bN P1, f] = some (.non, [u, shU bR P2, f]) :=
  nox_non (methI_s (j := 1) (us := [u, shU bN P1, f]) rfl rfl (xs := [.str "new"]) rfl sh_isC (take_new (by decide) take_N))
theorem m_takeE {u f : U} : noX (methI 1 23 "take" (bI1 x_Shelf_take) (pureS (consO (some (U.str "e")) (some [])))) [u, shU bR P2, f] = some (.non, [u, shU bR3 P3, f]) :=
  nox_non (methI_s (j := 1) (us := [u, shU bR P2, f]) rfl rfl (xs := [.str "e"]) rfl sh_isC (take_new (by decide) take_E))
theorem m_undo {u f : U} {cur old : List Row} {past : List (List Row)} (hp : past.length ≤ 1000) : methI 1 23 "undo" (bI0 m_Shelf_undo) (pureS (some [])) [u, shU cur (past ++ [old]), f] = some (.non, [u, shU old past, f]) :=
  methI_s (j := 1) (us := [u, shU cur (past ++ [old]), f]) rfl rfl (xs := []) rfl sh_isC (undo_m hp)
theorem lc_cons {p : U → SM Bool} {f : U → SM U} {x y : U} {r zs us us1 us2 : List U} (hp : ∀ x us, p x us = some (true, us)) (hf : f x us = some (y, us1)) (hr : lcSL p f r us1 = some (zs, us2)) : lcSL p f (x :: r) us = some (y :: zs, us2) := by
  show bindS (p x) _ us = _
  rw [bindS_s (hp x us), if_pos rfl, bindS_s hf, bindS_s hr]
  rfl
theorem undo3 {u f : U} : keepN (lcS (fun u405 => (pureS (some true))) (fun u405 => (methI 1 23 "undo" (bI0 m_Shelf_undo) (pureS (some [])))) (pureS (rngO rng1 (consO (some (U.int 3)) (some []))))) [u, shU bR3 P3, f] = some (.lst [.non, .non, .non], [u, BU, f]) := by
  have e : lcSL (fun u405 => (pureS (some true))) (fun u405 => (methI 1 23 "undo" (bI0 m_Shelf_undo) (pureS (some [])))) [.int 0, .int 1, .int 2] [u, shU bR3 P3, f] = some ([.non, .non, .non], [u, BU, f]) :=
    lc_cons (fun _ _ => rfl) (m_undo (by decide)) (lc_cons (fun _ _ => rfl) (m_undo (by decide)) (lc_cons (fun _ _ => rfl) (m_undo (by decide)) rfl))
  have e2 : lcS (fun u405 => (pureS (some true))) (fun u405 => (methI 1 23 "undo" (bI0 m_Shelf_undo) (pureS (some [])))) (pureS (rngO rng1 (consO (some (U.int 3)) (some [])))) [u, shU bR3 P3, f] = some (.frl [.non, .non, .non], [u, BU, f]) := by
    unfold lcS
    rw [bindS_s (show pureS (rngO rng1 (consO (some (U.int 3)) (some []))) [u, shU bR3 P3, f] = some ([.int 0, .int 1, .int 2], [u, shU bR3 P3, f]) from rfl), if_pos (by decide), bindS_s e]
    rfl
  unfold keepN
  rw [bindS_s e2]
  rfl
theorem odd_s {u f : U} : oddS 23 0 1 (callI 1 23 (bI0 m_Shelf_web) []) [u, BU, f] = some (.non, [u, BU, f]) := by
  have e : callI 1 23 (bI0 m_Shelf_web) [] [u, BU, f] = some (webU bR, [u, BU, f]) := callI_s (us := [u, BU, f]) rfl sh_isC web_m
  unfold oddS
  rw [bindS_s e]
  show (if (0 : Nat) = 0 ∧ BU.isC 23 = true then some (U.non, [u, BU, f]) else none) = _
  rw [if_pos ⟨rfl, sh_isC⟩]
theorem fin_s {F G : SM U} {us us1 us2 : List U} {z : U} (h : F us = some (.bl true, us1)) (h2 : G us1 = some (z, us2)) : andVS F G us = some (z, us2) := by
  unfold andVS
  rw [bindS_s (testS_s' h)]
  exact h2
theorem three_m : pureS (op2 mulV (lstO (consO (some U.non) (some []))) (some (U.int 3))) = pureS (some (.lst [.non, .non, .non])) := by kernel_rfl
theorem three_e : eqV2 (.lst [.non, .non, .non]) (.lst [.non, .non, .non]) = some (.bl true) := by kernel_rfl
theorem eF {u f : U} : opS eqV2 (keepN (lcS (fun u405 => (pureS (some true))) (fun u405 => (methI 1 23 "undo" (bI0 m_Shelf_undo) (pureS (some [])))) (pureS (rngO rng1 (consO (some (U.int 3)) (some [])))))) (pureS (op2 mulV (lstO (consO (some U.non) (some []))) (some (U.int 3)))) [u, shU bR3 P3, f] = some (.bl true, [u, BU, f]) := by
  rw [three_m]
  exact opS_s undo3 (b := .lst [.non, .non, .non]) (us2 := [u, BU, f]) rfl three_e
theorem parS_p {α : Type} {a b : U} {f : U → U → SM α} : parS [a, b] f = f a b := rfl
theorem addS_p {α : Type} {u : U} {G : SM α} {us : List U} : addS u G us = G (us ++ [u]) := rfl
theorem with_p {κ α : Type} {k : κ} {f : κ → SM α} {us : List U} : withK k f us = f k us := rfl
theorem hr39 : rngO rng1 (consO (some (U.int 39)) (some [])) = some ((List.range' 0 39).map fun i => U.int (i : Nat)) := by kernel_rfl
theorem l2_from {K : SM U} {u b : U} : (bindS (pureS (rngO rng1 (consO (some (U.int 39)) (some [])))) fun xs88 => m_law_right_l2 K xs88) [u, b, shU bR0 []] = K [u, b, FU] := by
  rw [hr39, bindS_pure]
  exact l2_all (K := K) (u := u) (b := b) 39 0 rfl
theorem right_ok {u : U} (hu : Urn u) : ∃ u', b0 m_law_right u [] = some (.bl true, u') := by
  have wA : Word "a" := wordB_ok (by decide +kernel)
  have e0 : ∀ us : List U, callS (mkI 23 (bI1 m_Shelf___init__)) (pureS (consO (some (U.str "a")) (some []))) us = some (shU bR0 [], us) := fun us => by
    rw [consO_s, callS_s rfl, init_s wA]
    rfl
  obtain ⟨u', hu', et⟩ := turns (rangeU 0 6) u hu
  refine ⟨u', ?_⟩
  have key : m_law_right [u] = some (.bl true, [u', BU, FU]) := by
    unfold m_law_right
    refine (bindS_s (e0 [u])).trans ?_
    refine (bindS_s (e0 [u])).trans ?_
    refine addS_p.trans (addS_p.trans (with_p.trans ?_))
    refine (bindS_s (x := [.tup [.str "b", .tup [.str "a"]], .tup [.str "c", .tup [.str "a"]], .tup [.str "d", .tup [.str "b", .str "c"]], .tup [.str "e", .tup [.str "c"]]]) (us1 := [u, shU bR0 [], shU bR0 []]) rfl).trans ?_
    refine l1_all.trans ?_
    refine with_p.trans ?_
    refine l2_from.trans ?_
    refine (bindS_s (x := [.str S1, .str S2]) (us1 := [u, BU, FU]) (consS_s shot_1 (consS_s shot_2 rfl))).trans ?_
    refine (congrFun (parS_p (a := .str S1) (b := .str S2)) _).trans (with_p.trans ?_)
    refine (bindS_s (x := rangeU 0 6) (us1 := [u, BU, FU]) rfl).trans ?_
    refine (et _).trans ?_
    show bindS (oddS 23 0 1 _) _ [u', BU, FU] = _
    refine (bindS_s odd_s).trans ?_
    have eI : orS (testS (opS isNotV (noX (methI 1 23 "put" (bI2 x_Shelf_put) (pureS (consO (some (U.str "new")) (consO (tupO (consO (some (U.str "d")) (consO (some (U.str "e")) (some [])))) (some [])))))) (pureS (some U.non)))) (orS (testS (opS isNotV (noX (methI 1 23 "take" (bI1 x_Shelf_take) (pureS (consO (some (U.str "new")) (some []))))) (pureS (some U.non)))) (testS (opS isNotV (noX (methI 1 23 "take" (bI1 x_Shelf_take) (pureS (consO (some (U.str "e")) (some []))))) (pureS (some U.non))))) [u', BU, FU] = some (false, [u', shU bR3 P3, FU]) := by
      rw [orS_s (testS_s' (opS_s m_put rfl rfl)), if_neg (by decide), orS_s (testS_s' (opS_s m_takeN rfl rfl)), if_neg (by decide)]
      exact testS_s' (opS_s m_takeE rfl rfl)
    refine (ifS_s eI).trans ((if_neg (by decide)).trans ?_)
    refine fin_s (us1 := [u', BU, FU]) ?_ ?_
    · exact eF
    · exact opS_s shot_1 rfl eq_ss
  show finS (m_law_right [u]) = _
  rw [key]
  simp [finS, hu'.own]
end K42
set_option Elab.async false
set_option linter.all false
set_option maxRecDepth 100000
set_option maxHeartbeats 2000000
namespace K42
open PySem L2 Dn
theorem maths (ns : List Int) (hl : ns.length ≤ 63) : m_law (.frl (ns.map U.int)) = some (.bl true) := by
  have el : callO lenV (consO (some (U.frl (ns.map U.int))) (some [])) = some (.int ns.length) := by simp [lenV]
  obtain ⟨m, em, hm⟩ : ∃ m : Nat, rngO rng1 (consO (callO maxA (consO (some (U.int 2)) (consO (callO minU (consO (callO lenV (consO (some (U.frl (ns.map U.int))) (some []))) (consO (some (U.int 4)) (some [])))) (some [])))) (some [])) = some (rangeU 0 m) ∧ m ≤ 1000 := by
    rw [el]
    have e1 : callO minU (consO (some (U.int ns.length)) (consO (some (U.int 4)) (some []))) = some (.int (if (4 : Int) < ns.length then 4 else ns.length)) := rfl
    rw [e1]
    generalize hq : (if (4 : Int) < ns.length then (4 : Int) else ns.length) = q
    have hq5 : q ≤ 5 ∧ 0 ≤ q := by subst hq; split <;> omega
    have e2 : callO maxA (consO (some (U.int 2)) (consO (some (U.int q)) (some []))) = some (.int (if q > 2 then q else 2)) := rfl
    rw [e2]
    generalize hz : (if q > 2 then q else 2) = z
    have hz5 : z ≤ 5 ∧ 0 ≤ z := by subst hz; split <;> omega
    refine ⟨z.toNat, ?_, by omega⟩
    show (if z ≤ 100000 ∧ -100000 ≤ z then some (rangeU 0 z.toNat) else none) = _
    rw [if_pos (by omega)]
  have hlim : lim = 100000 := rfl
  have hrl : (rangeU 0 m).length = m := by simp [rangeU]
  have hc : lcSL (fun u4 => (pureS (some true))) (fun u4 => (callF (b0 m_law_right) (callS (a2 m_law_purse) (pureS (consO (some (U.frl (ns.map U.int))) (consO (some u4) (some []))))) (pureS (some [])))) (rangeU 0 m) [] = some ((rangeU 0 m).map fun _ => U.bl true, []) := by
    refine lcSL_const (fun x us => rfl) (rangeU 0 m) [] fun x hx => ?_
    obtain ⟨i, hi, rfl⟩ := List.mem_map.mp hx
    rw [Int.zero_add]
    obtain ⟨u, eu, hu⟩ := purse_ok (t := i) hl
    obtain ⟨u', er⟩ := right_ok hu
    have e1 : callS (a2 m_law_purse) (pureS (consO (some (U.frl (ns.map U.int))) (consO (some (U.int i)) (some [])))) [] = some (u, []) := by
      show (m_law_purse (.frl (ns.map U.int)) (.int i)).map (fun x => (x, ([] : List U))) = _
      rw [eu]; rfl
    unfold callF
    rw [bindS_s e1, bindS_pure, er]
    rfl
  have e2 : m_lawS (.frl (ns.map U.int)) [] = some (.bl true, []) := by
    unfold m_lawS
    rw [em]
    have e3 : lcS (fun u4 => (pureS (some true))) (fun u4 => (callF (b0 m_law_right) (callS (a2 m_law_purse) (pureS (consO (some (U.frl (ns.map U.int))) (consO (some u4) (some []))))) (pureS (some [])))) (pureS (some (rangeU 0 m))) [] = some (.frl ((rangeU 0 m).map fun _ => U.bl true), []) := by
      unfold lcS
      rw [bindS_pure, if_pos (by omega), bindS_s hc]
      rfl
    have e4 : keepN (lcS (fun u4 => (pureS (some true))) (fun u4 => (callF (b0 m_law_right) (callS (a2 m_law_purse) (pureS (consO (some (U.frl (ns.map U.int))) (consO (some u4) (some []))))) (pureS (some [])))) (pureS (some (rangeU 0 m)))) [] = some (.lst ((rangeU 0 m).map fun _ => U.bl true), []) := by
      unfold keepN
      rw [bindS_s e3]
      rfl
    rw [callS_s (consS_s e4 rfl), all_map (p := fun _ => true)]
    simp
  show (m_lawS (.frl (ns.map U.int)) []).map Prod.fst = _
  rw [e2]
  rfl
end K42
set_option Elab.async false
set_option linter.all false
set_option maxRecDepth 100000
set_option maxHeartbeats 2000000
namespace Dn
open PySem L2 PySem.Spec PyProof.Rows He HandSHeadRun
theorem fnW_ok {K : PySem.W.Frag} {f : Addr} {x qual : Str} {st : Stmt} (e : fnW K f = fnE x qual st) : ∃ oc od osl kV doc pm an ct, K.lookup f = some ⟨oc, od, .func (PySem.W.fnOf x qual (defArgs st) (defBody st) (defScope st) (dfV K f) kV doc pm an (cdV K f) ct), osl⟩ := by
  unfold fnW at e
  unfold dfV cdV
  cases q : K.lookup f with
  | none => rw [q] at e; cases e
  | some o =>
    obtain ⟨oc, od, dt, osl⟩ := o
    rw [q] at e
    cases dt with
    | func fd =>
      obtain ⟨n1, n2, n3, n4, n5, n6, n7, n8, n9, n10, n11, n12, n13, n14, n15⟩ := fd
      have e2 : (some (n1, n2, n3, n4, n5, n6, n7, n15) : FnW) = some (x, qual, defArgs st, .stmts (defBody st), defScope st, mainGlobals, [], builtinsNs) := e
      simp only [Option.some.injEq, Prod.mk.injEq] at e2
      obtain ⟨h1, h2, h3, h4, h5, h6, h7, h9⟩ := e2
      subst h1 h2 h3 h4 h5 h6 h7 h9
      exact ⟨oc, od, osl, n9, n10, n11, n12, n14, rfl⟩
    | _ => cases e
theorem fnW_no {K : PySem.W.Frag} {f : Addr} {x qual : Str} {st : Stmt} (e : fnW K f = fnE x qual st) (d : dfV K f = .none) : ∃ oc od osl kV doc pm an ct, K.lookup f = some ⟨oc, od, .func (PySem.W.fnOf x qual (defArgs st) (defBody st) (defScope st) .none kV doc pm an (cdV K f) ct), osl⟩ := by
  have h := fnW_ok e
  rw [d] at h
  exact h
theorem eqVal_ok {a b : Value} (h : eqVal a b = true) : a = b := of_decide_eq_true h
theorem lamB_ok {K : PySem.W.Frag} {f c p : Addr} (h : lamB K f c p = true) : cdV K f = .ref c ∧ (∃ e d vs sl, K.lookup c = some ⟨e, d, .fields vs, sl⟩ ∧ vs[11]? = some (.ref p)) ∧ K.lookup p = none := by
  unfold lamB at h
  simp only [Bool.and_eq_true] at h
  obtain ⟨⟨h1, h2⟩, h3⟩ := h
  refine ⟨eqVal_ok h1, ?_, by simpa using h3⟩
  split at h2
  · rename_i e d vs sl hk
    split at h2
    · rename_i v hv
      exact ⟨e, d, vs, sl, hk, by rw [hv, eqVal_ok h2]⟩
    · cases h2
  · cases h2
theorem prB_ok {K : PySem.W.Frag} {p f : Addr} (h : prB K p f = true) : ∃ rs, PySem.W.recIn K p "property" = some (.ref f :: rs) := by
  unfold prB at h
  split at h
  · rename_i v rs hk
    exact ⟨rs, by rw [hk, eqVal_ok h]⟩
  · cases h
theorem intB_ok {K : PySem.W.Frag} {x : Str} {i : Int} (h : intB K x i = true) : ∃ t, PySem.W.nsIn K mainGlobals x = some (some (.int i t)) := by
  unfold intB at h
  split at h
  · rename_i j t e
    have := of_decide_eq_true h
    subst this
    exact ⟨t, e⟩
  · cases h
theorem strB_ok {K : PySem.W.Frag} {x z : Str} (h : strB K x z = true) : ∃ t, PySem.W.nsIn K mainGlobals x = some (some (.str z t)) := by
  unfold strB at h
  split at h
  · rename_i j t e
    have := of_decide_eq_true h
    subst this
    exact ⟨t, e⟩
  · cases h
theorem walk_lawE {l : PySem.W.OpenLaw} {k : Nat} {q : Program} {loose : List Str} {XP : (Str → Option Value) → Heap → Prop} {YP : World → Heap → Prop} {d : DefRec} {x : Str}
    (hn : l.most = some 63) (df : d.params.defaults = []) (hr : Room k callerA) (hI : importsNone q = true)
    (F : ∀ (w : World) (mg : Str → Option Value) (fa : Addr) (h : Heap), YP w h → AllTab q mg h → h.Ns mainGlobals mg → mg d.name = some (.ref fa) → ∃ K : PySem.W.Frag, K.In h ∧ noList K = true ∧ LawAt l w K k x mg fa h) :
    PySem.W.WalkO q loose XP YP l.row.toRowW d [] (fun f vs => PySem.call f vs) := by
  refine Att.attach_call hn df fun w s0 s1 mg mb fa o pm cd doc a vs ns G Y ho hd hcd hmg ha hi hlen g0 => ?_
  obtain ⟨K, KX, hL, fd, ct, cs, tt, et, hb, hF⟩ := F w mg fa _ Y G.T.tab G.T.g hmg
  refine law_callG KX G.T.g G.T.b G.T.builtins G.T.nolimit (let ⟨m, h, _⟩ := (G.T.seer hI).mods; ⟨m, h⟩) g0 tt G.T.bmain ha hi (Nat.le_trans hlen (by decide)) hr hF hb (fun H hH => ?_) fun H e s2 h => h
  obtain ⟨hS, h1, h2, hO⟩ := hH
  have fr : ∃ o, H a = some (.frz o (.lst (ns.map V.int))) := by
    rcases noList_sq hL hS with y | ⟨ob, y⟩
    · rcases hO a with z | z | ⟨_, _, z⟩
      · rw [z] at y; cases y
      · obtain ⟨p, hp, e⟩ := List.mem_map.mp z
        have z1 := h1 p hp
        rw [e, y] at z1; cases z1
      · rw [z] at y; cases y
    · exact ⟨ob, y⟩
  obtain ⟨ob, fr⟩ := fr
  refine ⟨a, ob, ns, rfl, fr, hlen, fun P hP => ?_, fun b ps e => ?_, fun _ => rfl⟩
  · have hm : P.1 ∈ cs.map (·.2) := by rw [← et]; exact List.mem_map.mpr ⟨P, hP, rfl⟩
    obtain ⟨p, hp, e⟩ := List.mem_map.mp hm
    exact LamX.TabS.nil (by rw [← e]; exact h1 p hp)
  · rw [et]
    exact h2 b ps e
theorem def_of {K : PySem.W.Frag} {f : Addr} {x qual : Str} {st : Stmt} (c : ckDef K f qual = true) (e : fnW K f = fnE x qual st) :
    ∃ fd : FuncData, Fun K x qual st f fd ∧ (∃ o, K.lookup f = some o ∧ o.data = .func fd) ∧ fd.code = cdV K f ∧ PySem.W.keepIn K (.ref f) = true ∧
      ∃ kV doc pm an ct, fd = PySem.W.fnOf x qual (defArgs st) (defBody st) (defScope st) .none kV doc pm an (cdV K f) ct := by
  obtain ⟨c1, c⟩ := He.ba c
  obtain ⟨c2, c3⟩ := He.ba c
  obtain ⟨oc, od, osl, kV, doc, pm, an, ct, l⟩ := fnW_no e (eqVal_ok c1)
  exact ⟨_, fun_mk l c2 c3, ⟨_, l, rfl⟩, rfl, c3, kV, doc, pm, an, ct, rfl⟩
theorem nth_of {l : List Nat} {vs : List FnW} {K : PySem.W.Frag} (h : l.map (fnW K) = vs) (i : Nat) {f : Nat} {v : FnW} (hf : l[i]? = some f) (hv : vs[i]? = some v) : fnW K f = v := by
  have : (l.map (fnW K))[i]? = some v := by rw [h]; exact hv
  rw [List.getElem?_map, hf] at this
  exact Option.some.inj this
end Dn
set_option Elab.async false
set_option linter.all false
set_option maxRecDepth 100000
set_option maxHeartbeats 4000000
namespace K42
open PySem L2 Dn
set_option maxHeartbeats 0 in
theorem all_mk {l : PySem.W.OpenLaw} {w : World} {K : PySem.W.Frag} {h : Heap} {mg : Str → Option Value} {fa : Addr} {qq : Program} (TB : AllTab qq mg h) (X : K.In h) (G : h.Ns mainGlobals mg) (hfa : mg "law" = some (.ref fa)) {A : List Nat}
    (lr49 : ((PyProof.Rows.recsOf qq).any fun e => e.name == "_law_right") = true)
    (hc : facts K A = true) (hf : (fnsA A).map (fnW K) = valN) : noList K = true ∧ LawAt l w K 14 "_law_script" mg fa h := by
  unfold facts at hc
  unfold fnsA valN at hf
  obtain ⟨hp1_0, hq1_0⟩ := He.ba hc
  unfold facts0 at hp1_0
  obtain ⟨hx1, hx2⟩ := He.ba hp1_0
  obtain ⟨hx3, hx4⟩ := He.ba hx1
  obtain ⟨hx5, hx6⟩ := He.ba hx3
  obtain ⟨hx7, hx8⟩ := He.ba hx5
  obtain ⟨hx9, hx10⟩ := He.ba hx7
  obtain ⟨hx11, hx12⟩ := He.ba hx9
  have aC1_b := hx11
  obtain ⟨hx13, hx14⟩ := He.ba hx12
  have aC2_b := hx13
  have aC3_b := hx14
  obtain ⟨hx15, hx16⟩ := He.ba hx10
  obtain ⟨hx17, hx18⟩ := He.ba hx15
  have aC4_b := hx17
  have aC5_b := hx18
  obtain ⟨hx19, hx20⟩ := He.ba hx16
  have aC6_b := hx19
  have aC7_b := hx20
  obtain ⟨hx21, hx22⟩ := He.ba hx8
  obtain ⟨hx23, hx24⟩ := He.ba hx21
  obtain ⟨hx25, hx26⟩ := He.ba hx23
  have aC8_b := hx25
  have aC9_b := hx26
  obtain ⟨hx27, hx28⟩ := He.ba hx24
  have aC10_b := hx27
  have aC11_b := hx28
  obtain ⟨hx29, hx30⟩ := He.ba hx22
  obtain ⟨hx31, hx32⟩ := He.ba hx29
  have aC12_b := hx31
  have aC13_b := hx32
  obtain ⟨hx33, hx34⟩ := He.ba hx30
  have aC14_b := hx33
  have aC15_b := hx34
  obtain ⟨hx35, hx36⟩ := He.ba hx6
  obtain ⟨hx37, hx38⟩ := He.ba hx35
  obtain ⟨hx39, hx40⟩ := He.ba hx37
  have aC16_b := hx39
  obtain ⟨hx41, hx42⟩ := He.ba hx40
  have aC17_b := hx41
  have aC18_b := hx42
  obtain ⟨hx43, hx44⟩ := He.ba hx38
  obtain ⟨hx45, hx46⟩ := He.ba hx43
  have aC19_b := hx45
  have aC20_b := hx46
  obtain ⟨hx47, hx48⟩ := He.ba hx44
  have aC21_b := hx47
  have aC22_b := hx48
  obtain ⟨hx49, hx50⟩ := He.ba hx36
  obtain ⟨hx51, hx52⟩ := He.ba hx49
  obtain ⟨hx53, hx54⟩ := He.ba hx51
  have xoVE_ := hx53
  have xoAE_ := hx54
  obtain ⟨hx55, hx56⟩ := He.ba hx52
  have x0AE_ := hx55
  have on__b := hx56
  obtain ⟨hx57, hx58⟩ := He.ba hx50
  obtain ⟨hx59, hx60⟩ := He.ba hx57
  have ot__b := hx59
  have cls_ := hx60
  obtain ⟨hx61, hx62⟩ := He.ba hx58
  have aC0_b := hx61
  have pg0 := hx62
  obtain ⟨hx63, hx64⟩ := He.ba hx4
  obtain ⟨hx65, hx66⟩ := He.ba hx63
  obtain ⟨hx67, hx68⟩ := He.ba hx65
  obtain ⟨hx69, hx70⟩ := He.ba hx67
  have hd0 := hx69
  obtain ⟨hx71, hx72⟩ := He.ba hx70
  have po0 := hx71
  have sa0_b := hx72
  obtain ⟨hx73, hx74⟩ := He.ba hx68
  obtain ⟨hx75, hx76⟩ := He.ba hx73
  have mk0 := hx75
  have kc0 := hx76
  obtain ⟨hx77, hx78⟩ := He.ba hx74
  have aC23_b := hx77
  have pg23 := hx78
  obtain ⟨hx79, hx80⟩ := He.ba hx66
  obtain ⟨hx81, hx82⟩ := He.ba hx79
  obtain ⟨hx83, hx84⟩ := He.ba hx81
  have hd23 := hx83
  have po23 := hx84
  obtain ⟨hx85, hx86⟩ := He.ba hx82
  have sa23_b := hx85
  have mk23 := hx86
  obtain ⟨hx87, hx88⟩ := He.ba hx80
  obtain ⟨hx89, hx90⟩ := He.ba hx87
  have kc23 := hx89
  have a26_b := hx90
  obtain ⟨hx91, hx92⟩ := He.ba hx88
  have c26 := hx91
  have a29_b := hx92
  obtain ⟨hx93, hx94⟩ := He.ba hx64
  obtain ⟨hx95, hx96⟩ := He.ba hx93
  obtain ⟨hx97, hx98⟩ := He.ba hx95
  obtain ⟨hx99, hx100⟩ := He.ba hx97
  have c29 := hx99
  have a30_b := hx100
  obtain ⟨hx101, hx102⟩ := He.ba hx98
  have c30 := hx101
  have a31_b := hx102
  obtain ⟨hx103, hx104⟩ := He.ba hx96
  obtain ⟨hx105, hx106⟩ := He.ba hx103
  have c31 := hx105
  have a32_b := hx106
  obtain ⟨hx107, hx108⟩ := He.ba hx104
  have c32 := hx107
  have a33_b := hx108
  obtain ⟨hx109, hx110⟩ := He.ba hx94
  obtain ⟨hx111, hx112⟩ := He.ba hx109
  obtain ⟨hx113, hx114⟩ := He.ba hx111
  have c33 := hx113
  have a35_b := hx114
  obtain ⟨hx115, hx116⟩ := He.ba hx112
  have c35 := hx115
  have a36_b := hx116
  obtain ⟨hx117, hx118⟩ := He.ba hx110
  obtain ⟨hx119, hx120⟩ := He.ba hx117
  have c36 := hx119
  have a1000_b := hx120
  obtain ⟨hx121, hx122⟩ := He.ba hx118
  have i1000 := hx121
  have c1000 := hx122
  obtain ⟨hx123, hx124⟩ := He.ba hx2
  obtain ⟨hx125, hx126⟩ := He.ba hx123
  obtain ⟨hx127, hx128⟩ := He.ba hx125
  obtain ⟨hx129, hx130⟩ := He.ba hx127
  obtain ⟨hx131, hx132⟩ := He.ba hx129
  have a37_b := hx131
  obtain ⟨hx133, hx134⟩ := He.ba hx132
  have c37 := hx133
  have a39_b := hx134
  obtain ⟨hx135, hx136⟩ := He.ba hx130
  obtain ⟨hx137, hx138⟩ := He.ba hx135
  have c39 := hx137
  have a1700_b := hx138
  obtain ⟨hx139, hx140⟩ := He.ba hx136
  have i1700 := hx139
  have c1700 := hx140
  obtain ⟨hx141, hx142⟩ := He.ba hx128
  obtain ⟨hx143, hx144⟩ := He.ba hx141
  obtain ⟨hx145, hx146⟩ := He.ba hx143
  have ap1001_b := hx145
  have gp1001_b := hx146
  obtain ⟨hx147, hx148⟩ := He.ba hx144
  have tp1001_b := hx147
  have rp1001_b := hx148
  obtain ⟨hx149, hx150⟩ := He.ba hx142
  obtain ⟨hx151, hx152⟩ := He.ba hx149
  have c1001 := hx151
  have ap1002_b := hx152
  obtain ⟨hx153, hx154⟩ := He.ba hx150
  have gp1002_b := hx153
  have tp1002_b := hx154
  obtain ⟨hx155, hx156⟩ := He.ba hx126
  obtain ⟨hx157, hx158⟩ := He.ba hx155
  obtain ⟨hx159, hx160⟩ := He.ba hx157
  obtain ⟨hx161, hx162⟩ := He.ba hx159
  have rp1002_b := hx161
  have c1002 := hx162
  obtain ⟨hx163, hx164⟩ := He.ba hx160
  have ap1003_b := hx163
  have gp1003_b := hx164
  obtain ⟨hx165, hx166⟩ := He.ba hx158
  obtain ⟨hx167, hx168⟩ := He.ba hx165
  have tp1003_b := hx167
  have rp1003_b := hx168
  obtain ⟨hx169, hx170⟩ := He.ba hx166
  have c1003 := hx169
  have ap1004_b := hx170
  obtain ⟨hx171, hx172⟩ := He.ba hx156
  obtain ⟨hx173, hx174⟩ := He.ba hx171
  obtain ⟨hx175, hx176⟩ := He.ba hx173
  have gp1004_b := hx175
  have tp1004_b := hx176
  obtain ⟨hx177, hx178⟩ := He.ba hx174
  have rp1004_b := hx177
  have c1004 := hx178
  obtain ⟨hx179, hx180⟩ := He.ba hx172
  obtain ⟨hx181, hx182⟩ := He.ba hx179
  have a1005_b := hx181
  have i1005 := hx182
  obtain ⟨hx183, hx184⟩ := He.ba hx180
  have c1005 := hx183
  have a1006_b := hx184
  obtain ⟨hx185, hx186⟩ := He.ba hx124
  obtain ⟨hx187, hx188⟩ := He.ba hx185
  obtain ⟨hx189, hx190⟩ := He.ba hx187
  obtain ⟨hx191, hx192⟩ := He.ba hx189
  have i1006 := hx191
  obtain ⟨hx193, hx194⟩ := He.ba hx192
  have c1006 := hx193
  have a1300_b := hx194
  obtain ⟨hx195, hx196⟩ := He.ba hx190
  obtain ⟨hx197, hx198⟩ := He.ba hx195
  have i1300 := hx197
  have c1300 := hx198
  obtain ⟨hx199, hx200⟩ := He.ba hx196
  have a2000_b := hx199
  have i2000 := hx200
  obtain ⟨hx201, hx202⟩ := He.ba hx188
  obtain ⟨hx203, hx204⟩ := He.ba hx201
  obtain ⟨hx205, hx206⟩ := He.ba hx203
  have c2000 := hx205
  have a2600_b := hx206
  obtain ⟨hx207, hx208⟩ := He.ba hx204
  have i2600 := hx207
  have c2600 := hx208
  obtain ⟨hx209, hx210⟩ := He.ba hx202
  obtain ⟨hx211, hx212⟩ := He.ba hx209
  have a2700_b := hx211
  have i2700 := hx212
  obtain ⟨hx213, hx214⟩ := He.ba hx210
  have c2700 := hx213
  have a1007_b := hx214
  obtain ⟨hx215, hx216⟩ := He.ba hx186
  obtain ⟨hx217, hx218⟩ := He.ba hx215
  obtain ⟨hx219, hx220⟩ := He.ba hx217
  obtain ⟨hx221, hx222⟩ := He.ba hx219
  have i1007 := hx221
  have c1007 := hx222
  obtain ⟨hx223, hx224⟩ := He.ba hx220
  have a1008_b := hx223
  have i1008 := hx224
  obtain ⟨hx225, hx226⟩ := He.ba hx218
  obtain ⟨hx227, hx228⟩ := He.ba hx225
  have c1008 := hx227
  have a1009_b := hx228
  obtain ⟨hx229, hx230⟩ := He.ba hx226
  have i1009 := hx229
  have c1009 := hx230
  obtain ⟨hx231, hx232⟩ := He.ba hx216
  obtain ⟨hx233, hx234⟩ := He.ba hx231
  obtain ⟨hx235, hx236⟩ := He.ba hx233
  have a1010_b := hx235
  have i1010 := hx236
  obtain ⟨hx237, hx238⟩ := He.ba hx234
  have c1010 := hx237
  have a1011_b := hx238
  obtain ⟨hx239, hx240⟩ := He.ba hx232
  obtain ⟨hx241, hx242⟩ := He.ba hx239
  have i1011 := hx241
  have c1011 := hx242
  obtain ⟨hx243, hx244⟩ := He.ba hx240
  have a3300_b := hx243
  have i3300 := hx244
  unfold facts1 at hq1_0
  obtain ⟨hx245, hx246⟩ := He.ba hq1_0
  obtain ⟨hx247, hx248⟩ := He.ba hx245
  obtain ⟨hx249, hx250⟩ := He.ba hx247
  obtain ⟨hx251, hx252⟩ := He.ba hx249
  obtain ⟨hx253, hx254⟩ := He.ba hx251
  obtain ⟨hx255, hx256⟩ := He.ba hx253
  have c3300 := hx255
  obtain ⟨hx257, hx258⟩ := He.ba hx256
  have ap3301_b := hx257
  have gp3301_b := hx258
  obtain ⟨hx259, hx260⟩ := He.ba hx254
  obtain ⟨hx261, hx262⟩ := He.ba hx259
  have tp3301_b := hx261
  have rp3301_b := hx262
  obtain ⟨hx263, hx264⟩ := He.ba hx260
  have c3301 := hx263
  have ap3302_b := hx264
  obtain ⟨hx265, hx266⟩ := He.ba hx252
  obtain ⟨hx267, hx268⟩ := He.ba hx265
  obtain ⟨hx269, hx270⟩ := He.ba hx267
  have gp3302_b := hx269
  have tp3302_b := hx270
  obtain ⟨hx271, hx272⟩ := He.ba hx268
  have rp3302_b := hx271
  have c3302 := hx272
  obtain ⟨hx273, hx274⟩ := He.ba hx266
  obtain ⟨hx275, hx276⟩ := He.ba hx273
  have a3303_b := hx275
  have i3303 := hx276
  obtain ⟨hx277, hx278⟩ := He.ba hx274
  have c3303 := hx277
  have a3304_b := hx278
  obtain ⟨hx279, hx280⟩ := He.ba hx250
  obtain ⟨hx281, hx282⟩ := He.ba hx279
  obtain ⟨hx283, hx284⟩ := He.ba hx281
  have i3304 := hx283
  obtain ⟨hx285, hx286⟩ := He.ba hx284
  have c3304 := hx285
  have a3305_b := hx286
  obtain ⟨hx287, hx288⟩ := He.ba hx282
  obtain ⟨hx289, hx290⟩ := He.ba hx287
  have i3305 := hx289
  have c3305 := hx290
  obtain ⟨hx291, hx292⟩ := He.ba hx288
  have a3306_b := hx291
  have i3306 := hx292
  obtain ⟨hx293, hx294⟩ := He.ba hx280
  obtain ⟨hx295, hx296⟩ := He.ba hx293
  obtain ⟨hx297, hx298⟩ := He.ba hx295
  have c3306 := hx297
  have a3307_b := hx298
  obtain ⟨hx299, hx300⟩ := He.ba hx296
  have i3307 := hx299
  have c3307 := hx300
  obtain ⟨hx301, hx302⟩ := He.ba hx294
  obtain ⟨hx303, hx304⟩ := He.ba hx301
  have a43_b := hx303
  have c43 := hx304
  obtain ⟨hx305, hx306⟩ := He.ba hx302
  have a44_b := hx305
  have c44 := hx306
  obtain ⟨hx307, hx308⟩ := He.ba hx248
  obtain ⟨hx309, hx310⟩ := He.ba hx307
  obtain ⟨hx311, hx312⟩ := He.ba hx309
  obtain ⟨hx313, hx314⟩ := He.ba hx311
  have a46_b := hx313
  obtain ⟨hx315, hx316⟩ := He.ba hx314
  have c46 := hx315
  have a47_b := hx316
  obtain ⟨hx317, hx318⟩ := He.ba hx312
  obtain ⟨hx319, hx320⟩ := He.ba hx317
  have c47 := hx319
  have a48_b := hx320
  obtain ⟨hx321, hx322⟩ := He.ba hx318
  have c48 := hx321
  have a45_b := hx322
  obtain ⟨hx323, hx324⟩ := He.ba hx310
  obtain ⟨hx325, hx326⟩ := He.ba hx323
  obtain ⟨hx327, hx328⟩ := He.ba hx325
  have c45 := hx327
  have a49_b := hx328
  obtain ⟨hx329, hx330⟩ := He.ba hx326
  have c49 := hx329
  have lm49 := hx330
  obtain ⟨hx331, hx332⟩ := He.ba hx324
  obtain ⟨hx333, hx334⟩ := He.ba hx331
  have a50_b := hx333
  have c50 := hx334
  obtain ⟨hx335, hx336⟩ := He.ba hx332
  have z_isinstance_b := hx335
  have z_str_b := hx336
  obtain ⟨hx337, hx338⟩ := He.ba hx308
  obtain ⟨hx339, hx340⟩ := He.ba hx337
  obtain ⟨hx341, hx342⟩ := He.ba hx339
  obtain ⟨hx343, hx344⟩ := He.ba hx341
  have z_len_b := hx343
  have z_all_b := hx344
  obtain ⟨hx345, hx346⟩ := He.ba hx342
  have z_tuple_b := hx345
  have z_set_b := hx346
  obtain ⟨hx347, hx348⟩ := He.ba hx340
  obtain ⟨hx349, hx350⟩ := He.ba hx347
  have z_any_b := hx349
  have z_int_b := hx350
  obtain ⟨hx351, hx352⟩ := He.ba hx348
  have z_abs_b := hx351
  have z_divmod_b := hx352
  obtain ⟨hx353, hx354⟩ := He.ba hx338
  obtain ⟨hx355, hx356⟩ := He.ba hx353
  obtain ⟨hx357, hx358⟩ := He.ba hx355
  have z_repr_b := hx357
  have z_range_b := hx358
  obtain ⟨hx359, hx360⟩ := He.ba hx356
  have z_min_b := hx359
  have z_max_b := hx360
  obtain ⟨hx361, hx362⟩ := He.ba hx354
  obtain ⟨hx363, hx364⟩ := He.ba hx361
  have n_LETTERS_b := hx363
  have n_MOST_COPIES_b := hx364
  obtain ⟨hx365, hx366⟩ := He.ba hx362
  have qn_Shelf_now_kept_b := hx365
  have qn_Shelf_past_b := hx366
  obtain ⟨hx367, hx368⟩ := He.ba hx246
  obtain ⟨hx369, hx370⟩ := He.ba hx367
  obtain ⟨hx371, hx372⟩ := He.ba hx369
  obtain ⟨hx373, hx374⟩ := He.ba hx371
  obtain ⟨hx375, hx376⟩ := He.ba hx373
  have oh0_b := hx375
  obtain ⟨hx377, hx378⟩ := He.ba hx376
  have on0_b := hx377
  have ot0_b := hx378
  obtain ⟨hx379, hx380⟩ := He.ba hx374
  obtain ⟨hx381, hx382⟩ := He.ba hx379
  have om0_b := hx381
  have oe0_b := hx382
  obtain ⟨hx383, hx384⟩ := He.ba hx380
  have ob0_b := hx383
  have ol0_b := hx384
  obtain ⟨hx385, hx386⟩ := He.ba hx372
  obtain ⟨hx387, hx388⟩ := He.ba hx385
  obtain ⟨hx389, hx390⟩ := He.ba hx387
  have oc0__b := hx389
  have qn_Web_written_b := hx390
  obtain ⟨hx391, hx392⟩ := He.ba hx388
  have qn_Web_rows_b := hx391
  have qn_Web_heads_b := hx392
  obtain ⟨hx393, hx394⟩ := He.ba hx386
  obtain ⟨hx395, hx396⟩ := He.ba hx393
  have qn_Web_pairs_b := hx395
  have qn_Web_zigzag_rows_b := hx396
  obtain ⟨hx397, hx398⟩ := He.ba hx394
  have kt_Broken_b := hx397
  have kt_FullSource_b := hx398
  obtain ⟨hx399, hx400⟩ := He.ba hx370
  obtain ⟨hx401, hx402⟩ := He.ba hx399
  obtain ⟨hx403, hx404⟩ := He.ba hx401
  obtain ⟨hx405, hx406⟩ := He.ba hx403
  have kt_InUse_b := hx405
  have kt_InvalidChoice_b := hx406
  obtain ⟨hx407, hx408⟩ := He.ba hx404
  have kt_InvalidClaim_b := hx407
  have kt_InvalidFreed_b := hx408
  obtain ⟨hx409, hx410⟩ := He.ba hx402
  obtain ⟨hx411, hx412⟩ := He.ba hx409
  have kt_InvalidIndex_b := hx411
  have kt_InvalidName_b := hx412
  obtain ⟨hx413, hx414⟩ := He.ba hx410
  have kt_InvalidNumber_b := hx413
  have kt_InvalidOffers_b := hx414
  obtain ⟨hx415, hx416⟩ := He.ba hx400
  obtain ⟨hx417, hx418⟩ := He.ba hx415
  obtain ⟨hx419, hx420⟩ := He.ba hx417
  have kt_InvalidSources_b := hx419
  have kt_InvalidText_b := hx420
  obtain ⟨hx421, hx422⟩ := He.ba hx418
  have kt_InvalidTold_b := hx421
  have kt_InvalidWeights_b := hx422
  obtain ⟨hx423, hx424⟩ := He.ba hx416
  obtain ⟨hx425, hx426⟩ := He.ba hx423
  have kt_NoAnswer_b := hx425
  have kt_NoChoice_b := hx426
  obtain ⟨hx427, hx428⟩ := He.ba hx424
  have kt_NotAShelf_b := hx427
  have kt_NotAWeb_b := hx428
  obtain ⟨hx429, hx430⟩ := He.ba hx368
  obtain ⟨hx431, hx432⟩ := He.ba hx429
  obtain ⟨hx433, hx434⟩ := He.ba hx431
  obtain ⟨hx435, hx436⟩ := He.ba hx433
  have kt_NothingToUndo_b := hx435
  obtain ⟨hx437, hx438⟩ := He.ba hx436
  have kt_TooMany_b := hx437
  have kt_UnknownName_b := hx438
  obtain ⟨hx439, hx440⟩ := He.ba hx434
  obtain ⟨hx441, hx442⟩ := He.ba hx439
  have kt_WrongValue_b := hx441
  have xb_FullSource_b := hx442
  obtain ⟨hx443, hx444⟩ := He.ba hx440
  have xy_FullSource_b := hx443
  have xb_InvalidName_b := hx444
  obtain ⟨hx445, hx446⟩ := He.ba hx432
  obtain ⟨hx447, hx448⟩ := He.ba hx445
  obtain ⟨hx449, hx450⟩ := He.ba hx447
  have xy_InvalidName_b := hx449
  have xb_InvalidSources_b := hx450
  obtain ⟨hx451, hx452⟩ := He.ba hx448
  have xy_InvalidSources_b := hx451
  have xb_NothingToUndo_b := hx452
  obtain ⟨hx453, hx454⟩ := He.ba hx446
  obtain ⟨hx455, hx456⟩ := He.ba hx453
  have xy_NothingToUndo_b := hx455
  have xb_TooMany_b := hx456
  obtain ⟨hx457, hx458⟩ := He.ba hx454
  have xy_TooMany_b := hx457
  have xb_UnknownName_b := hx458
  obtain ⟨hx459, hx460⟩ := He.ba hx430
  obtain ⟨hx461, hx462⟩ := He.ba hx459
  obtain ⟨hx463, hx464⟩ := He.ba hx461
  obtain ⟨hx465, hx466⟩ := He.ba hx463
  have xy_UnknownName_b := hx465
  have hx__b := hx466
  obtain ⟨hx467, hx468⟩ := He.ba hx464
  have oh23_b := hx467
  have on23_b := hx468
  obtain ⟨hx469, hx470⟩ := He.ba hx462
  obtain ⟨hx471, hx472⟩ := He.ba hx469
  have ot23_b := hx471
  have om23_b := hx472
  obtain ⟨hx473, hx474⟩ := He.ba hx470
  have iq23_b := hx473
  have in23_b := hx474
  obtain ⟨hx475, hx476⟩ := He.ba hx460
  obtain ⟨hx477, hx478⟩ := He.ba hx475
  obtain ⟨hx479, hx480⟩ := He.ba hx477
  have dk23_b := hx479
  have dl23_b := hx480
  obtain ⟨hx481, hx482⟩ := He.ba hx478
  have dd23__b := hx481
  have ds23_b := hx482
  obtain ⟨hx483, hx484⟩ := He.ba hx476
  obtain ⟨hx485, hx486⟩ := He.ba hx483
  have dn23_b := hx485
  have dw23_b := hx486
  obtain ⟨hx487, hx488⟩ := He.ba hx484
  have dv23_b := hx487
  have nol := hx488
  have aC1 : PySem.W.nsIn K mainGlobals "InvalidText" = some (some (.ref (A.getD 1 0))) := of_decide_eq_true aC1_b
  have aC2 : PySem.W.nsIn K mainGlobals "InvalidNumber" = some (some (.ref (A.getD 2 0))) := of_decide_eq_true aC2_b
  have aC3 : PySem.W.nsIn K mainGlobals "InvalidName" = some (some (.ref (A.getD 3 0))) := of_decide_eq_true aC3_b
  have aC4 : PySem.W.nsIn K mainGlobals "InvalidIndex" = some (some (.ref (A.getD 4 0))) := of_decide_eq_true aC4_b
  have aC5 : PySem.W.nsIn K mainGlobals "InvalidClaim" = some (some (.ref (A.getD 5 0))) := of_decide_eq_true aC5_b
  have aC6 : PySem.W.nsIn K mainGlobals "InvalidChoice" = some (some (.ref (A.getD 6 0))) := of_decide_eq_true aC6_b
  have aC7 : PySem.W.nsIn K mainGlobals "UnknownName" = some (some (.ref (A.getD 7 0))) := of_decide_eq_true aC7_b
  have aC8 : PySem.W.nsIn K mainGlobals "NotAWeb" = some (some (.ref (A.getD 8 0))) := of_decide_eq_true aC8_b
  have aC9 : PySem.W.nsIn K mainGlobals "NotAShelf" = some (some (.ref (A.getD 9 0))) := of_decide_eq_true aC9_b
  have aC10 : PySem.W.nsIn K mainGlobals "InvalidSources" = some (some (.ref (A.getD 10 0))) := of_decide_eq_true aC10_b
  have aC11 : PySem.W.nsIn K mainGlobals "InvalidTold" = some (some (.ref (A.getD 11 0))) := of_decide_eq_true aC11_b
  have aC12 : PySem.W.nsIn K mainGlobals "InvalidWeights" = some (some (.ref (A.getD 12 0))) := of_decide_eq_true aC12_b
  have aC13 : PySem.W.nsIn K mainGlobals "InvalidOffers" = some (some (.ref (A.getD 13 0))) := of_decide_eq_true aC13_b
  have aC14 : PySem.W.nsIn K mainGlobals "InvalidFreed" = some (some (.ref (A.getD 14 0))) := of_decide_eq_true aC14_b
  have aC15 : PySem.W.nsIn K mainGlobals "NoChoice" = some (some (.ref (A.getD 15 0))) := of_decide_eq_true aC15_b
  have aC16 : PySem.W.nsIn K mainGlobals "TooMany" = some (some (.ref (A.getD 16 0))) := of_decide_eq_true aC16_b
  have aC17 : PySem.W.nsIn K mainGlobals "FullSource" = some (some (.ref (A.getD 17 0))) := of_decide_eq_true aC17_b
  have aC18 : PySem.W.nsIn K mainGlobals "Broken" = some (some (.ref (A.getD 18 0))) := of_decide_eq_true aC18_b
  have aC19 : PySem.W.nsIn K mainGlobals "InUse" = some (some (.ref (A.getD 19 0))) := of_decide_eq_true aC19_b
  have aC20 : PySem.W.nsIn K mainGlobals "NothingToUndo" = some (some (.ref (A.getD 20 0))) := of_decide_eq_true aC20_b
  have aC21 : PySem.W.nsIn K mainGlobals "WrongValue" = some (some (.ref (A.getD 21 0))) := of_decide_eq_true aC21_b
  have aC22 : PySem.W.nsIn K mainGlobals "NoAnswer" = some (some (.ref (A.getD 22 0))) := of_decide_eq_true aC22_b
  have on_ : PySem.W.specialIn K (.builtin "object.__class__") "__get__" = some (some (.builtin "getset_descriptor.__get__")) := of_decide_eq_true on__b
  have ot_ : PySem.W.takesIn K (.builtin "object.__class__") = some true := of_decide_eq_true ot__b
  have aC0 : PySem.W.nsIn K mainGlobals "Web" = some (some (.ref (A.getD 0 0))) := of_decide_eq_true aC0_b
  have sa0 : PySem.W.findIn K (.ref (A.getD 0 0)) "__setattr__" = some (some (.builtin "object.__setattr__")) := of_decide_eq_true sa0_b
  have aC23 : PySem.W.nsIn K mainGlobals "Shelf" = some (some (.ref (A.getD 23 0))) := of_decide_eq_true aC23_b
  have sa23 : PySem.W.findIn K (.ref (A.getD 23 0)) "__setattr__" = some (some (.builtin "object.__setattr__")) := of_decide_eq_true sa23_b
  have a26 : PySem.W.nsIn K mainGlobals "is_name" = some (some (.ref (A.getD 24 0))) := of_decide_eq_true a26_b
  have a29 : PySem.W.nsIn K mainGlobals "are_beside" = some (some (.ref (A.getD 25 0))) := of_decide_eq_true a29_b
  have a30 : PySem.W.nsIn K mainGlobals "walk_from" = some (some (.ref (A.getD 26 0))) := of_decide_eq_true a30_b
  have a31 : PySem.W.nsIn K mainGlobals "is_closed" = some (some (.ref (A.getD 27 0))) := of_decide_eq_true a31_b
  have a32 : PySem.W.nsIn K mainGlobals "row_of" = some (some (.ref (A.getD 28 0))) := of_decide_eq_true a32_b
  have a33 : PySem.W.nsIn K mainGlobals "rows_in" = some (some (.ref (A.getD 29 0))) := of_decide_eq_true a33_b
  have a35 : PySem.W.nsIn K mainGlobals "are_sources" = some (some (.ref (A.getD 30 0))) := of_decide_eq_true a35_b
  have a36 : PySem.W.nsIn K mainGlobals "web_in" = some (some (.ref (A.getD 31 0))) := of_decide_eq_true a36_b
  have a1000 : PySem.W.findIn K (.ref (A.getD 0 0)) "__init__" = some (some (.ref (A.getD 32 0))) := of_decide_eq_true a1000_b
  have a37 : PySem.W.nsIn K mainGlobals "web_text" = some (some (.ref (A.getD 33 0))) := of_decide_eq_true a37_b
  have a39 : PySem.W.nsIn K mainGlobals "check_copy" = some (some (.ref (A.getD 34 0))) := of_decide_eq_true a39_b
  have a1700 : PySem.W.findIn K (.ref (A.getD 7 0)) "__init__" = some (some (.ref (A.getD 35 0))) := of_decide_eq_true a1700_b
  have ap1001 : PySem.W.findIn K (.ref (A.getD 0 0)) "text" = some (some (.ref (A.getD 36 0))) := of_decide_eq_true ap1001_b
  have gp1001 : PySem.W.specialIn K (.ref (A.getD 36 0)) "__get__" = some (some (.builtin "property.__get__")) := of_decide_eq_true gp1001_b
  have tp1001 : PySem.W.takesIn K (.ref (A.getD 36 0)) = some true := of_decide_eq_true tp1001_b
  obtain ⟨rs1001, rp1001⟩ := prB_ok rp1001_b
  have ap1002 : PySem.W.findIn K (.ref (A.getD 0 0)) "names" = some (some (.ref (A.getD 38 0))) := of_decide_eq_true ap1002_b
  have gp1002 : PySem.W.specialIn K (.ref (A.getD 38 0)) "__get__" = some (some (.builtin "property.__get__")) := of_decide_eq_true gp1002_b
  have tp1002 : PySem.W.takesIn K (.ref (A.getD 38 0)) = some true := of_decide_eq_true tp1002_b
  obtain ⟨rs1002, rp1002⟩ := prB_ok rp1002_b
  have ap1003 : PySem.W.findIn K (.ref (A.getD 0 0)) "lines" = some (some (.ref (A.getD 40 0))) := of_decide_eq_true ap1003_b
  have gp1003 : PySem.W.specialIn K (.ref (A.getD 40 0)) "__get__" = some (some (.builtin "property.__get__")) := of_decide_eq_true gp1003_b
  have tp1003 : PySem.W.takesIn K (.ref (A.getD 40 0)) = some true := of_decide_eq_true tp1003_b
  obtain ⟨rs1003, rp1003⟩ := prB_ok rp1003_b
  have ap1004 : PySem.W.findIn K (.ref (A.getD 0 0)) "ends" = some (some (.ref (A.getD 42 0))) := of_decide_eq_true ap1004_b
  have gp1004 : PySem.W.specialIn K (.ref (A.getD 42 0)) "__get__" = some (some (.builtin "property.__get__")) := of_decide_eq_true gp1004_b
  have tp1004 : PySem.W.takesIn K (.ref (A.getD 42 0)) = some true := of_decide_eq_true tp1004_b
  obtain ⟨rs1004, rp1004⟩ := prB_ok rp1004_b
  have a1005 : PySem.W.findIn K (.ref (A.getD 0 0)) "sources" = some (some (.ref (A.getD 44 0))) := of_decide_eq_true a1005_b
  have a1006 : PySem.W.findIn K (.ref (A.getD 0 0)) "copies" = some (some (.ref (A.getD 45 0))) := of_decide_eq_true a1006_b
  have a1300 : PySem.W.findIn K (.ref (A.getD 3 0)) "__init__" = some (some (.ref (A.getD 46 0))) := of_decide_eq_true a1300_b
  have a2000 : PySem.W.findIn K (.ref (A.getD 10 0)) "__init__" = some (some (.ref (A.getD 47 0))) := of_decide_eq_true a2000_b
  have a2600 : PySem.W.findIn K (.ref (A.getD 16 0)) "__init__" = some (some (.ref (A.getD 48 0))) := of_decide_eq_true a2600_b
  have a2700 : PySem.W.findIn K (.ref (A.getD 17 0)) "__init__" = some (some (.ref (A.getD 49 0))) := of_decide_eq_true a2700_b
  have a1007 : PySem.W.findIn K (.ref (A.getD 0 0)) "with_copy" = some (some (.ref (A.getD 50 0))) := of_decide_eq_true a1007_b
  have a1008 : PySem.W.findIn K (.ref (A.getD 0 0)) "without" = some (some (.ref (A.getD 51 0))) := of_decide_eq_true a1008_b
  have a1009 : PySem.W.findIn K (.ref (A.getD 0 0)) "__str__" = some (some (.ref (A.getD 52 0))) := of_decide_eq_true a1009_b
  have a1010 : PySem.W.findIn K (.ref (A.getD 0 0)) "__repr__" = some (some (.ref (A.getD 53 0))) := of_decide_eq_true a1010_b
  have a1011 : PySem.W.findIn K (.ref (A.getD 0 0)) "__eq__" = some (some (.ref (A.getD 54 0))) := of_decide_eq_true a1011_b
  have a3300 : PySem.W.findIn K (.ref (A.getD 23 0)) "__init__" = some (some (.ref (A.getD 55 0))) := of_decide_eq_true a3300_b
  have ap3301 : PySem.W.findIn K (.ref (A.getD 23 0)) "web" = some (some (.ref (A.getD 56 0))) := of_decide_eq_true ap3301_b
  have gp3301 : PySem.W.specialIn K (.ref (A.getD 56 0)) "__get__" = some (some (.builtin "property.__get__")) := of_decide_eq_true gp3301_b
  have tp3301 : PySem.W.takesIn K (.ref (A.getD 56 0)) = some true := of_decide_eq_true tp3301_b
  obtain ⟨rs3301, rp3301⟩ := prB_ok rp3301_b
  have ap3302 : PySem.W.findIn K (.ref (A.getD 23 0)) "changes" = some (some (.ref (A.getD 58 0))) := of_decide_eq_true ap3302_b
  have gp3302 : PySem.W.specialIn K (.ref (A.getD 58 0)) "__get__" = some (some (.builtin "property.__get__")) := of_decide_eq_true gp3302_b
  have tp3302 : PySem.W.takesIn K (.ref (A.getD 58 0)) = some true := of_decide_eq_true tp3302_b
  obtain ⟨rs3302, rp3302⟩ := prB_ok rp3302_b
  have a3303 : PySem.W.findIn K (.ref (A.getD 23 0)) "__bool__" = some (some (.ref (A.getD 60 0))) := of_decide_eq_true a3303_b
  have a3304 : PySem.W.findIn K (.ref (A.getD 23 0)) "become" = some (some (.ref (A.getD 61 0))) := of_decide_eq_true a3304_b
  have a3305 : PySem.W.findIn K (.ref (A.getD 23 0)) "put" = some (some (.ref (A.getD 62 0))) := of_decide_eq_true a3305_b
  have a3306 : PySem.W.findIn K (.ref (A.getD 23 0)) "take" = some (some (.ref (A.getD 63 0))) := of_decide_eq_true a3306_b
  have a3307 : PySem.W.findIn K (.ref (A.getD 23 0)) "undo" = some (some (.ref (A.getD 64 0))) := of_decide_eq_true a3307_b
  have a43 : PySem.W.nsIn K mainGlobals "_law_purse" = some (some (.ref (A.getD 65 0))) := of_decide_eq_true a43_b
  have a44 : PySem.W.nsIn K mainGlobals "_law_draw" = some (some (.ref (A.getD 66 0))) := of_decide_eq_true a44_b
  have a46 : PySem.W.nsIn K mainGlobals "_law_sort" = some (some (.ref (A.getD 67 0))) := of_decide_eq_true a46_b
  have a47 : PySem.W.nsIn K mainGlobals "_law_attribute" = some (some (.ref (A.getD 68 0))) := of_decide_eq_true a47_b
  have a48 : PySem.W.nsIn K mainGlobals "_law_shot" = some (some (.ref (A.getD 69 0))) := of_decide_eq_true a48_b
  have a45 : PySem.W.nsIn K mainGlobals "_law_told" = some (some (.ref (A.getD 70 0))) := of_decide_eq_true a45_b
  have a49 : PySem.W.nsIn K mainGlobals "_law_right" = some (some (.ref (A.getD 71 0))) := of_decide_eq_true a49_b
  obtain ⟨cv49, ⟨ec49, dd49, vc49, ss49, lc49, le49⟩, ln49⟩ := lamB_ok lm49
  have a50 : PySem.W.nsIn K mainGlobals "law" = some (some (.ref (A.getD 74 0))) := of_decide_eq_true a50_b
  have z_isinstance : PySem.W.nsIn K mainGlobals "isinstance" = some none := of_decide_eq_true z_isinstance_b
  have z_str : PySem.W.nsIn K mainGlobals "str" = some none := of_decide_eq_true z_str_b
  have z_len : PySem.W.nsIn K mainGlobals "len" = some none := of_decide_eq_true z_len_b
  have z_all : PySem.W.nsIn K mainGlobals "all" = some none := of_decide_eq_true z_all_b
  have z_tuple : PySem.W.nsIn K mainGlobals "tuple" = some none := of_decide_eq_true z_tuple_b
  have z_set : PySem.W.nsIn K mainGlobals "set" = some none := of_decide_eq_true z_set_b
  have z_any : PySem.W.nsIn K mainGlobals "any" = some none := of_decide_eq_true z_any_b
  have z_int : PySem.W.nsIn K mainGlobals "int" = some none := of_decide_eq_true z_int_b
  have z_abs : PySem.W.nsIn K mainGlobals "abs" = some none := of_decide_eq_true z_abs_b
  have z_divmod : PySem.W.nsIn K mainGlobals "divmod" = some none := of_decide_eq_true z_divmod_b
  have z_repr : PySem.W.nsIn K mainGlobals "repr" = some none := of_decide_eq_true z_repr_b
  have z_range : PySem.W.nsIn K mainGlobals "range" = some none := of_decide_eq_true z_range_b
  have z_min : PySem.W.nsIn K mainGlobals "min" = some none := of_decide_eq_true z_min_b
  have z_max : PySem.W.nsIn K mainGlobals "max" = some none := of_decide_eq_true z_max_b
  obtain ⟨tk_LETTERS, n_LETTERS⟩ := strB_ok n_LETTERS_b
  obtain ⟨tk_MOST_COPIES, n_MOST_COPIES⟩ := intB_ok n_MOST_COPIES_b
  have qn_Shelf_now_kept : PySem.W.findIn K (.ref (A.getD 23 0)) "now_kept" = some none := of_decide_eq_true qn_Shelf_now_kept_b
  have qn_Shelf_past : PySem.W.findIn K (.ref (A.getD 23 0)) "past" = some none := of_decide_eq_true qn_Shelf_past_b
  have oh0 : PySem.W.findIn K (.ref (A.getD 0 0)) "__class__" = some (some (.builtin "object.__class__")) := of_decide_eq_true oh0_b
  have on0 : PySem.W.specialIn K (.builtin "object.__class__") "__get__" = some (some (.builtin "getset_descriptor.__get__")) := of_decide_eq_true on0_b
  have ot0 : PySem.W.takesIn K (.builtin "object.__class__") = some true := of_decide_eq_true ot0_b
  have om0 : PySem.W.mroIn K (A.getD 0 0) (.type "object") = some true := of_decide_eq_true om0_b
  have oe0 : PySem.W.findIn K (.ref (A.getD 0 0)) "__ne__" = some (some (.builtin "object.__ne__")) := of_decide_eq_true oe0_b
  have ob0 : PySem.W.findIn K (.ref (A.getD 0 0)) "__bool__" = some none := of_decide_eq_true ob0_b
  have ol0 : PySem.W.findIn K (.ref (A.getD 0 0)) "__len__" = some none := of_decide_eq_true ol0_b
  have oc0_ : PySem.W.typeIn K (.ref (A.getD 0 0)) = some (.type "type") := of_decide_eq_true oc0__b
  have qn_Web_written : PySem.W.findIn K (.ref (A.getD 0 0)) "written" = some none := of_decide_eq_true qn_Web_written_b
  have qn_Web_rows : PySem.W.findIn K (.ref (A.getD 0 0)) "rows" = some none := of_decide_eq_true qn_Web_rows_b
  have qn_Web_heads : PySem.W.findIn K (.ref (A.getD 0 0)) "heads" = some none := of_decide_eq_true qn_Web_heads_b
  have qn_Web_pairs : PySem.W.findIn K (.ref (A.getD 0 0)) "pairs" = some none := of_decide_eq_true qn_Web_pairs_b
  have qn_Web_zigzag_rows : PySem.W.findIn K (.ref (A.getD 0 0)) "zigzag_rows" = some none := of_decide_eq_true qn_Web_zigzag_rows_b
  have kt_Broken : (List.range 20).map (fun i => PySem.W.kitOne K (.ref (([(A.getD 0 0), (A.getD 1 0), (A.getD 2 0), (A.getD 3 0), (A.getD 4 0), (A.getD 5 0), (A.getD 6 0), (A.getD 7 0), (A.getD 8 0), (A.getD 9 0), (A.getD 10 0), (A.getD 11 0), (A.getD 12 0), (A.getD 13 0), (A.getD 14 0), (A.getD 15 0), (A.getD 16 0), (A.getD 17 0), (A.getD 18 0), (A.getD 19 0), (A.getD 20 0), (A.getD 21 0), (A.getD 22 0), (A.getD 23 0)] : List Addr).getD (1 + i) 0)) (.ref (A.getD 18 0))) = (List.range 20).map fun i => some (tabX_Broken (1 + i)) := of_decide_eq_true kt_Broken_b
  have kt_FullSource : (List.range 20).map (fun i => PySem.W.kitOne K (.ref (([(A.getD 0 0), (A.getD 1 0), (A.getD 2 0), (A.getD 3 0), (A.getD 4 0), (A.getD 5 0), (A.getD 6 0), (A.getD 7 0), (A.getD 8 0), (A.getD 9 0), (A.getD 10 0), (A.getD 11 0), (A.getD 12 0), (A.getD 13 0), (A.getD 14 0), (A.getD 15 0), (A.getD 16 0), (A.getD 17 0), (A.getD 18 0), (A.getD 19 0), (A.getD 20 0), (A.getD 21 0), (A.getD 22 0), (A.getD 23 0)] : List Addr).getD (1 + i) 0)) (.ref (A.getD 17 0))) = (List.range 20).map fun i => some (tabX_FullSource (1 + i)) := of_decide_eq_true kt_FullSource_b
  have kt_InUse : (List.range 20).map (fun i => PySem.W.kitOne K (.ref (([(A.getD 0 0), (A.getD 1 0), (A.getD 2 0), (A.getD 3 0), (A.getD 4 0), (A.getD 5 0), (A.getD 6 0), (A.getD 7 0), (A.getD 8 0), (A.getD 9 0), (A.getD 10 0), (A.getD 11 0), (A.getD 12 0), (A.getD 13 0), (A.getD 14 0), (A.getD 15 0), (A.getD 16 0), (A.getD 17 0), (A.getD 18 0), (A.getD 19 0), (A.getD 20 0), (A.getD 21 0), (A.getD 22 0), (A.getD 23 0)] : List Addr).getD (1 + i) 0)) (.ref (A.getD 19 0))) = (List.range 20).map fun i => some (tabX_InUse (1 + i)) := of_decide_eq_true kt_InUse_b
  have kt_InvalidChoice : (List.range 20).map (fun i => PySem.W.kitOne K (.ref (([(A.getD 0 0), (A.getD 1 0), (A.getD 2 0), (A.getD 3 0), (A.getD 4 0), (A.getD 5 0), (A.getD 6 0), (A.getD 7 0), (A.getD 8 0), (A.getD 9 0), (A.getD 10 0), (A.getD 11 0), (A.getD 12 0), (A.getD 13 0), (A.getD 14 0), (A.getD 15 0), (A.getD 16 0), (A.getD 17 0), (A.getD 18 0), (A.getD 19 0), (A.getD 20 0), (A.getD 21 0), (A.getD 22 0), (A.getD 23 0)] : List Addr).getD (1 + i) 0)) (.ref (A.getD 6 0))) = (List.range 20).map fun i => some (tabX_InvalidChoice (1 + i)) := of_decide_eq_true kt_InvalidChoice_b
  have kt_InvalidClaim : (List.range 20).map (fun i => PySem.W.kitOne K (.ref (([(A.getD 0 0), (A.getD 1 0), (A.getD 2 0), (A.getD 3 0), (A.getD 4 0), (A.getD 5 0), (A.getD 6 0), (A.getD 7 0), (A.getD 8 0), (A.getD 9 0), (A.getD 10 0), (A.getD 11 0), (A.getD 12 0), (A.getD 13 0), (A.getD 14 0), (A.getD 15 0), (A.getD 16 0), (A.getD 17 0), (A.getD 18 0), (A.getD 19 0), (A.getD 20 0), (A.getD 21 0), (A.getD 22 0), (A.getD 23 0)] : List Addr).getD (1 + i) 0)) (.ref (A.getD 5 0))) = (List.range 20).map fun i => some (tabX_InvalidClaim (1 + i)) := of_decide_eq_true kt_InvalidClaim_b
  have kt_InvalidFreed : (List.range 20).map (fun i => PySem.W.kitOne K (.ref (([(A.getD 0 0), (A.getD 1 0), (A.getD 2 0), (A.getD 3 0), (A.getD 4 0), (A.getD 5 0), (A.getD 6 0), (A.getD 7 0), (A.getD 8 0), (A.getD 9 0), (A.getD 10 0), (A.getD 11 0), (A.getD 12 0), (A.getD 13 0), (A.getD 14 0), (A.getD 15 0), (A.getD 16 0), (A.getD 17 0), (A.getD 18 0), (A.getD 19 0), (A.getD 20 0), (A.getD 21 0), (A.getD 22 0), (A.getD 23 0)] : List Addr).getD (1 + i) 0)) (.ref (A.getD 14 0))) = (List.range 20).map fun i => some (tabX_InvalidFreed (1 + i)) := of_decide_eq_true kt_InvalidFreed_b
  have kt_InvalidIndex : (List.range 20).map (fun i => PySem.W.kitOne K (.ref (([(A.getD 0 0), (A.getD 1 0), (A.getD 2 0), (A.getD 3 0), (A.getD 4 0), (A.getD 5 0), (A.getD 6 0), (A.getD 7 0), (A.getD 8 0), (A.getD 9 0), (A.getD 10 0), (A.getD 11 0), (A.getD 12 0), (A.getD 13 0), (A.getD 14 0), (A.getD 15 0), (A.getD 16 0), (A.getD 17 0), (A.getD 18 0), (A.getD 19 0), (A.getD 20 0), (A.getD 21 0), (A.getD 22 0), (A.getD 23 0)] : List Addr).getD (1 + i) 0)) (.ref (A.getD 4 0))) = (List.range 20).map fun i => some (tabX_InvalidIndex (1 + i)) := of_decide_eq_true kt_InvalidIndex_b
  have kt_InvalidName : (List.range 20).map (fun i => PySem.W.kitOne K (.ref (([(A.getD 0 0), (A.getD 1 0), (A.getD 2 0), (A.getD 3 0), (A.getD 4 0), (A.getD 5 0), (A.getD 6 0), (A.getD 7 0), (A.getD 8 0), (A.getD 9 0), (A.getD 10 0), (A.getD 11 0), (A.getD 12 0), (A.getD 13 0), (A.getD 14 0), (A.getD 15 0), (A.getD 16 0), (A.getD 17 0), (A.getD 18 0), (A.getD 19 0), (A.getD 20 0), (A.getD 21 0), (A.getD 22 0), (A.getD 23 0)] : List Addr).getD (1 + i) 0)) (.ref (A.getD 3 0))) = (List.range 20).map fun i => some (tabX_InvalidName (1 + i)) := of_decide_eq_true kt_InvalidName_b
  have kt_InvalidNumber : (List.range 20).map (fun i => PySem.W.kitOne K (.ref (([(A.getD 0 0), (A.getD 1 0), (A.getD 2 0), (A.getD 3 0), (A.getD 4 0), (A.getD 5 0), (A.getD 6 0), (A.getD 7 0), (A.getD 8 0), (A.getD 9 0), (A.getD 10 0), (A.getD 11 0), (A.getD 12 0), (A.getD 13 0), (A.getD 14 0), (A.getD 15 0), (A.getD 16 0), (A.getD 17 0), (A.getD 18 0), (A.getD 19 0), (A.getD 20 0), (A.getD 21 0), (A.getD 22 0), (A.getD 23 0)] : List Addr).getD (1 + i) 0)) (.ref (A.getD 2 0))) = (List.range 20).map fun i => some (tabX_InvalidNumber (1 + i)) := of_decide_eq_true kt_InvalidNumber_b
  have kt_InvalidOffers : (List.range 20).map (fun i => PySem.W.kitOne K (.ref (([(A.getD 0 0), (A.getD 1 0), (A.getD 2 0), (A.getD 3 0), (A.getD 4 0), (A.getD 5 0), (A.getD 6 0), (A.getD 7 0), (A.getD 8 0), (A.getD 9 0), (A.getD 10 0), (A.getD 11 0), (A.getD 12 0), (A.getD 13 0), (A.getD 14 0), (A.getD 15 0), (A.getD 16 0), (A.getD 17 0), (A.getD 18 0), (A.getD 19 0), (A.getD 20 0), (A.getD 21 0), (A.getD 22 0), (A.getD 23 0)] : List Addr).getD (1 + i) 0)) (.ref (A.getD 13 0))) = (List.range 20).map fun i => some (tabX_InvalidOffers (1 + i)) := of_decide_eq_true kt_InvalidOffers_b
  have kt_InvalidSources : (List.range 20).map (fun i => PySem.W.kitOne K (.ref (([(A.getD 0 0), (A.getD 1 0), (A.getD 2 0), (A.getD 3 0), (A.getD 4 0), (A.getD 5 0), (A.getD 6 0), (A.getD 7 0), (A.getD 8 0), (A.getD 9 0), (A.getD 10 0), (A.getD 11 0), (A.getD 12 0), (A.getD 13 0), (A.getD 14 0), (A.getD 15 0), (A.getD 16 0), (A.getD 17 0), (A.getD 18 0), (A.getD 19 0), (A.getD 20 0), (A.getD 21 0), (A.getD 22 0), (A.getD 23 0)] : List Addr).getD (1 + i) 0)) (.ref (A.getD 10 0))) = (List.range 20).map fun i => some (tabX_InvalidSources (1 + i)) := of_decide_eq_true kt_InvalidSources_b
  have kt_InvalidText : (List.range 20).map (fun i => PySem.W.kitOne K (.ref (([(A.getD 0 0), (A.getD 1 0), (A.getD 2 0), (A.getD 3 0), (A.getD 4 0), (A.getD 5 0), (A.getD 6 0), (A.getD 7 0), (A.getD 8 0), (A.getD 9 0), (A.getD 10 0), (A.getD 11 0), (A.getD 12 0), (A.getD 13 0), (A.getD 14 0), (A.getD 15 0), (A.getD 16 0), (A.getD 17 0), (A.getD 18 0), (A.getD 19 0), (A.getD 20 0), (A.getD 21 0), (A.getD 22 0), (A.getD 23 0)] : List Addr).getD (1 + i) 0)) (.ref (A.getD 1 0))) = (List.range 20).map fun i => some (tabX_InvalidText (1 + i)) := of_decide_eq_true kt_InvalidText_b
  have kt_InvalidTold : (List.range 20).map (fun i => PySem.W.kitOne K (.ref (([(A.getD 0 0), (A.getD 1 0), (A.getD 2 0), (A.getD 3 0), (A.getD 4 0), (A.getD 5 0), (A.getD 6 0), (A.getD 7 0), (A.getD 8 0), (A.getD 9 0), (A.getD 10 0), (A.getD 11 0), (A.getD 12 0), (A.getD 13 0), (A.getD 14 0), (A.getD 15 0), (A.getD 16 0), (A.getD 17 0), (A.getD 18 0), (A.getD 19 0), (A.getD 20 0), (A.getD 21 0), (A.getD 22 0), (A.getD 23 0)] : List Addr).getD (1 + i) 0)) (.ref (A.getD 11 0))) = (List.range 20).map fun i => some (tabX_InvalidTold (1 + i)) := of_decide_eq_true kt_InvalidTold_b
  have kt_InvalidWeights : (List.range 20).map (fun i => PySem.W.kitOne K (.ref (([(A.getD 0 0), (A.getD 1 0), (A.getD 2 0), (A.getD 3 0), (A.getD 4 0), (A.getD 5 0), (A.getD 6 0), (A.getD 7 0), (A.getD 8 0), (A.getD 9 0), (A.getD 10 0), (A.getD 11 0), (A.getD 12 0), (A.getD 13 0), (A.getD 14 0), (A.getD 15 0), (A.getD 16 0), (A.getD 17 0), (A.getD 18 0), (A.getD 19 0), (A.getD 20 0), (A.getD 21 0), (A.getD 22 0), (A.getD 23 0)] : List Addr).getD (1 + i) 0)) (.ref (A.getD 12 0))) = (List.range 20).map fun i => some (tabX_InvalidWeights (1 + i)) := of_decide_eq_true kt_InvalidWeights_b
  have kt_NoAnswer : (List.range 20).map (fun i => PySem.W.kitOne K (.ref (([(A.getD 0 0), (A.getD 1 0), (A.getD 2 0), (A.getD 3 0), (A.getD 4 0), (A.getD 5 0), (A.getD 6 0), (A.getD 7 0), (A.getD 8 0), (A.getD 9 0), (A.getD 10 0), (A.getD 11 0), (A.getD 12 0), (A.getD 13 0), (A.getD 14 0), (A.getD 15 0), (A.getD 16 0), (A.getD 17 0), (A.getD 18 0), (A.getD 19 0), (A.getD 20 0), (A.getD 21 0), (A.getD 22 0), (A.getD 23 0)] : List Addr).getD (1 + i) 0)) (.ref (A.getD 22 0))) = (List.range 20).map fun i => some (tabX_NoAnswer (1 + i)) := of_decide_eq_true kt_NoAnswer_b
  have kt_NoChoice : (List.range 20).map (fun i => PySem.W.kitOne K (.ref (([(A.getD 0 0), (A.getD 1 0), (A.getD 2 0), (A.getD 3 0), (A.getD 4 0), (A.getD 5 0), (A.getD 6 0), (A.getD 7 0), (A.getD 8 0), (A.getD 9 0), (A.getD 10 0), (A.getD 11 0), (A.getD 12 0), (A.getD 13 0), (A.getD 14 0), (A.getD 15 0), (A.getD 16 0), (A.getD 17 0), (A.getD 18 0), (A.getD 19 0), (A.getD 20 0), (A.getD 21 0), (A.getD 22 0), (A.getD 23 0)] : List Addr).getD (1 + i) 0)) (.ref (A.getD 15 0))) = (List.range 20).map fun i => some (tabX_NoChoice (1 + i)) := of_decide_eq_true kt_NoChoice_b
  have kt_NotAShelf : (List.range 20).map (fun i => PySem.W.kitOne K (.ref (([(A.getD 0 0), (A.getD 1 0), (A.getD 2 0), (A.getD 3 0), (A.getD 4 0), (A.getD 5 0), (A.getD 6 0), (A.getD 7 0), (A.getD 8 0), (A.getD 9 0), (A.getD 10 0), (A.getD 11 0), (A.getD 12 0), (A.getD 13 0), (A.getD 14 0), (A.getD 15 0), (A.getD 16 0), (A.getD 17 0), (A.getD 18 0), (A.getD 19 0), (A.getD 20 0), (A.getD 21 0), (A.getD 22 0), (A.getD 23 0)] : List Addr).getD (1 + i) 0)) (.ref (A.getD 9 0))) = (List.range 20).map fun i => some (tabX_NotAShelf (1 + i)) := of_decide_eq_true kt_NotAShelf_b
  have kt_NotAWeb : (List.range 20).map (fun i => PySem.W.kitOne K (.ref (([(A.getD 0 0), (A.getD 1 0), (A.getD 2 0), (A.getD 3 0), (A.getD 4 0), (A.getD 5 0), (A.getD 6 0), (A.getD 7 0), (A.getD 8 0), (A.getD 9 0), (A.getD 10 0), (A.getD 11 0), (A.getD 12 0), (A.getD 13 0), (A.getD 14 0), (A.getD 15 0), (A.getD 16 0), (A.getD 17 0), (A.getD 18 0), (A.getD 19 0), (A.getD 20 0), (A.getD 21 0), (A.getD 22 0), (A.getD 23 0)] : List Addr).getD (1 + i) 0)) (.ref (A.getD 8 0))) = (List.range 20).map fun i => some (tabX_NotAWeb (1 + i)) := of_decide_eq_true kt_NotAWeb_b
  have kt_NothingToUndo : (List.range 20).map (fun i => PySem.W.kitOne K (.ref (([(A.getD 0 0), (A.getD 1 0), (A.getD 2 0), (A.getD 3 0), (A.getD 4 0), (A.getD 5 0), (A.getD 6 0), (A.getD 7 0), (A.getD 8 0), (A.getD 9 0), (A.getD 10 0), (A.getD 11 0), (A.getD 12 0), (A.getD 13 0), (A.getD 14 0), (A.getD 15 0), (A.getD 16 0), (A.getD 17 0), (A.getD 18 0), (A.getD 19 0), (A.getD 20 0), (A.getD 21 0), (A.getD 22 0), (A.getD 23 0)] : List Addr).getD (1 + i) 0)) (.ref (A.getD 20 0))) = (List.range 20).map fun i => some (tabX_NothingToUndo (1 + i)) := of_decide_eq_true kt_NothingToUndo_b
  have kt_TooMany : (List.range 20).map (fun i => PySem.W.kitOne K (.ref (([(A.getD 0 0), (A.getD 1 0), (A.getD 2 0), (A.getD 3 0), (A.getD 4 0), (A.getD 5 0), (A.getD 6 0), (A.getD 7 0), (A.getD 8 0), (A.getD 9 0), (A.getD 10 0), (A.getD 11 0), (A.getD 12 0), (A.getD 13 0), (A.getD 14 0), (A.getD 15 0), (A.getD 16 0), (A.getD 17 0), (A.getD 18 0), (A.getD 19 0), (A.getD 20 0), (A.getD 21 0), (A.getD 22 0), (A.getD 23 0)] : List Addr).getD (1 + i) 0)) (.ref (A.getD 16 0))) = (List.range 20).map fun i => some (tabX_TooMany (1 + i)) := of_decide_eq_true kt_TooMany_b
  have kt_UnknownName : (List.range 20).map (fun i => PySem.W.kitOne K (.ref (([(A.getD 0 0), (A.getD 1 0), (A.getD 2 0), (A.getD 3 0), (A.getD 4 0), (A.getD 5 0), (A.getD 6 0), (A.getD 7 0), (A.getD 8 0), (A.getD 9 0), (A.getD 10 0), (A.getD 11 0), (A.getD 12 0), (A.getD 13 0), (A.getD 14 0), (A.getD 15 0), (A.getD 16 0), (A.getD 17 0), (A.getD 18 0), (A.getD 19 0), (A.getD 20 0), (A.getD 21 0), (A.getD 22 0), (A.getD 23 0)] : List Addr).getD (1 + i) 0)) (.ref (A.getD 7 0))) = (List.range 20).map fun i => some (tabX_UnknownName (1 + i)) := of_decide_eq_true kt_UnknownName_b
  have kt_WrongValue : (List.range 20).map (fun i => PySem.W.kitOne K (.ref (([(A.getD 0 0), (A.getD 1 0), (A.getD 2 0), (A.getD 3 0), (A.getD 4 0), (A.getD 5 0), (A.getD 6 0), (A.getD 7 0), (A.getD 8 0), (A.getD 9 0), (A.getD 10 0), (A.getD 11 0), (A.getD 12 0), (A.getD 13 0), (A.getD 14 0), (A.getD 15 0), (A.getD 16 0), (A.getD 17 0), (A.getD 18 0), (A.getD 19 0), (A.getD 20 0), (A.getD 21 0), (A.getD 22 0), (A.getD 23 0)] : List Addr).getD (1 + i) 0)) (.ref (A.getD 21 0))) = (List.range 20).map fun i => some (tabX_WrongValue (1 + i)) := of_decide_eq_true kt_WrongValue_b
  have xb_FullSource : PySem.W.subIn K (.ref (A.getD 17 0)) (.type "BaseException") = some true := of_decide_eq_true xb_FullSource_b
  have xy_FullSource : PySem.W.typeIn K (.ref (A.getD 17 0)) = some (.type "type") := of_decide_eq_true xy_FullSource_b
  have xb_InvalidName : PySem.W.subIn K (.ref (A.getD 3 0)) (.type "BaseException") = some true := of_decide_eq_true xb_InvalidName_b
  have xy_InvalidName : PySem.W.typeIn K (.ref (A.getD 3 0)) = some (.type "type") := of_decide_eq_true xy_InvalidName_b
  have xb_InvalidSources : PySem.W.subIn K (.ref (A.getD 10 0)) (.type "BaseException") = some true := of_decide_eq_true xb_InvalidSources_b
  have xy_InvalidSources : PySem.W.typeIn K (.ref (A.getD 10 0)) = some (.type "type") := of_decide_eq_true xy_InvalidSources_b
  have xb_NothingToUndo : PySem.W.subIn K (.ref (A.getD 20 0)) (.type "BaseException") = some true := of_decide_eq_true xb_NothingToUndo_b
  have xy_NothingToUndo : PySem.W.typeIn K (.ref (A.getD 20 0)) = some (.type "type") := of_decide_eq_true xy_NothingToUndo_b
  have xb_TooMany : PySem.W.subIn K (.ref (A.getD 16 0)) (.type "BaseException") = some true := of_decide_eq_true xb_TooMany_b
  have xy_TooMany : PySem.W.typeIn K (.ref (A.getD 16 0)) = some (.type "type") := of_decide_eq_true xy_TooMany_b
  have xb_UnknownName : PySem.W.subIn K (.ref (A.getD 7 0)) (.type "BaseException") = some true := of_decide_eq_true xb_UnknownName_b
  have xy_UnknownName : PySem.W.typeIn K (.ref (A.getD 7 0)) = some (.type "type") := of_decide_eq_true xy_UnknownName_b
  have hx_ : (List.range 20).map (fun i => PySem.W.exmAny K (.ref (([(A.getD 0 0), (A.getD 1 0), (A.getD 2 0), (A.getD 3 0), (A.getD 4 0), (A.getD 5 0), (A.getD 6 0), (A.getD 7 0), (A.getD 8 0), (A.getD 9 0), (A.getD 10 0), (A.getD 11 0), (A.getD 12 0), (A.getD 13 0), (A.getD 14 0), (A.getD 15 0), (A.getD 16 0), (A.getD 17 0), (A.getD 18 0), (A.getD 19 0), (A.getD 20 0), (A.getD 21 0), (A.getD 22 0), (A.getD 23 0)] : List Addr).getD (1 + i) 0)) [.ref (A.getD 21 0), .ref (A.getD 22 0)]) = (List.range 20).map fun i => some true := of_decide_eq_true hx__b
  have oh23 : PySem.W.findIn K (.ref (A.getD 23 0)) "__class__" = some (some (.builtin "object.__class__")) := of_decide_eq_true oh23_b
  have on23 : PySem.W.specialIn K (.builtin "object.__class__") "__get__" = some (some (.builtin "getset_descriptor.__get__")) := of_decide_eq_true on23_b
  have ot23 : PySem.W.takesIn K (.builtin "object.__class__") = some true := of_decide_eq_true ot23_b
  have om23 : PySem.W.mroIn K (A.getD 23 0) (.type "object") = some true := of_decide_eq_true om23_b
  have iq23 : PySem.W.findIn K (.ref (A.getD 23 0)) "__eq__" = some (some (.builtin "object.__eq__")) := of_decide_eq_true iq23_b
  have in23 : PySem.W.findIn K (.ref (A.getD 23 0)) "__ne__" = some (some (.builtin "object.__ne__")) := of_decide_eq_true in23_b
  have dk23 : PySem.W.kitOne K (.ref (A.getD 23 0)) (.ref (A.getD 0 0)) = some false := of_decide_eq_true dk23_b
  have dl23 : PySem.W.mroIn K (A.getD 23 0) (.type "list") = some false := of_decide_eq_true dl23_b
  have dd23_ : PySem.W.mroIn K (A.getD 23 0) (.type "dict") = some false := of_decide_eq_true dd23__b
  have ds23 : PySem.W.subIn K (.ref (A.getD 0 0)) (.ref (A.getD 23 0)) = some false := of_decide_eq_true ds23_b
  have dn23 : ((A.getD 23 0) == (A.getD 0 0)) = false := of_decide_eq_true dn23_b
  have dw23 : PySem.W.mroIn K (A.getD 0 0) (.type "object") = some true := of_decide_eq_true dw23_b
  have dv23 : PySem.W.findIn K (.ref (A.getD 0 0)) "__ne__" = some (some (.builtin "object.__ne__")) := of_decide_eq_true dv23_b
  let ct : CTab := ⟨fun i => ([(A.getD 0 0), (A.getD 1 0), (A.getD 2 0), (A.getD 3 0), (A.getD 4 0), (A.getD 5 0), (A.getD 6 0), (A.getD 7 0), (A.getD 8 0), (A.getD 9 0), (A.getD 10 0), (A.getD 11 0), (A.getD 12 0), (A.getD 13 0), (A.getD 14 0), (A.getD 15 0), (A.getD 16 0), (A.getD 17 0), (A.getD 18 0), (A.getD 19 0), (A.getD 20 0), (A.getD 21 0), (A.getD 22 0), (A.getD 23 0)] : List Addr).getD i 0, 0, [((A.getD 73 0), "_law_right" ++ ".<locals>." ++ "<lambda>")]⟩
  have ndp : ([(A.getD 73 0)] : List Addr).Nodup := by simp
  obtain ⟨fd26, F26, ⟨lo26, ll26, ld26⟩, lv26, k26, kV26, dc26, pm26, an26, ct26, fe26⟩ := def_of (st := s_is_name) c26 (nth_of hf 0 rfl rfl)
  have b26 := F26.binds (ps := ["value"]) fun _ _ _ _ _ _ us hl => match us, hl with | [_], _ => rfl
  obtain ⟨fd29, F29, ⟨lo29, ll29, ld29⟩, lv29, k29, kV29, dc29, pm29, an29, ct29, fe29⟩ := def_of (st := s_are_beside) c29 (nth_of hf 1 rfl rfl)
  have b29 := F29.binds (ps := ["one", "other"]) fun _ _ _ _ _ _ us hl => match us, hl with | [_, _], _ => rfl
  obtain ⟨fd30, F30, ⟨lo30, ll30, ld30⟩, lv30, k30, kV30, dc30, pm30, an30, ct30, fe30⟩ := def_of (st := s_walk_from) c30 (nth_of hf 2 rfl rfl)
  have b30 := F30.binds (ps := ["lines", "start"]) fun _ _ _ _ _ _ us hl => match us, hl with | [_, _], _ => rfl
  obtain ⟨fd31, F31, ⟨lo31, ll31, ld31⟩, lv31, k31, kV31, dc31, pm31, an31, ct31, fe31⟩ := def_of (st := s_is_closed) c31 (nth_of hf 3 rfl rfl)
  have b31 := F31.binds (ps := ["row"]) fun _ _ _ _ _ _ us hl => match us, hl with | [_], _ => rfl
  obtain ⟨fd32, F32, ⟨lo32, ll32, ld32⟩, lv32, k32, kV32, dc32, pm32, an32, ct32, fe32⟩ := def_of (st := s_row_of) c32 (nth_of hf 4 rfl rfl)
  have b32 := F32.binds (ps := ["lines", "first"]) fun _ _ _ _ _ _ us hl => match us, hl with | [_, _], _ => rfl
  obtain ⟨fd33, F33, ⟨lo33, ll33, ld33⟩, lv33, k33, kV33, dc33, pm33, an33, ct33, fe33⟩ := def_of (st := s_rows_in) c33 (nth_of hf 5 rfl rfl)
  have b33 := F33.binds (ps := ["lines"]) fun _ _ _ _ _ _ us hl => match us, hl with | [_], _ => rfl
  obtain ⟨fd35, F35, ⟨lo35, ll35, ld35⟩, lv35, k35, kV35, dc35, pm35, an35, ct35, fe35⟩ := def_of (st := s_are_sources) c35 (nth_of hf 6 rfl rfl)
  have b35 := F35.binds (ps := ["values", "names"]) fun _ _ _ _ _ _ us hl => match us, hl with | [_, _], _ => rfl
  obtain ⟨fd36, F36, ⟨lo36, ll36, ld36⟩, lv36, k36, kV36, dc36, pm36, an36, ct36, fe36⟩ := def_of (st := s_web_in) c36 (nth_of hf 7 rfl rfl)
  have b36 := F36.binds (ps := ["text"]) fun _ _ _ _ _ _ us hl => match us, hl with | [_], _ => rfl
  obtain ⟨fd1000, F1000, ⟨lo1000, ll1000, ld1000⟩, lv1000, k1000, kV1000, dc1000, pm1000, an1000, ct1000, fe1000⟩ := def_of (st := s_Web___init__) c1000 (nth_of hf 8 rfl rfl)
  have b1000 := F1000.binds (ps := ["self", "text"]) fun _ _ _ _ _ _ us hl => match us, hl with | [_, _], _ => rfl
  obtain ⟨fd37, F37, ⟨lo37, ll37, ld37⟩, lv37, k37, kV37, dc37, pm37, an37, ct37, fe37⟩ := def_of (st := s_web_text) c37 (nth_of hf 9 rfl rfl)
  have b37 := F37.binds (ps := ["rows"]) fun _ _ _ _ _ _ us hl => match us, hl with | [_], _ => rfl
  obtain ⟨fd39, F39, ⟨lo39, ll39, ld39⟩, lv39, k39, kV39, dc39, pm39, an39, ct39, fe39⟩ := def_of (st := s_check_copy) c39 (nth_of hf 10 rfl rfl)
  have b39 := F39.binds (ps := ["web", "copy"]) fun _ _ _ _ _ _ us hl => match us, hl with | [_, _], _ => rfl
  obtain ⟨fd1700, F1700, ⟨lo1700, ll1700, ld1700⟩, lv1700, k1700, kV1700, dc1700, pm1700, an1700, ct1700, fe1700⟩ := def_of (st := s_UnknownName___init__) c1700 (nth_of hf 11 rfl rfl)
  have b1700 := F1700.binds (ps := ["self", "given"]) fun _ _ _ _ _ _ us hl => match us, hl with | [_, _], _ => rfl
  obtain ⟨fd1001, F1001, ⟨lo1001, ll1001, ld1001⟩, lv1001, k1001, kV1001, dc1001, pm1001, an1001, ct1001, fe1001⟩ := def_of (st := s_Web_text) c1001 (nth_of hf 12 rfl rfl)
  have b1001 := F1001.binds (ps := ["self"]) fun _ _ _ _ _ _ us hl => match us, hl with | [_], _ => rfl
  obtain ⟨fd1002, F1002, ⟨lo1002, ll1002, ld1002⟩, lv1002, k1002, kV1002, dc1002, pm1002, an1002, ct1002, fe1002⟩ := def_of (st := s_Web_names) c1002 (nth_of hf 13 rfl rfl)
  have b1002 := F1002.binds (ps := ["self"]) fun _ _ _ _ _ _ us hl => match us, hl with | [_], _ => rfl
  obtain ⟨fd1003, F1003, ⟨lo1003, ll1003, ld1003⟩, lv1003, k1003, kV1003, dc1003, pm1003, an1003, ct1003, fe1003⟩ := def_of (st := s_Web_lines) c1003 (nth_of hf 14 rfl rfl)
  have b1003 := F1003.binds (ps := ["self"]) fun _ _ _ _ _ _ us hl => match us, hl with | [_], _ => rfl
  obtain ⟨fd1004, F1004, ⟨lo1004, ll1004, ld1004⟩, lv1004, k1004, kV1004, dc1004, pm1004, an1004, ct1004, fe1004⟩ := def_of (st := s_Web_ends) c1004 (nth_of hf 15 rfl rfl)
  have b1004 := F1004.binds (ps := ["self"]) fun _ _ _ _ _ _ us hl => match us, hl with | [_], _ => rfl
  obtain ⟨fd1005, F1005, ⟨lo1005, ll1005, ld1005⟩, lv1005, k1005, kV1005, dc1005, pm1005, an1005, ct1005, fe1005⟩ := def_of (st := s_Web_sources) c1005 (nth_of hf 16 rfl rfl)
  have b1005 := F1005.binds (ps := ["self", "copy"]) fun _ _ _ _ _ _ us hl => match us, hl with | [_, _], _ => rfl
  obtain ⟨fd1006, F1006, ⟨lo1006, ll1006, ld1006⟩, lv1006, k1006, kV1006, dc1006, pm1006, an1006, ct1006, fe1006⟩ := def_of (st := s_Web_copies) c1006 (nth_of hf 17 rfl rfl)
  have b1006 := F1006.binds (ps := ["self", "source"]) fun _ _ _ _ _ _ us hl => match us, hl with | [_, _], _ => rfl
  obtain ⟨fd1300, F1300, ⟨lo1300, ll1300, ld1300⟩, lv1300, k1300, kV1300, dc1300, pm1300, an1300, ct1300, fe1300⟩ := def_of (st := s_InvalidName___init__) c1300 (nth_of hf 18 rfl rfl)
  have b1300 := F1300.binds (ps := ["self", "given"]) fun _ _ _ _ _ _ us hl => match us, hl with | [_, _], _ => rfl
  obtain ⟨fd2000, F2000, ⟨lo2000, ll2000, ld2000⟩, lv2000, k2000, kV2000, dc2000, pm2000, an2000, ct2000, fe2000⟩ := def_of (st := s_InvalidSources___init__) c2000 (nth_of hf 19 rfl rfl)
  have b2000 := F2000.binds (ps := ["self", "given"]) fun _ _ _ _ _ _ us hl => match us, hl with | [_, _], _ => rfl
  obtain ⟨fd2600, F2600, ⟨lo2600, ll2600, ld2600⟩, lv2600, k2600, kV2600, dc2600, pm2600, an2600, ct2600, fe2600⟩ := def_of (st := s_TooMany___init__) c2600 (nth_of hf 20 rfl rfl)
  have b2600 := F2600.binds (ps := ["self", "number"]) fun _ _ _ _ _ _ us hl => match us, hl with | [_, _], _ => rfl
  obtain ⟨fd2700, F2700, ⟨lo2700, ll2700, ld2700⟩, lv2700, k2700, kV2700, dc2700, pm2700, an2700, ct2700, fe2700⟩ := def_of (st := s_FullSource___init__) c2700 (nth_of hf 21 rfl rfl)
  have b2700 := F2700.binds (ps := ["self", "given"]) fun _ _ _ _ _ _ us hl => match us, hl with | [_, _], _ => rfl
  obtain ⟨fd1007, F1007, ⟨lo1007, ll1007, ld1007⟩, lv1007, k1007, kV1007, dc1007, pm1007, an1007, ct1007, fe1007⟩ := def_of (st := s_Web_with_copy) c1007 (nth_of hf 22 rfl rfl)
  have b1007 := F1007.binds (ps := ["self", "name", "sources"]) fun _ _ _ _ _ _ us hl => match us, hl with | [_, _, _], _ => rfl
  obtain ⟨fd1008, F1008, ⟨lo1008, ll1008, ld1008⟩, lv1008, k1008, kV1008, dc1008, pm1008, an1008, ct1008, fe1008⟩ := def_of (st := s_Web_without) c1008 (nth_of hf 23 rfl rfl)
  have b1008 := F1008.binds (ps := ["self", "copy"]) fun _ _ _ _ _ _ us hl => match us, hl with | [_, _], _ => rfl
  obtain ⟨fd1009, F1009, ⟨lo1009, ll1009, ld1009⟩, lv1009, k1009, kV1009, dc1009, pm1009, an1009, ct1009, fe1009⟩ := def_of (st := s_Web___str__) c1009 (nth_of hf 24 rfl rfl)
  have b1009 := F1009.binds (ps := ["self"]) fun _ _ _ _ _ _ us hl => match us, hl with | [_], _ => rfl
  obtain ⟨fd1010, F1010, ⟨lo1010, ll1010, ld1010⟩, lv1010, k1010, kV1010, dc1010, pm1010, an1010, ct1010, fe1010⟩ := def_of (st := s_Web___repr__) c1010 (nth_of hf 25 rfl rfl)
  have b1010 := F1010.binds (ps := ["self"]) fun _ _ _ _ _ _ us hl => match us, hl with | [_], _ => rfl
  obtain ⟨fd1011, F1011, ⟨lo1011, ll1011, ld1011⟩, lv1011, k1011, kV1011, dc1011, pm1011, an1011, ct1011, fe1011⟩ := def_of (st := s_Web___eq__) c1011 (nth_of hf 26 rfl rfl)
  have b1011 := F1011.binds (ps := ["self", "other"]) fun _ _ _ _ _ _ us hl => match us, hl with | [_, _], _ => rfl
  obtain ⟨fd3300, F3300, ⟨lo3300, ll3300, ld3300⟩, lv3300, k3300, kV3300, dc3300, pm3300, an3300, ct3300, fe3300⟩ := def_of (st := s_Shelf___init__) c3300 (nth_of hf 27 rfl rfl)
  have b3300 := F3300.binds (ps := ["self", "name"]) fun _ _ _ _ _ _ us hl => match us, hl with | [_, _], _ => rfl
  obtain ⟨fd3301, F3301, ⟨lo3301, ll3301, ld3301⟩, lv3301, k3301, kV3301, dc3301, pm3301, an3301, ct3301, fe3301⟩ := def_of (st := s_Shelf_web) c3301 (nth_of hf 28 rfl rfl)
  have b3301 := F3301.binds (ps := ["self"]) fun _ _ _ _ _ _ us hl => match us, hl with | [_], _ => rfl
  obtain ⟨fd3302, F3302, ⟨lo3302, ll3302, ld3302⟩, lv3302, k3302, kV3302, dc3302, pm3302, an3302, ct3302, fe3302⟩ := def_of (st := s_Shelf_changes) c3302 (nth_of hf 29 rfl rfl)
  have b3302 := F3302.binds (ps := ["self"]) fun _ _ _ _ _ _ us hl => match us, hl with | [_], _ => rfl
  obtain ⟨fd3303, F3303, ⟨lo3303, ll3303, ld3303⟩, lv3303, k3303, kV3303, dc3303, pm3303, an3303, ct3303, fe3303⟩ := def_of (st := s_Shelf___bool__) c3303 (nth_of hf 30 rfl rfl)
  have b3303 := F3303.binds (ps := ["self"]) fun _ _ _ _ _ _ us hl => match us, hl with | [_], _ => rfl
  obtain ⟨fd3304, F3304, ⟨lo3304, ll3304, ld3304⟩, lv3304, k3304, kV3304, dc3304, pm3304, an3304, ct3304, fe3304⟩ := def_of (st := s_Shelf_become) c3304 (nth_of hf 31 rfl rfl)
  have b3304 := F3304.binds (ps := ["self", "web"]) fun _ _ _ _ _ _ us hl => match us, hl with | [_, _], _ => rfl
  obtain ⟨fd3305, F3305, ⟨lo3305, ll3305, ld3305⟩, lv3305, k3305, kV3305, dc3305, pm3305, an3305, ct3305, fe3305⟩ := def_of (st := s_Shelf_put) c3305 (nth_of hf 32 rfl rfl)
  have b3305 := F3305.binds (ps := ["self", "name", "sources"]) fun _ _ _ _ _ _ us hl => match us, hl with | [_, _, _], _ => rfl
  obtain ⟨fd3306, F3306, ⟨lo3306, ll3306, ld3306⟩, lv3306, k3306, kV3306, dc3306, pm3306, an3306, ct3306, fe3306⟩ := def_of (st := s_Shelf_take) c3306 (nth_of hf 33 rfl rfl)
  have b3306 := F3306.binds (ps := ["self", "copy"]) fun _ _ _ _ _ _ us hl => match us, hl with | [_, _], _ => rfl
  obtain ⟨fd3307, F3307, ⟨lo3307, ll3307, ld3307⟩, lv3307, k3307, kV3307, dc3307, pm3307, an3307, ct3307, fe3307⟩ := def_of (st := s_Shelf_undo) c3307 (nth_of hf 34 rfl rfl)
  have b3307 := F3307.binds (ps := ["self"]) fun _ _ _ _ _ _ us hl => match us, hl with | [_], _ => rfl
  obtain ⟨fd43, F43, ⟨lo43, ll43, ld43⟩, lv43, k43, kV43, dc43, pm43, an43, ct43, fe43⟩ := def_of (st := s_law_purse) c43 (nth_of hf 35 rfl rfl)
  have b43 := F43.binds (ps := ["_law_script", "_law_spot"]) fun _ _ _ _ _ _ us hl => match us, hl with | [_, _], _ => rfl
  obtain ⟨fd44, F44, ⟨lo44, ll44, ld44⟩, lv44, k44, kV44, dc44, pm44, an44, ct44, fe44⟩ := def_of (st := s_law_draw) c44 (nth_of hf 36 rfl rfl)
  have b44 := F44.binds (ps := ["_law_purse_here", "_law_many"]) fun _ _ _ _ _ _ us hl => match us, hl with | [_, _], _ => rfl
  obtain ⟨fd46, F46, ⟨lo46, ll46, ld46⟩, lv46, k46, kV46, dc46, pm46, an46, ct46, fe46⟩ := def_of (st := s_law_sort) c46 (nth_of hf 37 rfl rfl)
  have b46 := F46.binds (ps := ["_law_e"]) fun _ _ _ _ _ _ us hl => match us, hl with | [_], _ => rfl
  obtain ⟨fd47, F47, ⟨lo47, ll47, ld47⟩, lv47, k47, kV47, dc47, pm47, an47, ct47, fe47⟩ := def_of (st := s_law_attribute) c47 (nth_of hf 38 rfl rfl)
  have b47 := F47.binds (ps := ["_law_e", "_law_word_here"]) fun _ _ _ _ _ _ us hl => match us, hl with | [_, _], _ => rfl
  obtain ⟨fd48, F48, ⟨lo48, ll48, ld48⟩, lv48, k48, kV48, dc48, pm48, an48, ct48, fe48⟩ := def_of (st := s_law_shot) c48 (nth_of hf 39 rfl rfl)
  have b48 := F48.binds (ps := ["_law_bench"]) fun _ _ _ _ _ _ us hl => match us, hl with | [_], _ => rfl
  obtain ⟨fd45, F45, ⟨lo45, ll45, ld45⟩, lv45, k45, kV45, dc45, pm45, an45, ct45, fe45⟩ := def_of (st := s_law_told) c45 (nth_of hf 40 rfl rfl)
  have b45 := F45.binds (ps := ["_law_job"]) fun _ _ _ _ _ _ us hl => match us, hl with | [_], _ => rfl
  obtain ⟨fd49, F49, ⟨lo49, ll49, ld49⟩, lv49, k49, kV49, dc49, pm49, an49, ct49, fe49⟩ := def_of (st := s_law_right) c49 (nth_of hf 41 rfl rfl)
  have b49 := F49.binds (ps := ["_law_purse_here"]) fun _ _ _ _ _ _ us hl => match us, hl with | [_], _ => rfl
  obtain ⟨fd50, F50, ⟨lo50, ll50, ld50⟩, lv50, k50, kV50, dc50, pm50, an50, ct50, fe50⟩ := def_of (st := s_law) c50 (nth_of hf 42 rfl rfl)
  have b50 := F50.binds (ps := ["_law_script"]) fun _ _ _ _ _ _ us hl => match us, hl with | [_], _ => rfl
  have to49 := tab_one X TB lr49 (PySem.W.mg_of X G a49) ll49 ld49 (lv49.trans cv49) lc49 le49
  have tat : TabsAt K h [((A.getD 72 0), (A.getD 73 0))] := by
    refine ⟨fun p hp => ?_, fun p hp => ?_, fun p hp => ?_⟩ <;> simp only [List.mem_cons, List.mem_nil_iff, or_false] at hp <;> rcases hp with rfl
    · exact to49.2
    · exact ln49
    · exact to49.1
  have e := hfa.symm.trans (PySem.W.mg_of X G a50)
  cases e
  refine ⟨nol, fd50, ct, [((A.getD 72 0), (A.getD 73 0))], tat, rfl, fun s v => by rw [fe50]; exact .of_eq rfl, fun base _ _ smb htb => ?_⟩
  have T : Tx w K mg base (fun n => match n with | 50049 => (A.getD 72 0) | 60049 => (A.getD 73 0) | 26 => (A.getD 24 0) | 29 => (A.getD 25 0) | 30 => (A.getD 26 0) | 31 => (A.getD 27 0) | 32 => (A.getD 28 0) | 33 => (A.getD 29 0) | 35 => (A.getD 30 0) | 36 => (A.getD 31 0) | 37 => (A.getD 33 0) | 39 => (A.getD 34 0) | 43 => (A.getD 65 0) | 44 => (A.getD 66 0) | 45 => (A.getD 70 0) | 46 => (A.getD 67 0) | 47 => (A.getD 68 0) | 48 => (A.getD 69 0) | 49 => (A.getD 71 0) | 50 => (A.getD 74 0) | 1000 => (A.getD 32 0) | 1001 => (A.getD 37 0) | 1002 => (A.getD 39 0) | 1003 => (A.getD 41 0) | 1004 => (A.getD 43 0) | 1005 => (A.getD 44 0) | 1006 => (A.getD 45 0) | 1007 => (A.getD 50 0) | 1008 => (A.getD 51 0) | 1009 => (A.getD 52 0) | 1010 => (A.getD 53 0) | 1011 => (A.getD 54 0) | 1300 => (A.getD 46 0) | 1700 => (A.getD 35 0) | 2000 => (A.getD 47 0) | 2600 => (A.getD 48 0) | 2700 => (A.getD 49 0) | 3300 => (A.getD 55 0) | 3301 => (A.getD 57 0) | 3302 => (A.getD 59 0) | 3303 => (A.getD 60 0) | 3304 => (A.getD 61 0) | 3305 => (A.getD 62 0) | 3306 => (A.getD 63 0) | 3307 => (A.getD 64 0) | _ => 0) (fun n => match n with | 26 => fd26 | 29 => fd29 | 30 => fd30 | 31 => fd31 | 32 => fd32 | 33 => fd33 | 35 => fd35 | 36 => fd36 | 37 => fd37 | 39 => fd39 | 43 => fd43 | 44 => fd44 | 45 => fd45 | 46 => fd46 | 47 => fd47 | 48 => fd48 | 49 => fd49 | 50 => fd50 | 1000 => fd1000 | 1001 => fd1001 | 1002 => fd1002 | 1003 => fd1003 | 1004 => fd1004 | 1005 => fd1005 | 1006 => fd1006 | 1007 => fd1007 | 1008 => fd1008 | 1009 => fd1009 | 1010 => fd1010 | 1011 => fd1011 | 1300 => fd1300 | 1700 => fd1700 | 2000 => fd2000 | 2600 => fd2600 | 2700 => fd2700 | 3300 => fd3300 | 3301 => fd3301 | 3302 => fd3302 | 3303 => fd3303 | 3304 => fd3304 | 3305 => fd3305 | 3306 => fd3306 | 3307 => fd3307 | _ => fd50) := ⟨PySem.W.mg_none_of X G z_isinstance, PySem.W.mg_none_of X G z_str, PySem.W.mg_none_of X G z_len, PySem.W.mg_none_of X G z_all, PySem.W.mg_none_of X G z_tuple, PySem.W.mg_none_of X G z_set, PySem.W.mg_none_of X G z_any, PySem.W.mg_none_of X G z_int, PySem.W.mg_none_of X G z_abs, PySem.W.mg_none_of X G z_divmod, PySem.W.mg_none_of X G z_repr, PySem.W.mg_none_of X G z_range, PySem.W.mg_none_of X G z_min, PySem.W.mg_none_of X G z_max, ⟨_, PySem.W.mg_of X G n_LETTERS⟩, ⟨_, PySem.W.mg_of X G n_MOST_COPIES⟩, F26, PySem.W.mg_of X G a26, b26, F29, PySem.W.mg_of X G a29, b29, F30, PySem.W.mg_of X G a30, b30, F31, PySem.W.mg_of X G a31, b31, F32, PySem.W.mg_of X G a32, b32, F33, PySem.W.mg_of X G a33, b33, F35, PySem.W.mg_of X G a35, b35, F36, PySem.W.mg_of X G a36, b36, F1000, b1000, F37, PySem.W.mg_of X G a37, b37, F39, PySem.W.mg_of X G a39, b39, F1700, b1700, F1001, ⟨(A.getD 36 0), ap1001, gp1001, tp1001, ⟨_, rp1001⟩⟩, b1001, F1002, ⟨(A.getD 38 0), ap1002, gp1002, tp1002, ⟨_, rp1002⟩⟩, b1002, F1003, ⟨(A.getD 40 0), ap1003, gp1003, tp1003, ⟨_, rp1003⟩⟩, b1003, F1004, ⟨(A.getD 42 0), ap1004, gp1004, tp1004, ⟨_, rp1004⟩⟩, b1004, F1005, ⟨a1005, i1005, k1005⟩, b1005, F1006, ⟨a1006, i1006, k1006⟩, b1006, F1300, b1300, F2000, b2000, F2600, b2600, F2700, b2700, F1007, ⟨a1007, i1007, k1007⟩, b1007, F1008, ⟨a1008, i1008, k1008⟩, b1008, F1009, ⟨a1009, i1009, k1009⟩, b1009, F1010, ⟨a1010, i1010, k1010⟩, b1010, F1011, ⟨a1011, i1011, k1011⟩, b1011, F3300, b3300, F3301, ⟨(A.getD 56 0), ap3301, gp3301, tp3301, ⟨_, rp3301⟩⟩, b3301, F3302, ⟨(A.getD 58 0), ap3302, gp3302, tp3302, ⟨_, rp3302⟩⟩, b3302, F3303, ⟨a3303, i3303, k3303⟩, b3303, F3304, ⟨a3304, i3304, k3304⟩, b3304, F3305, ⟨a3305, i3305, k3305⟩, b3305, F3306, ⟨a3306, i3306, k3306⟩, b3306, F3307, ⟨a3307, i3307, k3307⟩, b3307, F43, PySem.W.mg_of X G a43, b43, F44, PySem.W.mg_of X G a44, b44, F46, PySem.W.mg_of X G a46, b46, F47, PySem.W.mg_of X G a47, b47, F48, PySem.W.mg_of X G a48, b48, F45, PySem.W.mg_of X G a45, b45, F49, PySem.W.mg_of X G a49, b49, F50, PySem.W.mg_of X G a50, b50, ⟨pg23, hd23, po23, sa23⟩, qn_Shelf_now_kept, qn_Shelf_past, ⟨mk23, a3300, i3300, kc23⟩, PySem.W.mg_of X G aC23, ⟨pg0, hd0, po0, sa0⟩, ⟨⟨pg0, hd0, po0, sa0⟩, oh0, on0, ot0, om0, oe0, ob0, ol0, oc0_⟩, qn_Web_written, qn_Web_rows, qn_Web_heads, qn_Web_pairs, qn_Web_zigzag_rows, ⟨mk0, a1000, i1000, kc0⟩, PySem.W.mg_of X G aC0, smb, PySem.W.mg_of X G aC1, PySem.W.mg_of X G aC2, PySem.W.mg_of X G aC3, PySem.W.mg_of X G aC4, PySem.W.mg_of X G aC5, PySem.W.mg_of X G aC6, PySem.W.mg_of X G aC7, PySem.W.mg_of X G aC8, PySem.W.mg_of X G aC9, PySem.W.mg_of X G aC10, PySem.W.mg_of X G aC11, PySem.W.mg_of X G aC12, PySem.W.mg_of X G aC13, PySem.W.mg_of X G aC14, PySem.W.mg_of X G aC15, PySem.W.mg_of X G aC16, PySem.W.mg_of X G aC17, PySem.W.mg_of X G aC18, PySem.W.mg_of X G aC19, PySem.W.mg_of X G aC20, PySem.W.mg_of X G aC21, PySem.W.mg_of X G aC22, oexG_VE (all_at xoVE_ (List.mem_of_getElem? (i := 0) rfl)), a1300, beq_iff_eq.mp i1300, (clsB_ok (tag_all (C := 3) cls_ (by decide)) on_ ot_).2.2 _ (by simp), oexG_VE (all_at xoVE_ (List.mem_of_getElem? (i := 1) rfl)), a1700, beq_iff_eq.mp i1700, (clsB_ok (tag_all (C := 7) cls_ (by decide)) on_ ot_).2.2 _ (by simp), oexG_VE (all_at xoVE_ (List.mem_of_getElem? (i := 2) rfl)), a2000, beq_iff_eq.mp i2000, (clsB_ok (tag_all (C := 10) cls_ (by decide)) on_ ot_).2.2 _ (by simp), (ex0_AE (all_at x0AE_ (List.mem_of_getElem? (i := 0) rfl))).1, (ex0_AE (all_at x0AE_ (List.mem_of_getElem? (i := 0) rfl))).2, oexG_AE (all_at xoAE_ (List.mem_of_getElem? (i := 0) rfl)), a2600, beq_iff_eq.mp i2600, (clsB_ok (tag_all (C := 16) cls_ (by decide)) on_ ot_).2.2 _ (by simp), oexG_AE (all_at xoAE_ (List.mem_of_getElem? (i := 1) rfl)), a2700, beq_iff_eq.mp i2700, (clsB_ok (tag_all (C := 17) cls_ (by decide)) on_ ot_).2.2 _ (by simp), (ex0_AE (all_at x0AE_ (List.mem_of_getElem? (i := 1) rfl))).1, (ex0_AE (all_at x0AE_ (List.mem_of_getElem? (i := 1) rfl))).2, fun C h => ⟨(clsB_ok (tag_all (C := C) cls_ h) on_ ot_).2.1, (clsB_ok (tag_all (C := C) cls_ h) on_ ot_).2.2 _ (by simp)⟩, fun C h => ⟨(clsB_ok (tag_all (C := C) cls_ h) on_ ot_).2.1, (clsB_ok (tag_all (C := C) cls_ h) on_ ot_).2.2 _ (by simp)⟩, fun C h => ⟨(clsB_ok (tag_all (C := C) cls_ h) on_ ot_).2.1, (clsB_ok (tag_all (C := C) cls_ h) on_ ot_).2.2 _ (by simp)⟩, fun C h => ⟨(clsB_ok (tag_all (C := C) cls_ h) on_ ot_).2.1, (clsB_ok (tag_all (C := C) cls_ h) on_ ot_).2.2 _ (by simp)⟩, fun C h => ⟨(clsB_ok (tag_all (C := C) cls_ h) on_ ot_).1, tag_map (L := ([(A.getD 0 0), (A.getD 1 0), (A.getD 2 0), (A.getD 3 0), (A.getD 4 0), (A.getD 5 0), (A.getD 6 0), (A.getD 7 0), (A.getD 8 0), (A.getD 9 0), (A.getD 10 0), (A.getD 11 0), (A.getD 12 0), (A.getD 13 0), (A.getD 14 0), (A.getD 15 0), (A.getD 16 0), (A.getD 17 0), (A.getD 18 0), (A.getD 19 0), (A.getD 20 0), (A.getD 21 0), (A.getD 22 0), (A.getD 23 0)] : List Addr)) (f := fun D => PySem.W.kitOne K (.ref D) (.ref (A.getD 18 0))) (t := tabX_Broken) (b := 1) (n := 20) (C := C) kt_Broken h⟩, fun C h => ⟨(clsB_ok (tag_all (C := C) cls_ h) on_ ot_).1, tag_map (L := ([(A.getD 0 0), (A.getD 1 0), (A.getD 2 0), (A.getD 3 0), (A.getD 4 0), (A.getD 5 0), (A.getD 6 0), (A.getD 7 0), (A.getD 8 0), (A.getD 9 0), (A.getD 10 0), (A.getD 11 0), (A.getD 12 0), (A.getD 13 0), (A.getD 14 0), (A.getD 15 0), (A.getD 16 0), (A.getD 17 0), (A.getD 18 0), (A.getD 19 0), (A.getD 20 0), (A.getD 21 0), (A.getD 22 0), (A.getD 23 0)] : List Addr)) (f := fun D => PySem.W.kitOne K (.ref D) (.ref (A.getD 17 0))) (t := tabX_FullSource) (b := 1) (n := 20) (C := C) kt_FullSource h⟩, fun C h => ⟨(clsB_ok (tag_all (C := C) cls_ h) on_ ot_).1, tag_map (L := ([(A.getD 0 0), (A.getD 1 0), (A.getD 2 0), (A.getD 3 0), (A.getD 4 0), (A.getD 5 0), (A.getD 6 0), (A.getD 7 0), (A.getD 8 0), (A.getD 9 0), (A.getD 10 0), (A.getD 11 0), (A.getD 12 0), (A.getD 13 0), (A.getD 14 0), (A.getD 15 0), (A.getD 16 0), (A.getD 17 0), (A.getD 18 0), (A.getD 19 0), (A.getD 20 0), (A.getD 21 0), (A.getD 22 0), (A.getD 23 0)] : List Addr)) (f := fun D => PySem.W.kitOne K (.ref D) (.ref (A.getD 19 0))) (t := tabX_InUse) (b := 1) (n := 20) (C := C) kt_InUse h⟩, fun C h => ⟨(clsB_ok (tag_all (C := C) cls_ h) on_ ot_).1, tag_map (L := ([(A.getD 0 0), (A.getD 1 0), (A.getD 2 0), (A.getD 3 0), (A.getD 4 0), (A.getD 5 0), (A.getD 6 0), (A.getD 7 0), (A.getD 8 0), (A.getD 9 0), (A.getD 10 0), (A.getD 11 0), (A.getD 12 0), (A.getD 13 0), (A.getD 14 0), (A.getD 15 0), (A.getD 16 0), (A.getD 17 0), (A.getD 18 0), (A.getD 19 0), (A.getD 20 0), (A.getD 21 0), (A.getD 22 0), (A.getD 23 0)] : List Addr)) (f := fun D => PySem.W.kitOne K (.ref D) (.ref (A.getD 6 0))) (t := tabX_InvalidChoice) (b := 1) (n := 20) (C := C) kt_InvalidChoice h⟩, fun C h => ⟨(clsB_ok (tag_all (C := C) cls_ h) on_ ot_).1, tag_map (L := ([(A.getD 0 0), (A.getD 1 0), (A.getD 2 0), (A.getD 3 0), (A.getD 4 0), (A.getD 5 0), (A.getD 6 0), (A.getD 7 0), (A.getD 8 0), (A.getD 9 0), (A.getD 10 0), (A.getD 11 0), (A.getD 12 0), (A.getD 13 0), (A.getD 14 0), (A.getD 15 0), (A.getD 16 0), (A.getD 17 0), (A.getD 18 0), (A.getD 19 0), (A.getD 20 0), (A.getD 21 0), (A.getD 22 0), (A.getD 23 0)] : List Addr)) (f := fun D => PySem.W.kitOne K (.ref D) (.ref (A.getD 5 0))) (t := tabX_InvalidClaim) (b := 1) (n := 20) (C := C) kt_InvalidClaim h⟩, fun C h => ⟨(clsB_ok (tag_all (C := C) cls_ h) on_ ot_).1, tag_map (L := ([(A.getD 0 0), (A.getD 1 0), (A.getD 2 0), (A.getD 3 0), (A.getD 4 0), (A.getD 5 0), (A.getD 6 0), (A.getD 7 0), (A.getD 8 0), (A.getD 9 0), (A.getD 10 0), (A.getD 11 0), (A.getD 12 0), (A.getD 13 0), (A.getD 14 0), (A.getD 15 0), (A.getD 16 0), (A.getD 17 0), (A.getD 18 0), (A.getD 19 0), (A.getD 20 0), (A.getD 21 0), (A.getD 22 0), (A.getD 23 0)] : List Addr)) (f := fun D => PySem.W.kitOne K (.ref D) (.ref (A.getD 14 0))) (t := tabX_InvalidFreed) (b := 1) (n := 20) (C := C) kt_InvalidFreed h⟩, fun C h => ⟨(clsB_ok (tag_all (C := C) cls_ h) on_ ot_).1, tag_map (L := ([(A.getD 0 0), (A.getD 1 0), (A.getD 2 0), (A.getD 3 0), (A.getD 4 0), (A.getD 5 0), (A.getD 6 0), (A.getD 7 0), (A.getD 8 0), (A.getD 9 0), (A.getD 10 0), (A.getD 11 0), (A.getD 12 0), (A.getD 13 0), (A.getD 14 0), (A.getD 15 0), (A.getD 16 0), (A.getD 17 0), (A.getD 18 0), (A.getD 19 0), (A.getD 20 0), (A.getD 21 0), (A.getD 22 0), (A.getD 23 0)] : List Addr)) (f := fun D => PySem.W.kitOne K (.ref D) (.ref (A.getD 4 0))) (t := tabX_InvalidIndex) (b := 1) (n := 20) (C := C) kt_InvalidIndex h⟩, fun C h => ⟨(clsB_ok (tag_all (C := C) cls_ h) on_ ot_).1, tag_map (L := ([(A.getD 0 0), (A.getD 1 0), (A.getD 2 0), (A.getD 3 0), (A.getD 4 0), (A.getD 5 0), (A.getD 6 0), (A.getD 7 0), (A.getD 8 0), (A.getD 9 0), (A.getD 10 0), (A.getD 11 0), (A.getD 12 0), (A.getD 13 0), (A.getD 14 0), (A.getD 15 0), (A.getD 16 0), (A.getD 17 0), (A.getD 18 0), (A.getD 19 0), (A.getD 20 0), (A.getD 21 0), (A.getD 22 0), (A.getD 23 0)] : List Addr)) (f := fun D => PySem.W.kitOne K (.ref D) (.ref (A.getD 3 0))) (t := tabX_InvalidName) (b := 1) (n := 20) (C := C) kt_InvalidName h⟩, fun C h => ⟨(clsB_ok (tag_all (C := C) cls_ h) on_ ot_).1, tag_map (L := ([(A.getD 0 0), (A.getD 1 0), (A.getD 2 0), (A.getD 3 0), (A.getD 4 0), (A.getD 5 0), (A.getD 6 0), (A.getD 7 0), (A.getD 8 0), (A.getD 9 0), (A.getD 10 0), (A.getD 11 0), (A.getD 12 0), (A.getD 13 0), (A.getD 14 0), (A.getD 15 0), (A.getD 16 0), (A.getD 17 0), (A.getD 18 0), (A.getD 19 0), (A.getD 20 0), (A.getD 21 0), (A.getD 22 0), (A.getD 23 0)] : List Addr)) (f := fun D => PySem.W.kitOne K (.ref D) (.ref (A.getD 2 0))) (t := tabX_InvalidNumber) (b := 1) (n := 20) (C := C) kt_InvalidNumber h⟩, fun C h => ⟨(clsB_ok (tag_all (C := C) cls_ h) on_ ot_).1, tag_map (L := ([(A.getD 0 0), (A.getD 1 0), (A.getD 2 0), (A.getD 3 0), (A.getD 4 0), (A.getD 5 0), (A.getD 6 0), (A.getD 7 0), (A.getD 8 0), (A.getD 9 0), (A.getD 10 0), (A.getD 11 0), (A.getD 12 0), (A.getD 13 0), (A.getD 14 0), (A.getD 15 0), (A.getD 16 0), (A.getD 17 0), (A.getD 18 0), (A.getD 19 0), (A.getD 20 0), (A.getD 21 0), (A.getD 22 0), (A.getD 23 0)] : List Addr)) (f := fun D => PySem.W.kitOne K (.ref D) (.ref (A.getD 13 0))) (t := tabX_InvalidOffers) (b := 1) (n := 20) (C := C) kt_InvalidOffers h⟩, fun C h => ⟨(clsB_ok (tag_all (C := C) cls_ h) on_ ot_).1, tag_map (L := ([(A.getD 0 0), (A.getD 1 0), (A.getD 2 0), (A.getD 3 0), (A.getD 4 0), (A.getD 5 0), (A.getD 6 0), (A.getD 7 0), (A.getD 8 0), (A.getD 9 0), (A.getD 10 0), (A.getD 11 0), (A.getD 12 0), (A.getD 13 0), (A.getD 14 0), (A.getD 15 0), (A.getD 16 0), (A.getD 17 0), (A.getD 18 0), (A.getD 19 0), (A.getD 20 0), (A.getD 21 0), (A.getD 22 0), (A.getD 23 0)] : List Addr)) (f := fun D => PySem.W.kitOne K (.ref D) (.ref (A.getD 10 0))) (t := tabX_InvalidSources) (b := 1) (n := 20) (C := C) kt_InvalidSources h⟩, fun C h => ⟨(clsB_ok (tag_all (C := C) cls_ h) on_ ot_).1, tag_map (L := ([(A.getD 0 0), (A.getD 1 0), (A.getD 2 0), (A.getD 3 0), (A.getD 4 0), (A.getD 5 0), (A.getD 6 0), (A.getD 7 0), (A.getD 8 0), (A.getD 9 0), (A.getD 10 0), (A.getD 11 0), (A.getD 12 0), (A.getD 13 0), (A.getD 14 0), (A.getD 15 0), (A.getD 16 0), (A.getD 17 0), (A.getD 18 0), (A.getD 19 0), (A.getD 20 0), (A.getD 21 0), (A.getD 22 0), (A.getD 23 0)] : List Addr)) (f := fun D => PySem.W.kitOne K (.ref D) (.ref (A.getD 1 0))) (t := tabX_InvalidText) (b := 1) (n := 20) (C := C) kt_InvalidText h⟩, fun C h => ⟨(clsB_ok (tag_all (C := C) cls_ h) on_ ot_).1, tag_map (L := ([(A.getD 0 0), (A.getD 1 0), (A.getD 2 0), (A.getD 3 0), (A.getD 4 0), (A.getD 5 0), (A.getD 6 0), (A.getD 7 0), (A.getD 8 0), (A.getD 9 0), (A.getD 10 0), (A.getD 11 0), (A.getD 12 0), (A.getD 13 0), (A.getD 14 0), (A.getD 15 0), (A.getD 16 0), (A.getD 17 0), (A.getD 18 0), (A.getD 19 0), (A.getD 20 0), (A.getD 21 0), (A.getD 22 0), (A.getD 23 0)] : List Addr)) (f := fun D => PySem.W.kitOne K (.ref D) (.ref (A.getD 11 0))) (t := tabX_InvalidTold) (b := 1) (n := 20) (C := C) kt_InvalidTold h⟩, fun C h => ⟨(clsB_ok (tag_all (C := C) cls_ h) on_ ot_).1, tag_map (L := ([(A.getD 0 0), (A.getD 1 0), (A.getD 2 0), (A.getD 3 0), (A.getD 4 0), (A.getD 5 0), (A.getD 6 0), (A.getD 7 0), (A.getD 8 0), (A.getD 9 0), (A.getD 10 0), (A.getD 11 0), (A.getD 12 0), (A.getD 13 0), (A.getD 14 0), (A.getD 15 0), (A.getD 16 0), (A.getD 17 0), (A.getD 18 0), (A.getD 19 0), (A.getD 20 0), (A.getD 21 0), (A.getD 22 0), (A.getD 23 0)] : List Addr)) (f := fun D => PySem.W.kitOne K (.ref D) (.ref (A.getD 12 0))) (t := tabX_InvalidWeights) (b := 1) (n := 20) (C := C) kt_InvalidWeights h⟩, fun C h => ⟨(clsB_ok (tag_all (C := C) cls_ h) on_ ot_).1, tag_map (L := ([(A.getD 0 0), (A.getD 1 0), (A.getD 2 0), (A.getD 3 0), (A.getD 4 0), (A.getD 5 0), (A.getD 6 0), (A.getD 7 0), (A.getD 8 0), (A.getD 9 0), (A.getD 10 0), (A.getD 11 0), (A.getD 12 0), (A.getD 13 0), (A.getD 14 0), (A.getD 15 0), (A.getD 16 0), (A.getD 17 0), (A.getD 18 0), (A.getD 19 0), (A.getD 20 0), (A.getD 21 0), (A.getD 22 0), (A.getD 23 0)] : List Addr)) (f := fun D => PySem.W.kitOne K (.ref D) (.ref (A.getD 22 0))) (t := tabX_NoAnswer) (b := 1) (n := 20) (C := C) kt_NoAnswer h⟩, fun C h => ⟨(clsB_ok (tag_all (C := C) cls_ h) on_ ot_).1, tag_map (L := ([(A.getD 0 0), (A.getD 1 0), (A.getD 2 0), (A.getD 3 0), (A.getD 4 0), (A.getD 5 0), (A.getD 6 0), (A.getD 7 0), (A.getD 8 0), (A.getD 9 0), (A.getD 10 0), (A.getD 11 0), (A.getD 12 0), (A.getD 13 0), (A.getD 14 0), (A.getD 15 0), (A.getD 16 0), (A.getD 17 0), (A.getD 18 0), (A.getD 19 0), (A.getD 20 0), (A.getD 21 0), (A.getD 22 0), (A.getD 23 0)] : List Addr)) (f := fun D => PySem.W.kitOne K (.ref D) (.ref (A.getD 15 0))) (t := tabX_NoChoice) (b := 1) (n := 20) (C := C) kt_NoChoice h⟩, fun C h => ⟨(clsB_ok (tag_all (C := C) cls_ h) on_ ot_).1, tag_map (L := ([(A.getD 0 0), (A.getD 1 0), (A.getD 2 0), (A.getD 3 0), (A.getD 4 0), (A.getD 5 0), (A.getD 6 0), (A.getD 7 0), (A.getD 8 0), (A.getD 9 0), (A.getD 10 0), (A.getD 11 0), (A.getD 12 0), (A.getD 13 0), (A.getD 14 0), (A.getD 15 0), (A.getD 16 0), (A.getD 17 0), (A.getD 18 0), (A.getD 19 0), (A.getD 20 0), (A.getD 21 0), (A.getD 22 0), (A.getD 23 0)] : List Addr)) (f := fun D => PySem.W.kitOne K (.ref D) (.ref (A.getD 9 0))) (t := tabX_NotAShelf) (b := 1) (n := 20) (C := C) kt_NotAShelf h⟩, fun C h => ⟨(clsB_ok (tag_all (C := C) cls_ h) on_ ot_).1, tag_map (L := ([(A.getD 0 0), (A.getD 1 0), (A.getD 2 0), (A.getD 3 0), (A.getD 4 0), (A.getD 5 0), (A.getD 6 0), (A.getD 7 0), (A.getD 8 0), (A.getD 9 0), (A.getD 10 0), (A.getD 11 0), (A.getD 12 0), (A.getD 13 0), (A.getD 14 0), (A.getD 15 0), (A.getD 16 0), (A.getD 17 0), (A.getD 18 0), (A.getD 19 0), (A.getD 20 0), (A.getD 21 0), (A.getD 22 0), (A.getD 23 0)] : List Addr)) (f := fun D => PySem.W.kitOne K (.ref D) (.ref (A.getD 8 0))) (t := tabX_NotAWeb) (b := 1) (n := 20) (C := C) kt_NotAWeb h⟩, fun C h => ⟨(clsB_ok (tag_all (C := C) cls_ h) on_ ot_).1, tag_map (L := ([(A.getD 0 0), (A.getD 1 0), (A.getD 2 0), (A.getD 3 0), (A.getD 4 0), (A.getD 5 0), (A.getD 6 0), (A.getD 7 0), (A.getD 8 0), (A.getD 9 0), (A.getD 10 0), (A.getD 11 0), (A.getD 12 0), (A.getD 13 0), (A.getD 14 0), (A.getD 15 0), (A.getD 16 0), (A.getD 17 0), (A.getD 18 0), (A.getD 19 0), (A.getD 20 0), (A.getD 21 0), (A.getD 22 0), (A.getD 23 0)] : List Addr)) (f := fun D => PySem.W.kitOne K (.ref D) (.ref (A.getD 20 0))) (t := tabX_NothingToUndo) (b := 1) (n := 20) (C := C) kt_NothingToUndo h⟩, fun C h => ⟨(clsB_ok (tag_all (C := C) cls_ h) on_ ot_).1, tag_map (L := ([(A.getD 0 0), (A.getD 1 0), (A.getD 2 0), (A.getD 3 0), (A.getD 4 0), (A.getD 5 0), (A.getD 6 0), (A.getD 7 0), (A.getD 8 0), (A.getD 9 0), (A.getD 10 0), (A.getD 11 0), (A.getD 12 0), (A.getD 13 0), (A.getD 14 0), (A.getD 15 0), (A.getD 16 0), (A.getD 17 0), (A.getD 18 0), (A.getD 19 0), (A.getD 20 0), (A.getD 21 0), (A.getD 22 0), (A.getD 23 0)] : List Addr)) (f := fun D => PySem.W.kitOne K (.ref D) (.ref (A.getD 16 0))) (t := tabX_TooMany) (b := 1) (n := 20) (C := C) kt_TooMany h⟩, fun C h => ⟨(clsB_ok (tag_all (C := C) cls_ h) on_ ot_).1, tag_map (L := ([(A.getD 0 0), (A.getD 1 0), (A.getD 2 0), (A.getD 3 0), (A.getD 4 0), (A.getD 5 0), (A.getD 6 0), (A.getD 7 0), (A.getD 8 0), (A.getD 9 0), (A.getD 10 0), (A.getD 11 0), (A.getD 12 0), (A.getD 13 0), (A.getD 14 0), (A.getD 15 0), (A.getD 16 0), (A.getD 17 0), (A.getD 18 0), (A.getD 19 0), (A.getD 20 0), (A.getD 21 0), (A.getD 22 0), (A.getD 23 0)] : List Addr)) (f := fun D => PySem.W.kitOne K (.ref D) (.ref (A.getD 7 0))) (t := tabX_UnknownName) (b := 1) (n := 20) (C := C) kt_UnknownName h⟩, fun C h => ⟨(clsB_ok (tag_all (C := C) cls_ h) on_ ot_).1, tag_map (L := ([(A.getD 0 0), (A.getD 1 0), (A.getD 2 0), (A.getD 3 0), (A.getD 4 0), (A.getD 5 0), (A.getD 6 0), (A.getD 7 0), (A.getD 8 0), (A.getD 9 0), (A.getD 10 0), (A.getD 11 0), (A.getD 12 0), (A.getD 13 0), (A.getD 14 0), (A.getD 15 0), (A.getD 16 0), (A.getD 17 0), (A.getD 18 0), (A.getD 19 0), (A.getD 20 0), (A.getD 21 0), (A.getD 22 0), (A.getD 23 0)] : List Addr)) (f := fun D => PySem.W.kitOne K (.ref D) (.ref (A.getD 21 0))) (t := tabX_WrongValue) (b := 1) (n := 20) (C := C) kt_WrongValue h⟩, xb_FullSource, xy_FullSource, xb_InvalidName, xy_InvalidName, xb_InvalidSources, xy_InvalidSources, xb_NothingToUndo, xy_NothingToUndo, xb_TooMany, xy_TooMany, xb_UnknownName, xy_UnknownName, fun C h => tag_map (L := ([(A.getD 0 0), (A.getD 1 0), (A.getD 2 0), (A.getD 3 0), (A.getD 4 0), (A.getD 5 0), (A.getD 6 0), (A.getD 7 0), (A.getD 8 0), (A.getD 9 0), (A.getD 10 0), (A.getD 11 0), (A.getD 12 0), (A.getD 13 0), (A.getD 14 0), (A.getD 15 0), (A.getD 16 0), (A.getD 17 0), (A.getD 18 0), (A.getD 19 0), (A.getD 20 0), (A.getD 21 0), (A.getD 22 0), (A.getD 23 0)] : List Addr)) (f := fun D => PySem.W.exmAny K (.ref D) [.ref (A.getD 21 0), .ref (A.getD 22 0)]) (t := fun _ => true) (b := 1) (n := 20) (C := C) hx_ h, ⟨lv49.trans cv49, htb _ (List.mem_of_getElem? (i := 0) rfl), List.mem_of_getElem? (i := 0) rfl, one_of (show (ct.tb.map (·.1)).Nodup from ndp) (List.mem_of_getElem? (i := 0) rfl)⟩, ⟨⟨om23, iq23, in23⟩, ⟨⟨pg23, hd23, po23, sa23⟩, oh23, on23, ot23, om23⟩, dk23, dl23, dd23_, ds23, dn23, dw23, dv23⟩⟩
  exact FnG.imp (ok_law T) (spLaw_of maths)
end K42
set_option Elab.async false
set_option linter.all false
set_option maxRecDepth 100000
set_option maxHeartbeats 4000000
open PySem PySem.W PySem.Calls PyProof.Rows
set_option maxRecDepth 100000 in
set_option maxHeartbeats 0 in
theorem PySem.Challenge.cw_basetrees_k42_shelves_refused_holds : PySem.Challenge.rw_basetrees_k42_shelves_refused.Holds := by
  w_on; o_law
  refine HandSHeadRun.head_any (r := OpenLaw.row PySem.Challenge.rw_basetrees_k42_shelves_refused) (q := K42.qv) (H := Dn.hookU K42.obsK K42.valK) (ob := Dn.obU K42.obsK) (M := 20000) (loose := K42.looseN) (d := HandSHeadRun.topDef (OpenLaw.row PySem.Challenge.rw_basetrees_k42_shelves_refused).prog 50) (kwd := []) Dn.obU_eq
    (by kernel_rfl) (fun s => by kernel_rfl) K42.run (by kernel_rfl) (by kernel_rfl) (by kernel_rfl) (by rfl) (by first | assumption | decide +kernel) (by decide +kernel) ⟨rfl, rfl, rfl, rfl, rfl, by decide +kernel⟩ ?hw ?hc
  case hw => w_witness2
  case hc =>
    refine Dn.walk_lawE (l := PySem.Challenge.rw_basetrees_k42_shelves_refused) (k := 14) (x := "_law_script") rfl (by kernel_rfl) ⟨rfl, by decide, by decide⟩ (by kernel_rfl) ?F
    intro w mg fa h Y TB G hmg0
    obtain ⟨K, KX, c⟩ := Y
    have hmg : mg ("law" : PySem.Str) = some (.ref fa) := by
      have e : (HandSHeadRun.topDef (OpenLaw.row PySem.Challenge.rw_basetrees_k42_shelves_refused).prog 50).name = ("law" : PySem.Str) := by kernel_rfl
      rw [← e]
      exact hmg0
    obtain ⟨c1, c2⟩ := Dn.obsN_eq c
    exact ⟨K, KX, K42.all_mk TB KX G hmg (by kernel_rfl) c1 c2⟩
